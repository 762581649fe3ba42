/- An own evaluator of the program's form, proved sound, and what it says of this law's functions: part 3. -/
import Derived.Test.YtjhdhgbboomecaaE2
import Derived.Lib.AppendZeros
import Derived.Lib.Bytealg
import Derived.Lib.BytesEntry
import Derived.Lib.SlBytesConst
import Derived.Lib.Walk
import Derived.Shelf.SlSortCmp.InsertionK
import Derived.Sort.AssemblyPlain
import Derived.Test.YtjhdhgbboomecaaChecked
import Derived.Test.YtjhdhgbboomecaaProg
import Derived.WalkKit
set_option linter.unusedVariables false
namespace Go.Eng
variable {P : Program} {tab : Tab}
def cmpV (a b : List V) : Int := bif ZbM (a.map Zan) (b.map Zan) then -1 else bif Zbb (a.map Zan) (b.map Zan) then 0 else 1
theorem compareBytes_lt : ∀ a b : List UInt8, Lib.compareBytes a b = if Op.bytesLess a b = true then -1 else if (a == b) = true then 0 else 1
  | [], [] => rfl
  | [], _ :: _ => rfl
  | _ :: _, [] => rfl
  | x :: a, y :: b => by
    have ih := compareBytes_lt a b
    unfold Lib.compareBytes
    simp only [Op.bytesLess, List.cons_beq_cons, Bool.or_eq_true, Bool.and_eq_true, decide_eq_true_eq]
    by_cases h1 : x < y
    · simp [h1]
    · by_cases h2 : y < x
      · have h3 : x ≠ y := fun e => h1 (e ▸ h2)
        simp [h1, h2, h3]
      · have h3 : x = y := UInt8.le_antisymm (UInt8.not_lt.1 h2) (UInt8.not_lt.1 h1)
        subst h3
        simp [ih]
theorem bytesOf_inl {w : World} {ok : Nat → Prop} {e : TypeId} {et : Ty} (he : tab e = some et) (ha : et.agg = false) (hk : et.kinds = [.int .u8]) {l : List V} {v : Value} (h : Rp tab w ok (.inl e l) v) :
    ∃ s, (Extern.Bytes.bytesOf v).run P w = .ok s w ∧ ZX s = l.map Zan := by
  cases h with | inl _ _ ty a cap g off cv h1 h2 h3 h4 h5 h6 =>
  obtain rfl : et = ty := Option.some.inj (he.symm.trans h1)
  by_cases hl : l = []
  · subst hl
    cases a with
    | none => exact ⟨.empty, by simp [Extern.Bytes.bytesOf], rfl⟩
    | some a => exact ⟨.empty, by simp [Extern.Bytes.bytesOf, Extern.Bytes.loadBytes], rfl⟩
  · obtain ⟨rfl, -⟩ := h3 hl
    have hel : ∀ i, i < l.length → cv i 0 = .int .u8 ((l.getD i .dead).I) := fun i hi => by
      have hs := h4 i hi
      have hc0 : (l.getD i .dead).cell 0 = l.getD i .dead := by
        have hna := hs.2.2.1 ha
        cases hx : l.getD i .dead <;> first | rfl | exact absurd hx (hna _)
      have hkk := hs.2.2.2 0 (by rw [hk]; exact Nat.one_pos)
      have hr := h6 i 0 hi (by rw [hk]; exact Nat.one_pos)
      rw [hk] at hkk
      rw [hc0] at hkk hr
      cases hx : l.getD i .dead <;> rw [hx] at hkk hr <;> simp [kindOk] at hkk
      subst hkk
      rw [hr.int_eq]; rfl
    have hcell : ∀ j x, (l.map V.I)[j]? = some x → w.cell? ((⟨g, off, none⟩ : Addr).add j) = some (.int .u8 x) := fun j x hj => by
      have hlt : j < l.length := by have := (List.getElem?_eq_some_iff.1 hj).1; simpa using this
      have := h5 j 0 hlt (by rw [hk]; exact Nat.one_pos)
      rw [hk] at this
      rw [Addr.add_none]
      simp only [List.length_cons, List.length_nil, Nat.zero_add, Nat.mul_one, Nat.add_zero] at this
      rw [this, hel j hlt]
      have e2 := (List.getElem?_eq_some_iff.1 hj).2
      simp at e2
      rw [← e2]; simp [List.getD, hlt]
    have hrun := Lib.run_loadBytesX (P := P) w (l.map V.I) ⟨g, off, none⟩ .empty hcell
    rw [List.length_map] at hrun
    refine ⟨_, by simp only [Extern.Bytes.bytesOf]; exact hrun, ?_⟩
    simp only [ZX, Lib.bytesOf]
    simp
    intro x _
    simp [Zan]
theorem cmp_spec {a b : ByteArray} {x y : List V} (ha : ZX a = x) (hb : ZX b = y) : Extern.BytealgCompare.cmp a b = bif ZbM x y then -1 else bif Zbb x y then 0 else 1 := by
  rw [Lib.cmp_eq, compareBytes_lt, ← ha, ← hb, strOf_lt, strOf_inj]
  simp only [Bool.cond_eq_ite]
def CmpOk (P : Program) (f : FuncId) : Prop := ∀ (v1 v2 : Value) (c : Int) (w : World), (Extern.BytealgCompare.compare #[v1, v2]).run P w = .ok (.int .i64 c) w → Calls P f #[v1, v2] w fun e w' => e = .returned (.int .i64 c) ∧ KeptBut [] w w'
theorem rq_inl {w : World} {ok : Nat → Prop} {T : TypeId} {l : List V} {v : Value} {t n : List Nat} (h : Rq2 tab w ok (.inl T l) v t n) : Rp tab w ok (.inl T l) v ∧ t = [] ∧ n = [] := by
  cases h with | one h => cases h with | tree h => exact ⟨h, rfl, rfl⟩
theorem sum_cmp {f : FuncId} {e : TypeId} {et : Ty} (he : tab e = some et) (ha : et.agg = false) (hk : et.kinds = [.int .u8]) (hC : CmpOk P f) (a b : List V) : SumOk P tab f [.inl e a, .inl e b] (.int .i64 (cmpV a b), []) := by
  intro w ok vals t n hrq hnd hok hlt
  cases hrq with | @cons _ v t1 n1 _ vs1 ts1 ns1 hx hxs =>
  cases hxs with | @cons _ v2 t2 n2 _ vs2 ts2 ns2 hx2 hxs =>
  cases hxs
  obtain ⟨r1, rfl, rfl⟩ := rq_inl hx
  obtain ⟨r2, rfl, rfl⟩ := rq_inl hx2
  obtain ⟨s1, e1, e2⟩ := bytesOf_inl (P := P) he ha hk r1
  obtain ⟨s2, e3, e4⟩ := bytesOf_inl (P := P) he ha hk r2
  have hrun : (Extern.BytealgCompare.compare #[v, v2]).run P w = .ok (.int .i64 (cmpV a b)) w := by
    change Sem.run P (do pure (goInt (Extern.BytealgCompare.cmp (← Extern.Bytes.bytesOf v) (← Extern.Bytes.bytesOf v2)))) w = _
    simp only [Sem.run_bind, e1, e3, Result.andThen_ok, Sem.run_pure]
    rw [cmp_spec e2 e4]
    rfl
  refine (hC v v2 _ w hrun).mono ?_
  rintro e' w' ⟨rfl, hkp⟩
  exact ⟨_, rfl, [], [], [], [], .one (.one (.tree (.int _ _))), .nil, by simp, by simp, by simp, by simp, hkp.mono (by simp)⟩
def enCmp (hB : Base P tab) {f : FuncId} {fn : Func} (hf : P.funcs[f]? = some fn) (hb : (!(fn.name == "runtime.NumGoroutine") && fn.body.isSome) = true) (e : TypeId) {et : Ty} (he : tab e = some et) (ha : et.agg = false) (hk : et.kinds = [.int .u8]) (hC : CmpOk P f) (par : List (Option TypeId)) : En P tab :=
  { f := f
    s := fun a => bif Za4 [.one (.inl e), .one (.inl e)] a then some (true, (V.int .i64 (cmpV (rd a 0).L (rd a 1).L), [])) else none
    ok := by
      intro args r h
      cases hs : Za4 [.one (.inl e), .one (.inl e)] args with
      | false => rw [hs] at h; cases h
      | true =>
        rw [hs] at h
        simp only [cond_true, Option.some.injEq, Prod.mk.injEq, true_and] at h
        have h2 := h
        have ha' := ZcB (pre := []) hs
        simp only [List.nil_append, List.length_nil, argsMk, S2.mk, S1.mk] at ha'
        rw [← ha', ← h2]
        exact sum_cmp he ha hk hC _ _
    en := ZcV hf hb, par := par, wr := false }
end Go.Eng
namespace Go.Eng
variable {P : Program} {tab : Tab}
structure Reads (P : Program) (w : World) (sz m : Nat) (v : Value) (ys : List Value) : Prop where
  len : ys.length = m * sz
  one : OneL ys
  lenOf : ∀ W, (Builtin.lenOf v).run P W = .ok m W
  cells : ∀ W : World, (∀ g, g < w.heap.size → W.heap[g]? = w.heap[g]?) → (Builtin.firstCells sz m v).run P W = .ok ys.toArray W
end Go.Eng
namespace Go.Eng
end Go.Eng
namespace Go.Eng
variable {P : Program} {tab : Tab}
end Go.Eng
namespace Go.Eng
open Go.Sort Go.Proofs
variable {P : Program} {tab : Tab}
end Go.Eng
namespace Go.Eng
def nlt (a b : List V) : Bool := ZbM (a.map Zan) (b.map Zan)
def neq (a b : List V) : Bool := Zbb (a.map Zan) (b.map Zan)
def Zbq (a : List V) : List Int := a.map fun x => ((x.I.toNat % 256 : Nat) : Int)
theorem Zb1 : ∀ a b : List V, neq a b = decide (Zbq a = Zbq b)
  | [], [] => rfl
  | [], _ :: _ => rfl
  | _ :: _, [] => rfl
  | x :: a, y :: b => by
    have ih := Zb1 a b
    simp only [neq, Zbq, List.map_cons, Zbb, Zan, V.I, List.cons.injEq] at ih ⊢
    rw [ih]
    by_cases h : ((x.I.toNat % 256 : Nat) : Int) = ((y.I.toNat % 256 : Nat) : Int) <;> simp
def ltC : List Int → List Int → Bool
  | _, [] => false
  | [], _ :: _ => true
  | a :: x, b :: y => decide (a < b) || (decide (a = b) && ltC x y)
theorem Zct : ∀ a b : List V, nlt a b = ltC (Zbq a) (Zbq b)
  | [], [] => rfl
  | [], _ :: _ => rfl
  | _ :: _, [] => rfl
  | x :: a, y :: b => by
    have ih := Zct a b
    show (decide ((Zan x).I < (Zan y).I) || (decide ((Zan x).I = (Zan y).I) && nlt a b)) = ltC (Zbq (x :: a)) (Zbq (y :: b))
    rw [ih]
    rfl
theorem ltC_irr : ∀ a, ltC a a = false
  | [] => rfl
  | x :: a => by simp [ltC, ltC_irr a]
theorem ltC_trans : ∀ a b c, ltC a b = true → ltC b c = true → ltC a c = true
  | _, [], _, h, _ => by cases ‹List Int› <;> simp [ltC] at h
  | _, _ :: _, [], _, h => by simp [ltC] at h
  | [], _ :: _, _ :: _, _, _ => rfl
  | x :: a, y :: b, z :: c, h1, h2 => by
    simp only [ltC, Bool.or_eq_true, Bool.and_eq_true, decide_eq_true_eq] at h1 h2 ⊢
    rcases h1 with h1 | ⟨rfl, h1⟩ <;> rcases h2 with h2 | ⟨rfl, h2⟩
    · exact .inl (by omega)
    · exact .inl h1
    · exact .inl h2
    · exact .inr ⟨rfl, ltC_trans a b c h1 h2⟩
theorem ltC_tri : ∀ a b, ltC a b = false → ltC b a = false → a = b
  | [], [], _, _ => rfl
  | [], _ :: _, h, _ => by simp [ltC] at h
  | _ :: _, [], _, h => by simp [ltC] at h
  | x :: a, y :: b, h1, h2 => by
    simp only [ltC, Bool.or_eq_false_iff, decide_eq_false_iff_not, Bool.and_eq_false_iff] at h1 h2
    obtain rfl : x = y := by omega
    rcases h1.2 with h | h
    · exact absurd rfl h
    · rcases h2.2 with h' | h'
      · exact absurd rfl h'
      · rw [ltC_tri a b h h']
theorem nlt_trans {a b c : List V} (h1 : nlt a b = true) (h2 : nlt b c = true) : nlt a c = true := by rw [Zct] at *; exact ltC_trans _ _ _ h1 h2
theorem nlt_neq {a b : List V} (h : nlt a b = true) : neq a b = false := by
  rw [Zct] at h
  rw [Zb1, decide_eq_false_iff_not]
  intro e
  rw [e, ltC_irr] at h; cases h
theorem nlt_congr_r {a b c : List V} (h : neq b c = true) : nlt a b = nlt a c := by
  rw [Zb1, decide_eq_true_eq] at h
  rw [Zct, Zct, h]
theorem nlt_tri {a b : List V} (h1 : nlt a b = false) (h2 : neq a b = false) : nlt b a = true := by
  cases h : nlt b a with
  | true => rfl
  | false =>
    rw [Zct] at h h1
    rw [Zb1, decide_eq_false_iff_not] at h2
    exact absurd (ltC_tri _ _ h1 h) h2
theorem cmpV_neg (a b : List V) : decide (cmpV a b < 0) = nlt a b := by
  show decide ((bif nlt a b then (-1 : Int) else bif neq a b then 0 else 1) < 0) = _
  cases nlt a b <;> cases neq a b <;> rfl
theorem cmpV_nonneg (a b : List V) : decide ((0 : Int) ≤ cmpV a b) = !nlt a b := by
  show decide ((0 : Int) ≤ (bif nlt a b then (-1 : Int) else bif neq a b then 0 else 1)) = _
  cases nlt a b <;> cases neq a b <;> rfl
theorem cmpV_zero (a b : List V) : decide (cmpV a b = 0) = (!nlt a b && neq a b) := by
  show decide ((bif nlt a b then (-1 : Int) else bif neq a b then 0 else 1) = 0) = _
  cases nlt a b <;> cases neq a b <;> rfl
theorem cmpV_zero' (a b : List V) : decide (cmpV a b = 0) = neq a b := by
  rw [cmpV_zero]
  cases h : neq a b with
  | false => simp
  | true =>
    cases h' : nlt a b with
    | false => rfl
    | true => rw [nlt_neq h'] at h; cases h
theorem wr_mid {i j : Nat} (h : i + j < 9223372036854775808) : IntKind.i64.wrap (sShr .u64 (IntKind.u64.wrap (IntKind.i64.wrap ((i : Int) + (j : Int)))) 1) = (((i + j) / 2 : Nat) : Int) := by
  rw [Zax (n := (i : Int) + (j : Int)) (by omega) (by omega)]
  have hu : IntKind.u64.wrap ((i : Int) + (j : Int)) = (i : Int) + (j : Int) := by
    have := IntWalk.u64_in ((i : Int) + (j : Int)) (by omega)
    exact this
  rw [hu]
  have : sShr .u64 ((i : Int) + (j : Int)) 1 = (((i + j) / 2 : Nat) : Int) := by
    unfold sShr
    rw [show ((2 : Int) ^ (min (1 : Int).toNat IntKind.u64.bits)) = 2 from by decide, Int.fdiv_eq_ediv_of_nonneg _ (by omega)]
    omega
  rw [this, Zax (by omega) (by omega)]
theorem bs_loop {ρ : Type} {F : Nat → Int → Int → ρ} {x : List V} {p : V → Bool} {n0 : Nat} {out : Int → ρ} (hx : x.length < 4611686018427387904) (hp : ∀ i, i < x.length → p (rd x i) = decide (i < n0))
    (h1 : ∀ m (i j : Nat), i < j → j ≤ x.length → F (m + 1) (i : Int) (j : Int) = bif p (rd x ((i + j) / 2)) then F m (((i + j) / 2 + 1 : Nat) : Int) (j : Int) else F m (i : Int) (((i + j) / 2 : Nat) : Int)) (h0 : ∀ m (i : Nat), F (m + 1) (i : Int) (i : Int) = out (i : Int)) :
    ∀ m (i j : Nat), i ≤ n0 → n0 ≤ j → j ≤ x.length → j - i < m → F m (i : Int) (j : Int) = out (n0 : Int)
  | 0, i, j, _, _, _, h => by omega
  | m + 1, i, j, hi, hj, hl, hm => by
    rcases Nat.lt_or_ge i j with h | h
    · rw [h1 m i j h hl, hp _ (by omega)]
      by_cases hc : (i + j) / 2 < n0
      · rw [decide_eq_true hc, cond_true]
        exact bs_loop hx hp h1 h0 m _ j (by omega) hj hl (by omega)
      · rw [decide_eq_false hc, cond_false]
        exact bs_loop hx hp h1 h0 m i _ hi (by omega) (by omega) (by omega)
    · obtain rfl : i = j := by omega
      obtain rfl : n0 = i := by omega
      exact h0 m n0
theorem ZcX {ρ : Type} {F : Nat → Int → ρ} {n : Nat} {q : Nat → Bool} {yes no : ρ}
    (h1 : ∀ m (i : Nat), i < n → F (m + 1) (i : Int) = bif q i then F m ((i + 1 : Nat) : Int) else no) (h0 : ∀ m, F (m + 1) (n : Int) = yes) :
    F (n + 1) 0 = bif (List.range n).all q then yes else no := by
  refine ZcW (F := fun m (_ : Unit) i => F m i) (n := n) (fun i _ => (List.range i).all q = true) (fun o => o = bif (List.range n).all q then yes else no) ?_ ?_ (s := ()) (by simp)
  · intro m i s hi hI
    rw [h1 m i hi]
    cases hp : q i with
    | true =>
      refine .inl ⟨(), rfl, ?_⟩
      rw [List.range_succ, List.all_append, hI]; simp [hp]
    | false =>
      refine .inr ?_
      have : (List.range n).all q = false := by
        rw [List.all_eq_false]
        exact ⟨i, List.mem_range.2 hi, by simp [hp]⟩
      rw [this]; rfl
  · intro m s hI
    show F (m + 1) (n : Int) = _
    rw [hI]; exact h0 m
def Zr (q : Nat → Bool) : Nat → Nat → Option Nat
  | _, 0 => none
  | i, k + 1 => bif q i then some i else Zr q (i + 1) k
theorem ZcC {ρ : Type} {F : Nat → Int → ρ} {n : Nat} {q : Nat → Bool} {no : ρ} {out : Int → ρ}
    (h1 : ∀ m (i : Nat), i < n → F (m + 1) (i : Int) = bif q i then out (i : Int) else F m ((i + 1 : Nat) : Int)) (h0 : ∀ m, F (m + 1) (n : Int) = no) :
    ∀ m (i : Nat), i ≤ n → n - i < m → F m (i : Int) = match Zr q i (n - i) with | some j => out (j : Int) | none => no
  | 0, i, _, h => by omega
  | m + 1, i, hi, hm => by
    rcases Nat.lt_or_ge i n with h | h
    · rw [h1 m i h, show n - i = (n - (i + 1)) + 1 from by omega, Zr]
      cases q i with
      | true => rfl
      | false => exact ZcC h1 h0 m (i + 1) (by omega) (by omega)
    · obtain rfl : i = n := by omega
      rw [Nat.sub_self, Zr]; exact h0 m
theorem firstI_none {q : Nat → Bool} : ∀ {k i : Nat}, Zr q i k = none ↔ ∀ j, i ≤ j → j < i + k → q j = false
  | 0, i => by simp [Zr]; omega
  | k + 1, i => by
    rw [Zr]
    cases hq : q i with
    | true => simp; exact ⟨i, Nat.le_refl _, by omega, hq⟩
    | false =>
      rw [cond_false, firstI_none]
      constructor
      · intro h j h1 h2
        rcases Nat.eq_or_lt_of_le h1 with rfl | h3
        · exact hq
        · exact h j h3 (by omega)
      · exact fun h j h1 h2 => h j (by omega) (by omega)
theorem ZW {q : Nat → Bool} : ∀ {k i j : Nat}, Zr q i k = some j → i ≤ j ∧ j < i + k ∧ q j = true ∧ ∀ t, i ≤ t → t < j → q t = false
  | 0, i, j, h => by simp [Zr] at h
  | k + 1, i, j, h => by
    rw [Zr] at h
    cases hq : q i with
    | true =>
      rw [hq, cond_true] at h
      cases h
      exact ⟨Nat.le_refl _, by omega, hq, fun t h1 h2 => by omega⟩
    | false =>
      rw [hq, cond_false] at h
      obtain ⟨a, b, c, d⟩ := ZW h
      refine ⟨by omega, by omega, c, fun t h1 h2 => ?_⟩
      rcases Nat.eq_or_lt_of_le h1 with rfl | h3
      · exact hq
      · exact d t h3 h2
def lbN (nm : V → List V) (l : List V) (t : List V) : Nat := (l.takeWhile fun x => nlt (nm x) t).length
def AscN (nm : V → List V) (l : List V) : Prop := ∀ i, i + 1 < l.length → nlt (nm (rd l i)) (nm (rd l (i + 1))) = true
theorem AscN.lt {nm : V → List V} {l : List V} (h : AscN nm l) : ∀ {j i : Nat}, i < j → j < l.length → nlt (nm (rd l i)) (nm (rd l j)) = true
  | 0, i, h1, _ => by omega
  | j + 1, i, h1, h2 => by
    rcases Nat.eq_or_lt_of_le (Nat.le_of_lt_succ h1) with rfl | h3
    · exact h i h2
    · exact nlt_trans (h.lt h3 (by omega)) (h j h2)
theorem rd_eq {l : List V} {i : Nat} (h : i < l.length) : rd l i = l[i] := by simp [rd, List.getD, h]
theorem takeWhile_spec {l : List V} {p : V → Bool} : (∀ i, i < (l.takeWhile p).length → p (rd l i) = true) ∧ ((l.takeWhile p).length < l.length → p (rd l (l.takeWhile p).length) = false) ∧ (l.takeWhile p).length ≤ l.length := by
  induction l with
  | nil => simp
  | cons x l ih =>
    obtain ⟨h1, h2, h3⟩ := ih
    rw [List.takeWhile_cons]
    cases hp : p x with
    | false => simp [rd, hp]
    | true =>
      simp only [if_true, List.length_cons]
      refine ⟨fun i hi => ?_, fun hlt => ?_, by omega⟩
      · cases i with
        | zero => simpa [rd] using hp
        | succ i => exact h1 i (by omega)
      · exact h2 (by omega)
theorem lbN_le (nm : V → List V) (l : List V) (t : List V) : lbN nm l t ≤ l.length := (takeWhile_spec (l := l)).2.2
theorem lbN_spec {nm : V → List V} {l : List V} (h : AscN nm l) (t : List V) : ∀ i, i < l.length → nlt (nm (rd l i)) t = decide (i < lbN nm l t) := by
  intro i hi
  obtain ⟨h1, h2, h3⟩ := takeWhile_spec (l := l) (p := fun x => nlt (nm x) t)
  by_cases hc : i < lbN nm l t
  · rw [decide_eq_true hc]; exact h1 i hc
  · rw [decide_eq_false hc]
    have h2 := h2 (by unfold lbN at hc; omega)
    rcases Nat.eq_or_lt_of_le (Nat.le_of_not_lt hc) with e | hlt
    · rw [← e]; exact h2
    · have hl : nlt (nm (rd l (lbN nm l t))) (nm (rd l i)) = true := h.lt hlt hi
      cases hh : nlt (nm (rd l i)) t with
      | false => rfl
      | true => have := nlt_trans hl hh; rw [show nlt (nm (rd l (lbN nm l t))) t = false from h2] at this; cases this
def hasN (nm : V → List V) (l : List V) (t : List V) : Bool := decide (lbN nm l t < l.length) && neq (nm (rd l (lbN nm l t))) t
theorem find_asc {nm : V → List V} {l : List V} (h : AscN nm l) (t : List V) : Zr (fun i => neq (nm (rd l i)) t) 0 l.length = bif hasN nm l t then some (lbN nm l t) else none := by
  have hs := lbN_spec h t
  have hle := lbN_le nm l t
  cases hf : Zr (fun i => neq (nm (rd l i)) t) 0 l.length with
  | none =>
    rw [firstI_none] at hf
    have : hasN nm l t = false := by
      unfold hasN
      by_cases hc : lbN nm l t < l.length
      · rw [hf _ (by omega) (by omega)]; simp
      · simp [hc]
    rw [this]; rfl
  | some j =>
    obtain ⟨-, hj, hq, hb⟩ := ZW hf
    have hj : j < l.length := by omega
    have hnl : nlt (nm (rd l j)) t = false := by
      cases hh : nlt (nm (rd l j)) t with
      | false => rfl
      | true => rw [nlt_neq hh] at hq; cases hq
    rw [hs j hj, decide_eq_false_iff_not] at hnl
    have hjl : j = lbN nm l t := by
      rcases Nat.eq_or_lt_of_le (Nat.le_of_not_lt hnl) with e | hlt
      · exact e.symm
      · have := h.lt hlt hj
        rw [nlt_congr_r hq, hs _ (by omega), decide_eq_true_eq] at this
        omega
    have : hasN nm l t = true := by
      unfold hasN
      rw [← hjl]; simp [hj, hq]
    rw [this, hjl]; rfl
end Go.Eng
namespace Go.Eng
section
variable {P : Program} {tab : Tab}
theorem RowT.soft {w : World} {ok : Nat → Prop} {T : TypeId} {els : List V} {v : Value} {nest : List Nat} (h : RowT tab w ok T true els v nest) : RowT tab w (fun g => ok g ∨ g ∈ nest) T false els v [] := by
  obtain ⟨ty, xs, ht, hr, hs, he⟩ := h
  rcases he with ⟨-, F, rfl, he⟩ | ⟨ho, -⟩
  · exact ⟨ty, xs, ht, hr, hs, .inr ⟨rfl, rfl, fun i j hi hj => (he i j hi hj).tree fun g hg => .inr (mem_flatF.2 ⟨i, hi, j, hj, hg⟩)⟩⟩
  · cases ho
theorem after_soft {w w' : World} {ok : Nat → Prop} {args args' : List V} {vals : List Value} {t n m n' : List Nat} {r : V × List V} {val : Value}
    (h : After tab w (fun g => ok g ∨ g ∈ m) args vals t n r val w') (hn : ∀ g, g ∈ n ∨ g ∈ m → g ∈ n')
    (hO : ∀ (R : V → Value → List Nat → List Nat → Prop) ot on, OutL R (Za2 args vals) r.2 ot on → OutL R (Za2 args' vals) r.2 ot on) : After tab w ok args' vals t n' r val w' := by
  obtain ⟨rt, rn, ot, on, h1, h2, h3, h4, h5, h6, h7⟩ := h
  have hk : ∀ g, (((ok g ∨ g ∈ m) ∨ g ∈ t ++ n ∨ w.heap.size ≤ g) ∧ g < w'.heap.size ∧ g ∉ ot ++ rt) → ((ok g ∨ g ∈ t ++ n' ∨ w.heap.size ≤ g) ∧ g < w'.heap.size ∧ g ∉ ot ++ rt) := by
    rintro g ⟨a, b, c⟩
    refine ⟨?_, b, c⟩
    rcases a with (a | a) | a | a
    · exact .inl a
    · exact .inr (.inl (List.mem_append_right _ (hn g (.inr a))))
    · rcases List.mem_append.1 a with a | a
      · exact .inr (.inl (List.mem_append_left _ a))
      · exact .inr (.inl (List.mem_append_right _ (hn g (.inl a))))
    · exact .inr (.inr a)
  refine ⟨rt, rn, ot, on, h1.keep hk, hO _ _ _ (h2.mono fun y _ v t n hy => hy.keep hk), h3, h4, fun g hg => ?_, h6, h7⟩
  rcases h5 g hg with a | a
  · rcases List.mem_append.1 a with a | a
    · exact .inl (List.mem_append_left _ a)
    · exact .inl (List.mem_append_right _ (hn g (.inl a)))
  · exact .inr a
theorem outL_dead2 {R : V → Value → List Nat → List Nat → Prop} {a b a' b' : V} {v u : Value} {ot on : List Nat} (h : OutL R [(a, v), (b, u)] [.dead, .dead] ot on) : OutL R [(a', v), (b', u)] [.dead, .dead] ot on := by
  cases h with | cons h1 h2 h3 =>
  cases h3 with | cons h4 h5 h6 =>
  cases h6
  exact .cons trivial h2 (.cons trivial h5 .nil)
theorem sum_ins_soft {f : FuncId} {T : TypeId} {ty : Ty} {o1 o2 : Bool} {l x r : List V} {i : Int} (ht : tab T = some ty) (hI : InsOk P f T ty.kinds.length ty.bytes) (hv : insV ty.bytes l i x = some r) :
    SumOk P tab f [.rr T o1 l, .int .i64 i, .rr T o2 x] (.rr T (o1 && o2) r, [.dead, .dead]) := by
  have e0 := sum_ins (P := P) (own := false) ht hI hv
  have e1 := sum_ins (P := P) (own := true) ht hI hv
  cases o1 <;> cases o2
  · exact e0
  · intro w ok vals t n hrq hnd hok hlt
    cases hrq with | @cons _ v t1 n1 _ vs1 ts1 ns1 hx hxs =>
    cases hxs with | @cons _ v2 t2 n2 _ vs2 ts2 ns2 hx2 hxs =>
    cases hxs with | @cons _ v3 t3 n3 _ vs3 ts3 ns3 hx3 hxs =>
    cases hxs
    obtain ⟨hrow3, rfl⟩ := rq_rr hx3
    have hI1 : RqL (Rq2 tab w (fun g => ok g ∨ g ∈ n3)) [.rr T false l, .int .i64 i, .rr T false x] [v, v2, v3] (t1 ++ (t2 ++ (Zp v3 ++ []))) (n1 ++ (n2 ++ ([] ++ []))) :=
      .cons (hx.keep fun _ h => .inl h) (.cons (hx2.keep fun _ h => .inl h) (.cons (.one (.row hrow3.soft)) .nil))
    obtain ⟨hd1, hd2, hd3⟩ := List.nodup_append.1 hnd
    have hsub : (n1 ++ (n2 ++ (([] : List Nat) ++ []))).Sublist (n1 ++ (n2 ++ (n3 ++ []))) := (List.Sublist.refl _).append ((List.Sublist.refl _).append ((List.nil_sublist _).append (List.Sublist.refl _)))
    refine Calls.mono (e0 w (fun g => ok g ∨ g ∈ n3) [v, v2, v3] _ _ hI1 (((List.Sublist.refl _).append hsub).nodup hnd) (fun g hg => ?_) fun g hg => hlt g (((List.Sublist.refl _).append hsub).mem hg)) ?_
    · rcases hg with hg | hg
      · exact hok g hg
      · have hm : g ∈ n1 ++ (n2 ++ (n3 ++ [])) := by simp [hg]
        exact ⟨hlt g (List.mem_append_right _ hm), fun ht' => hd3 g ht' g hm rfl⟩
    · rintro e w' ⟨val, he, ha⟩
      exact ⟨val, he, after_soft ha (n' := n1 ++ (n2 ++ (n3 ++ []))) (fun g hg => hg.elim (fun a => hsub.mem a) fun a => by simp [a]) fun R ot on h => outL_dead2 h⟩
  · intro w ok vals t n hrq hnd hok hlt
    cases hrq with | @cons _ v t1 n1 _ vs1 ts1 ns1 hx hxs =>
    cases hxs with | @cons _ v2 t2 n2 _ vs2 ts2 ns2 hx2 hxs =>
    cases hxs with | @cons _ v3 t3 n3 _ vs3 ts3 ns3 hx3 hxs =>
    cases hxs
    obtain ⟨hrow, rfl⟩ := rq_rr hx
    have hI1 : RqL (Rq2 tab w (fun g => ok g ∨ g ∈ n1)) [.rr T false l, .int .i64 i, .rr T false x] [v, v2, v3] (Zp v ++ (t2 ++ (t3 ++ []))) ([] ++ (n2 ++ (n3 ++ []))) :=
      .cons (.one (.row hrow.soft)) (.cons (hx2.keep fun _ h => .inl h) (.cons (hx3.keep fun _ h => .inl h) .nil))
    obtain ⟨hd1, hd2, hd3⟩ := List.nodup_append.1 hnd
    have hsub : (([] : List Nat) ++ (n2 ++ (n3 ++ []))).Sublist (n1 ++ (n2 ++ (n3 ++ []))) := (List.nil_sublist _).append (List.Sublist.refl _)
    refine Calls.mono (e0 w (fun g => ok g ∨ g ∈ n1) [v, v2, v3] _ _ hI1 (((List.Sublist.refl _).append hsub).nodup hnd) (fun g hg => ?_) fun g hg => hlt g (((List.Sublist.refl _).append hsub).mem hg)) ?_
    · rcases hg with hg | hg
      · exact hok g hg
      · have hm : g ∈ n1 ++ (n2 ++ (n3 ++ [])) := List.mem_append_left _ hg
        exact ⟨hlt g (List.mem_append_right _ hm), fun ht' => hd3 g ht' g hm rfl⟩
    · rintro e w' ⟨val, he, ha⟩
      exact ⟨val, he, after_soft ha (n' := n1 ++ (n2 ++ (n3 ++ []))) (fun g hg => hg.elim (fun a => hsub.mem a) fun a => List.mem_append_left _ a) fun R ot on h => outL_dead2 h⟩
  · exact e1
def enIns2 (hB : Base P tab) {f : FuncId} {fn : Func} (hf : P.funcs[f]? = some fn) (hb : (!(fn.name == "runtime.NumGoroutine") && fn.body.isSome) = true) (T : TypeId) {ty : Ty} (ht : tab T = some ty) (o1 o2 : Bool) (bytes : Nat) (hbytes : ty.bytes = bytes) (hI : InsOk P f T ty.kinds.length ty.bytes) (par : List (Option TypeId)) : En P tab :=
  { f := f
    s := fun a => bif Za4 [.one (.rr T o1), .one (.int .i64), .one (.rr T o2)] a then some ((insV bytes (rd a 0).L (rd a 1).I (rd a 2).L).isSome, (V.rr T (o1 && o2) ((insV bytes (rd a 0).L (rd a 1).I (rd a 2).L).getD default), [V.dead, V.dead])) else none
    ok := by
      intro args r h
      cases hs : Za4 [.one (.rr T o1), .one (.int .i64), .one (.rr T o2)] args with
      | false => rw [hs] at h; cases h
      | true =>
        rw [hs] at h
        simp only [cond_true, Option.some.injEq, Prod.mk.injEq] at h
        obtain ⟨h1, h2⟩ := h
        obtain ⟨x, hx⟩ := Option.isSome_iff_exists.1 h1
        rw [hx] at h2
        have ha := ZcB (pre := []) hs
        simp only [List.nil_append, List.length_nil, argsMk, S2.mk, S1.mk] at ha
        rw [← ha, ← h2]
        subst hbytes
        exact sum_ins_soft ht hI hx
    en := ZcV hf hb, par := par, wr := true }
end
end Go.Eng
open Go Go.Eng
namespace Go.Eng.R
def chunks : List (List (Option Ty)) := [
  [none,
   some ⟨[.fn], false, none, [], 8⟩,
   some ⟨[.int .i64], false, none, [], 8⟩,
   some ⟨[.int .i64], false, none, [], 8⟩,
   some ⟨[.bool], false, none, [], 1⟩,
   some ⟨[.int .u8], false, none, [], 1⟩,
   some ⟨[.int .u8], false, none, [], 1⟩,
   some ⟨[.int .i64, .int .i64, .bool, .int .u8], true, none, [(0, 2), (1, 3), (2, 4), (3, 6)], 24⟩,
   some ⟨[.int .i64, .int .i64, .bool, .int .u8], true, none, [(0, 2), (1, 3), (2, 4), (3, 6)], 24⟩,
   some ⟨[.str], false, none, [], 16⟩,
   some ⟨[.str], false, none, [], 16⟩,
   some ⟨[.str], false, none, [], 16⟩,
   some ⟨[.int .u64], false, none, [], 8⟩,
   some ⟨[.str, .int .u64], true, none, [(0, 9), (1, 12)], 24⟩,
   some ⟨[.str, .int .u64], true, none, [(0, 9), (1, 12)], 24⟩,
   some ⟨[.ptr], false, none, [], 8⟩],
  [some ⟨[.ptr], false, none, [], 8⟩,
   some ⟨[.ptr], false, none, [], 8⟩,
   some ⟨[.ptr], true, none, [(0, 17)], 8⟩,
   some ⟨[.ptr], true, none, [(0, 17)], 8⟩,
   none,
   some ⟨[.int .i32], false, none, [], 4⟩,
   some ⟨[.sl 5], false, some 5, [], 24⟩,
   some ⟨[.sl 55], false, some 55, [], 24⟩,
   some ⟨[.sl 58], false, some 58, [], 24⟩,
   some ⟨[.sl 49], false, some 49, [], 24⟩,
   some ⟨[.sl 61], false, some 61, [], 24⟩,
   some ⟨[.int .i64, .sl 55, .sl 58, .int .i64, .sl 49, .sl 61], true, none, [(0, 3), (1, 23), (2, 24), (3, 3), (4, 25), (5, 26)], 112⟩,
   some ⟨[.int .i64, .sl 55, .sl 58, .int .i64, .sl 49, .sl 61], true, none, [(0, 3), (1, 23), (2, 24), (3, 3), (4, 25), (5, 26)], 112⟩,
   some ⟨[.int .i64, .sl 5, .sl 5, .int .i64], true, none, [(0, 3), (1, 22), (2, 22), (3, 3)], 64⟩,
   some ⟨[.int .i64, .sl 5, .sl 5, .int .i64], true, none, [(0, 3), (1, 22), (2, 22), (3, 3)], 64⟩,
   some ⟨[.int .i64, .int .i64, .int .i64, .sl 5, .sl 5, .int .i64], true, none, [(0, 3), (1, 3), (2, 30)], 80⟩],
  [some ⟨[.int .i64, .int .i64, .int .i64, .sl 5, .sl 5, .int .i64], true, none, [(0, 3), (1, 3), (2, 30)], 80⟩,
   none,
   some ⟨[.fn], false, none, [], 8⟩,
   some ⟨[.int .i64, .int .i64], true, none, [(0, 3), (1, 3)], 16⟩,
   some ⟨[.int .i64, .int .i64], true, none, [(0, 3), (1, 3)], 16⟩,
   none,
   some ⟨[.fn], false, none, [], 8⟩,
   some ⟨[.fn], false, none, [], 8⟩,
   some ⟨[.fn], false, none, [], 8⟩,
   some ⟨[.fn], false, none, [], 8⟩,
   some ⟨[.fn], false, none, [], 8⟩,
   some ⟨[.ptr], false, none, [], 8⟩,
   some ⟨[.fn], false, none, [], 8⟩,
   some ⟨[.fn], false, none, [], 8⟩,
   some ⟨[.fn], false, none, [], 8⟩,
   some ⟨[.fn], false, none, [], 8⟩],
  [some ⟨[.int .i64, .bool], true, none, [(0, 3), (1, 4)], 16⟩,
   some ⟨[.int .i64, .bool], true, none, [(0, 3), (1, 4)], 16⟩,
   some ⟨[.fn], false, none, [], 8⟩,
   some ⟨[.fn], false, none, [], 8⟩,
   some ⟨[.fn], false, none, [], 8⟩,
   some ⟨[.fn], false, none, [], 8⟩,
   some ⟨[.sl 5, .sl 5, .int .i64, .int .i64], true, none, [(0, 22), (1, 22), (2, 3), (3, 3)], 64⟩,
   some ⟨[.sl 5, .sl 5, .int .i64, .int .i64], true, none, [(0, 22), (1, 22), (2, 3), (3, 3)], 64⟩,
   some ⟨[.fn], false, none, [], 8⟩,
   some ⟨[.sl 5, .int .i64], true, none, [(0, 22), (1, 3)], 32⟩,
   some ⟨[.sl 5, .int .i64], true, none, [(0, 22), (1, 3)], 32⟩,
   some ⟨[.fn], false, none, [], 8⟩,
   some ⟨[.int .i64, .int .i64, .int .i64, .int .i64], true, none, [(0, 3), (1, 3), (2, 36)], 32⟩,
   some ⟨[.int .i64, .int .i64, .int .i64, .int .i64], true, none, [(0, 3), (1, 3), (2, 36)], 32⟩,
   some ⟨[.fn], false, none, [], 8⟩,
   some ⟨[.fn], false, none, [], 8⟩],
  [some ⟨[.fn], false, none, [], 8⟩,
   some ⟨[.fn], false, none, [], 8⟩,
   none,
   some ⟨[.fn], false, none, [], 8⟩,
   some ⟨[.fn], false, none, [], 8⟩,
   some ⟨[.sl 5, .int .i64, .int .i64], true, none, [(0, 22), (1, 3), (2, 3)], 40⟩,
   some ⟨[.sl 5, .int .i64, .int .i64], true, none, [(0, 22), (1, 3), (2, 3)], 40⟩,
   some ⟨[.fn], false, none, [], 8⟩,
   some ⟨[.sl 3], false, some 3, [], 24⟩,
   some ⟨[.fn], false, none, [], 8⟩,
   some ⟨[.sl 9], false, some 9, [], 24⟩,
   some ⟨[.fn], false, none, [], 8⟩,
   some ⟨[.fn], false, none, [], 8⟩,
   some ⟨[.fn], false, none, [], 8⟩,
   some ⟨[.fn], false, none, [], 8⟩,
   some ⟨[.fn], false, none, [], 8⟩],
  [some ⟨[.fn], false, none, [], 8⟩,
   some ⟨[.fn], false, none, [], 8⟩,
   some ⟨[.fn], false, none, [], 8⟩,
   some ⟨[.ptr], false, none, [], 8⟩,
   some ⟨[.fn], false, none, [], 8⟩,
   some ⟨[.fn], false, none, [], 8⟩,
   some ⟨[.fn], false, none, [], 8⟩,
   some ⟨[.fn], false, none, [], 8⟩,
   some ⟨[.fn], false, none, [], 8⟩,
   some ⟨[.fn], false, none, [], 8⟩,
   some ⟨[.fn], false, none, [], 8⟩,
   some ⟨[.fn], false, none, [], 8⟩,
   some ⟨[.fn], false, none, [], 8⟩,
   some ⟨[.fn], false, none, [], 8⟩,
   some ⟨[.fn], false, none, [], 8⟩,
   some ⟨[.fn], false, none, [], 8⟩],
  [some ⟨[.int .u64], false, none, [], 8⟩,
   some ⟨[.fn], false, none, [], 8⟩,
   some ⟨[.fn], false, none, [], 8⟩,
   some ⟨[.fn], false, none, [], 8⟩,
   some ⟨[.fn], false, none, [], 8⟩,
   some ⟨[.fn], false, none, [], 8⟩,
   some ⟨[.fn], false, none, [], 8⟩,
   some ⟨[.fn], false, none, [], 8⟩,
   some ⟨[.fn], false, none, [], 8⟩,
   some ⟨[.fn], false, none, [], 8⟩,
   some ⟨[.fn], false, none, [], 8⟩,
   some ⟨[.fn], false, none, [], 8⟩,
   some ⟨[.fn], false, none, [], 8⟩,
   some ⟨[.fn], false, none, [], 8⟩,
   some ⟨[.fn], false, none, [], 8⟩,
   some ⟨[.fn], false, none, [], 8⟩],
  [some ⟨[.fn], false, none, [], 8⟩,
   some ⟨[.fn], false, none, [], 8⟩,
   some ⟨[.ptr, .ptr, .ptr, .str], true, none, [(0, 17), (1, 17), (2, 17), (3, 9)], 40⟩,
   some ⟨[.ptr, .ptr, .ptr, .str], true, none, [(0, 17), (1, 17), (2, 17), (3, 9)], 40⟩,
   none,
   none,
   none,
   some ⟨[.fn], false, none, [], 8⟩,
   some ⟨[.int .u32], false, none, [], 4⟩,
   some ⟨[.int .u8], false, none, [], 1⟩,
   some ⟨[.int .u8], false, none, [], 1⟩,
   some ⟨[.fn], false, none, [], 8⟩,
   some ⟨[.ptr], false, none, [], 8⟩,
   some ⟨[.int .i32], false, none, [], 4⟩,
   some ⟨[.int .i32], false, none, [], 4⟩,
   some ⟨[.int .u64, .int .u64, .int .u32, .int .u8, .int .u8, .int .u8, .int .u8, .fn, .ptr, .int .i32, .int .i32], true, none, [(0, 12), (1, 12), (2, 120), (3, 121), (4, 5), (5, 5), (6, 122), (7, 123), (8, 124), (9, 125), (10, 126)], 48⟩],
  [some ⟨[.int .u64, .int .u64, .int .u32, .int .u8, .int .u8, .int .u8, .int .u8, .fn, .ptr, .int .i32, .int .i32], true, none, [(0, 12), (1, 12), (2, 120), (3, 121), (4, 5), (5, 5), (6, 122), (7, 123), (8, 124), (9, 125), (10, 126)], 48⟩,
   some ⟨[.fn], false, none, [], 8⟩,
   none,
   none,
   none,
   none,
   none,
   none,
   none,
   none,
   none,
   none,
   none,
   none,
   none,
   none]]
def tab : Tab := tabOf chunks
abbrev t_int' : TypeId := 3
abbrev Zc : TypeId := 5
abbrev t_sl_byte : TypeId := 22
abbrev Zj : TypeId := 28
abbrev t_impl_Cmd : TypeId := 32
abbrev Zdz : TypeId := 36
abbrev Zd : TypeId := 49
abbrev Zg : TypeId := 55
abbrev Zf : TypeId := 58
abbrev Ze : TypeId := 61
abbrev ZB : TypeId := 70
def Za (x : V) : V := .agg [.int .i64 (gi x 0), .inl Zg (gl x 1), .inl Zf (gl x 2), .int .i64 (gi x 3), .inl Zd (gl x 4), .inl Ze (gl x 5)]
def n_impl_Op (x : V) : V := .agg [.int .i64 (gi x 0), .inl Zc (gl x 1), .inl Zc (gl x 2), .int .i64 (gi x 3)]
def Zn (x : V) : V := .agg [.int .i64 (gi x 0), .int .i64 (gi x 1), .int .i64 (gi x 2), .inl Zc (gl x 3), .inl Zc (gl x 4), .int .i64 (gi x 5)]
def Zw (x : V) : V := .agg [.int .i64 (gi x 0), .int .i64 (gi x 1)]
def Zcu (x : V) : V := .agg [.int .i64 (gi x 0), .bool (gb x 1)]
def n_impl_Row (x : V) : V := .agg [.inl Zc (gl x 0), .inl Zc (gl x 1), .int .i64 (gi x 2), .int .i64 (gi x 3)]
def n_impl_Tomb (x : V) : V := .agg [.inl Zc (gl x 0), .int .i64 (gi x 1)]
def ZdL (x : V) : V := .agg [.int .i64 (gi x 0), .int .i64 (gi x 1), .int .i64 (gi x 2), .int .i64 (gi x 3)]
def Zb (x : V) : V := .agg [.inl Zc (gl x 0), .int .i64 (gi x 1), .int .i64 (gi x 2)]
abbrev vi (n : Int) : V := .int .i64 n
abbrev vs (k : Nat) (T : TypeId) : V := .sl k T 0 none
def noL : Loops := ⟨fun _ => [], fun _ => [], fun _ => [], runL [], [], fun _ => []⟩
theorem Zaw {cfg : Cfg} {fn : Func} : ZH cfg noL (Z0 fn) := GoodAll.ok (l := []) GoodAll.nil rfl
end Go.Eng.R
open Go Go.Eng
namespace Go.Eng.R
def ZbJ : Nat → List V → Int → Int → Option (List V × Int)
  | 0, _, _, _ => none
  | k_ + 1, code0, h3, i4 =>
    bif (decide (i4 < ((code0.length : Nat) : Int))) then
      bif (decide (i4 < 4000)) then
        bif (Zm i4 code0.length) then
          ZbJ k_ code0 (bAnd .i64 (IntKind.i64.wrap ((IntKind.i64.wrap ((IntKind.i64.wrap (h3 * 131)) + (IntKind.i64.wrap (gi (rd code0 i4.toNat) 0)))) + 7)) 1073741823) (IntKind.i64.wrap (i4 + 1))
        else none
      else some (code0, h3)
    else some (code0, h3)
def ZdA (code : List V) : Option (V) :=
  Option.bind (ZbJ ((((code.length : Nat) : Int) - 0).toNat + 1) code (IntKind.i64.wrap (36565 + ((code.length : Nat) : Int))) 0) fun r1 =>
  some (V.agg [(V.inl Zc r1.1), (V.int .i64 0), (V.int .i64 r1.2)])
def ZbS (c : V) : Option (Int × V) :=
  bif (decide ((gi c 1) < (((gl c 0).length : Nat) : Int))) then
    bif (Zm (gi c 1) ((gl c 0).length)) then
      some ((bAnd .i64 (IntKind.i64.wrap ((bAnd .i64 (bXor .i64 (sShr .i64 (IntKind.i64.wrap ((IntKind.i64.wrap ((gi c 2) * 6364136223846793005)) + 1442695040888963407)) 33) (sShr .i64 (IntKind.i64.wrap ((IntKind.i64.wrap ((gi c 2) * 6364136223846793005)) + 1442695040888963407)) 45)) 255) + (IntKind.i64.wrap (gi (rd (gl c 0) ((gi c 1).toNat)) 0)))) 255), (V.agg [(V.inl Zc (gl c 0)), (V.int .i64 (IntKind.i64.wrap ((gi c 1) + 1))), (V.int .i64 (IntKind.i64.wrap ((IntKind.i64.wrap ((gi c 2) * 6364136223846793005)) + 1442695040888963407)))]))
    else none
  else some ((bAnd .i64 (bXor .i64 (sShr .i64 (IntKind.i64.wrap ((IntKind.i64.wrap ((gi c 2) * 6364136223846793005)) + 1442695040888963407)) 33) (sShr .i64 (IntKind.i64.wrap ((IntKind.i64.wrap ((gi c 2) * 6364136223846793005)) + 1442695040888963407)) 45)) 255), (V.agg [(V.inl Zc (gl c 0)), (V.int .i64 (gi c 1)), (V.int .i64 (IntKind.i64.wrap ((IntKind.i64.wrap ((gi c 2) * 6364136223846793005)) + 1442695040888963407)))]))
def Zh (c : V) (n : Int) : Option (Int × V) :=
  bif (decide (n ≤ 0)) then
    some (0, (Zb c))
  else bif (decide (n ≤ 256)) then
    Option.bind (ZbS (Zb c)) fun r3 =>
    bif (!(decide (n = 0))) then
      some ((r3.1.tmod n), (Zb r3.2))
    else none
  else Option.bind (ZbS (Zb c)) fun r4 =>
  Option.bind (ZbS (Zb r4.2)) fun r5 =>
  Option.bind (ZbS (Zb r5.2)) fun r6 =>
  Option.bind (ZbS (Zb r6.2)) fun r7 =>
  bif (!(decide (n = 0))) then
    some (((IntKind.i64.wrap ((IntKind.i64.wrap ((IntKind.i64.wrap ((IntKind.i64.wrap (r4.1 * 16777216)) + (IntKind.i64.wrap (r5.1 * 65536)))) + (IntKind.i64.wrap (r6.1 * 256)))) + r7.1)).tmod n), (Zb r7.2))
  else none
def ZI (c : V) (list : List V) : Option (Int × V) :=
  Option.bind (Zh (Zb c) ((list.length : Nat) : Int)) fun r11 =>
  bif (Zm r11.1 list.length) then
    some ((gi (rd list r11.1.toNat) 0), (Zb r11.2))
  else none
def ZbU (c : V) : Option (List V × V) :=
  Option.bind (Zh (Zb c) 5) fun r13 =>
  bif (Zm r13.1 5) then
    some ((gs (rd [(V.str []), (V.str [(V.int .u8 120)]), (V.str [(V.int .u8 121)]), (V.str [(V.int .u8 0), (V.int .u8 255)]), (V.str [(V.int .u8 108), (V.int .u8 111), (V.int .u8 110), (V.int .u8 103), (V.int .u8 32), (V.int .u8 118), (V.int .u8 97), (V.int .u8 108), (V.int .u8 117), (V.int .u8 101)])] (0 + r13.1.toNat)) 0), (Zb r13.2))
  else none
def ZaQ (c : V) : Option (List V × V) :=
  Option.bind (Zh (Zb c) 5) fun r15 =>
  bif (Zm r15.1 5) then
    bif (Zu ((gs (rd [(V.str [(V.int .u8 97)]), (V.str [(V.int .u8 98)]), (V.str [(V.int .u8 99)]), (V.str [(V.int .u8 97), (V.int .u8 47), (V.int .u8 98)]), (V.str [(V.int .u8 100)])] (0 + r15.1.toNat)) 0).length) 1) then
      some ((gs (rd [(V.str [(V.int .u8 97)]), (V.str [(V.int .u8 98)]), (V.str [(V.int .u8 99)]), (V.str [(V.int .u8 97), (V.int .u8 47), (V.int .u8 98)]), (V.str [(V.int .u8 100)])] (0 + r15.1.toNat)) 0), (Zb r15.2))
    else none
  else none
def spec_l2op (c : V) (index : Int) : Option (V × V) :=
  Option.bind (ZI (Zb c) [(V.int .i64 1), (V.int .i64 1), (V.int .i64 1), (V.int .i64 2), (V.int .i64 3), (V.int .i64 3), (V.int .i64 4), (V.int .i64 5), (V.int .i64 6), (V.int .i64 6), (V.int .i64 7), (V.int .i64 0)]) fun r12 =>
  bif (decide (r12.1 = 1)) then
    Option.bind (ZbU (Zb r12.2)) fun r14 =>
    bif (!(decide (r12.1 = 0))) then
      bif (!(decide (r12.1 = 4))) then
        bif (!(decide (r12.1 = 5))) then
          Option.bind (ZaQ (Zb r14.2)) fun r16 =>
          bif (decide (r12.1 = 4)) then
            Option.bind (Zh (Zb r16.2) 2) fun r17 =>
            some ((V.agg [(V.int .i64 r12.1), (V.inl Zc r16.1), (V.inl Zc r14.1), (V.int .i64 r17.1)]), (Zb r17.2))
          else bif (decide (r12.1 = 2)) then
            Option.bind (Zh (Zb r16.2) (IntKind.i64.wrap (index + 1))) fun r18 =>
            Option.bind (Zh (Zb r18.2) 2) fun r19 =>
            some ((V.agg [(V.int .i64 r12.1), (V.inl Zc r16.1), (V.inl Zc r14.1), (V.int .i64 (IntKind.i64.wrap (r18.1 * r19.1)))]), (Zb r19.2))
          else bif (decide (r12.1 = 5)) then
            Option.bind (Zh (Zb r16.2) 4) fun r20 =>
            bif (decide ((0 : Int) < index)) then
              Option.bind (Zh (Zb r20.2) index) fun r21 =>
              some ((V.agg [(V.int .i64 r12.1), (V.inl Zc r16.1), (V.inl Zc r14.1), (V.int .i64 (IntKind.i64.wrap (1 + r21.1)))]), (Zb r21.2))
            else some ((V.agg [(V.int .i64 r12.1), (V.inl Zc r16.1), (V.inl Zc r14.1), (V.int .i64 (IntKind.i64.wrap (1 + r20.1)))]), (Zb r20.2))
          else bif (decide (r12.1 = 6)) then
            Option.bind (Zh (Zb r16.2) 4) fun r22 =>
            bif (decide ((0 : Int) < index)) then
              Option.bind (Zh (Zb r22.2) index) fun r23 =>
              some ((V.agg [(V.int .i64 r12.1), (V.inl Zc r16.1), (V.inl Zc r14.1), (V.int .i64 (IntKind.i64.wrap (1 + r23.1)))]), (Zb r23.2))
            else some ((V.agg [(V.int .i64 r12.1), (V.inl Zc r16.1), (V.inl Zc r14.1), (V.int .i64 (IntKind.i64.wrap (1 + r22.1)))]), (Zb r22.2))
          else bif (decide (r12.1 = 7)) then
            Option.bind (Zh (Zb r16.2) 4) fun r24 =>
            bif (decide ((0 : Int) < index)) then
              Option.bind (Zh (Zb r24.2) index) fun r25 =>
              some ((V.agg [(V.int .i64 r12.1), (V.inl Zc r16.1), (V.inl Zc r14.1), (V.int .i64 (IntKind.i64.wrap (1 + r25.1)))]), (Zb r25.2))
            else some ((V.agg [(V.int .i64 r12.1), (V.inl Zc r16.1), (V.inl Zc r14.1), (V.int .i64 (IntKind.i64.wrap (1 + r24.1)))]), (Zb r24.2))
          else some ((V.agg [(V.int .i64 r12.1), (V.inl Zc r16.1), (V.inl Zc r14.1), (V.int .i64 0)]), (Zb r16.2))
        else bif (decide (r12.1 = 4)) then
          Option.bind (Zh (Zb r14.2) 2) fun r26 =>
          some ((V.agg [(V.int .i64 r12.1), (V.inl Zc []), (V.inl Zc r14.1), (V.int .i64 r26.1)]), (Zb r26.2))
        else bif (decide (r12.1 = 2)) then
          Option.bind (Zh (Zb r14.2) (IntKind.i64.wrap (index + 1))) fun r27 =>
          Option.bind (Zh (Zb r27.2) 2) fun r28 =>
          some ((V.agg [(V.int .i64 r12.1), (V.inl Zc []), (V.inl Zc r14.1), (V.int .i64 (IntKind.i64.wrap (r27.1 * r28.1)))]), (Zb r28.2))
        else bif (decide (r12.1 = 5)) then
          Option.bind (Zh (Zb r14.2) 4) fun r29 =>
          bif (decide ((0 : Int) < index)) then
            Option.bind (Zh (Zb r29.2) index) fun r30 =>
            some ((V.agg [(V.int .i64 r12.1), (V.inl Zc []), (V.inl Zc r14.1), (V.int .i64 (IntKind.i64.wrap (1 + r30.1)))]), (Zb r30.2))
          else some ((V.agg [(V.int .i64 r12.1), (V.inl Zc []), (V.inl Zc r14.1), (V.int .i64 (IntKind.i64.wrap (1 + r29.1)))]), (Zb r29.2))
        else bif (decide (r12.1 = 6)) then
          Option.bind (Zh (Zb r14.2) 4) fun r31 =>
          bif (decide ((0 : Int) < index)) then
            Option.bind (Zh (Zb r31.2) index) fun r32 =>
            some ((V.agg [(V.int .i64 r12.1), (V.inl Zc []), (V.inl Zc r14.1), (V.int .i64 (IntKind.i64.wrap (1 + r32.1)))]), (Zb r32.2))
          else some ((V.agg [(V.int .i64 r12.1), (V.inl Zc []), (V.inl Zc r14.1), (V.int .i64 (IntKind.i64.wrap (1 + r31.1)))]), (Zb r31.2))
        else bif (decide (r12.1 = 7)) then
          Option.bind (Zh (Zb r14.2) 4) fun r33 =>
          bif (decide ((0 : Int) < index)) then
            Option.bind (Zh (Zb r33.2) index) fun r34 =>
            some ((V.agg [(V.int .i64 r12.1), (V.inl Zc []), (V.inl Zc r14.1), (V.int .i64 (IntKind.i64.wrap (1 + r34.1)))]), (Zb r34.2))
          else some ((V.agg [(V.int .i64 r12.1), (V.inl Zc []), (V.inl Zc r14.1), (V.int .i64 (IntKind.i64.wrap (1 + r33.1)))]), (Zb r33.2))
        else some ((V.agg [(V.int .i64 r12.1), (V.inl Zc []), (V.inl Zc r14.1), (V.int .i64 0)]), (Zb r14.2))
      else bif (decide (r12.1 = 4)) then
        Option.bind (Zh (Zb r14.2) 2) fun r35 =>
        some ((V.agg [(V.int .i64 r12.1), (V.inl Zc []), (V.inl Zc r14.1), (V.int .i64 r35.1)]), (Zb r35.2))
      else bif (decide (r12.1 = 2)) then
        Option.bind (Zh (Zb r14.2) (IntKind.i64.wrap (index + 1))) fun r36 =>
        Option.bind (Zh (Zb r36.2) 2) fun r37 =>
        some ((V.agg [(V.int .i64 r12.1), (V.inl Zc []), (V.inl Zc r14.1), (V.int .i64 (IntKind.i64.wrap (r36.1 * r37.1)))]), (Zb r37.2))
      else bif (decide (r12.1 = 5)) then
        Option.bind (Zh (Zb r14.2) 4) fun r38 =>
        bif (decide ((0 : Int) < index)) then
          Option.bind (Zh (Zb r38.2) index) fun r39 =>
          some ((V.agg [(V.int .i64 r12.1), (V.inl Zc []), (V.inl Zc r14.1), (V.int .i64 (IntKind.i64.wrap (1 + r39.1)))]), (Zb r39.2))
        else some ((V.agg [(V.int .i64 r12.1), (V.inl Zc []), (V.inl Zc r14.1), (V.int .i64 (IntKind.i64.wrap (1 + r38.1)))]), (Zb r38.2))
      else bif (decide (r12.1 = 6)) then
        Option.bind (Zh (Zb r14.2) 4) fun r40 =>
        bif (decide ((0 : Int) < index)) then
          Option.bind (Zh (Zb r40.2) index) fun r41 =>
          some ((V.agg [(V.int .i64 r12.1), (V.inl Zc []), (V.inl Zc r14.1), (V.int .i64 (IntKind.i64.wrap (1 + r41.1)))]), (Zb r41.2))
        else some ((V.agg [(V.int .i64 r12.1), (V.inl Zc []), (V.inl Zc r14.1), (V.int .i64 (IntKind.i64.wrap (1 + r40.1)))]), (Zb r40.2))
      else bif (decide (r12.1 = 7)) then
        Option.bind (Zh (Zb r14.2) 4) fun r42 =>
        bif (decide ((0 : Int) < index)) then
          Option.bind (Zh (Zb r42.2) index) fun r43 =>
          some ((V.agg [(V.int .i64 r12.1), (V.inl Zc []), (V.inl Zc r14.1), (V.int .i64 (IntKind.i64.wrap (1 + r43.1)))]), (Zb r43.2))
        else some ((V.agg [(V.int .i64 r12.1), (V.inl Zc []), (V.inl Zc r14.1), (V.int .i64 (IntKind.i64.wrap (1 + r42.1)))]), (Zb r42.2))
      else some ((V.agg [(V.int .i64 r12.1), (V.inl Zc []), (V.inl Zc r14.1), (V.int .i64 0)]), (Zb r14.2))
    else bif (decide (r12.1 = 4)) then
      Option.bind (Zh (Zb r14.2) 2) fun r44 =>
      some ((V.agg [(V.int .i64 r12.1), (V.inl Zc []), (V.inl Zc r14.1), (V.int .i64 r44.1)]), (Zb r44.2))
    else bif (decide (r12.1 = 2)) then
      Option.bind (Zh (Zb r14.2) (IntKind.i64.wrap (index + 1))) fun r45 =>
      Option.bind (Zh (Zb r45.2) 2) fun r46 =>
      some ((V.agg [(V.int .i64 r12.1), (V.inl Zc []), (V.inl Zc r14.1), (V.int .i64 (IntKind.i64.wrap (r45.1 * r46.1)))]), (Zb r46.2))
    else bif (decide (r12.1 = 5)) then
      Option.bind (Zh (Zb r14.2) 4) fun r47 =>
      bif (decide ((0 : Int) < index)) then
        Option.bind (Zh (Zb r47.2) index) fun r48 =>
        some ((V.agg [(V.int .i64 r12.1), (V.inl Zc []), (V.inl Zc r14.1), (V.int .i64 (IntKind.i64.wrap (1 + r48.1)))]), (Zb r48.2))
      else some ((V.agg [(V.int .i64 r12.1), (V.inl Zc []), (V.inl Zc r14.1), (V.int .i64 (IntKind.i64.wrap (1 + r47.1)))]), (Zb r47.2))
    else bif (decide (r12.1 = 6)) then
      Option.bind (Zh (Zb r14.2) 4) fun r49 =>
      bif (decide ((0 : Int) < index)) then
        Option.bind (Zh (Zb r49.2) index) fun r50 =>
        some ((V.agg [(V.int .i64 r12.1), (V.inl Zc []), (V.inl Zc r14.1), (V.int .i64 (IntKind.i64.wrap (1 + r50.1)))]), (Zb r50.2))
      else some ((V.agg [(V.int .i64 r12.1), (V.inl Zc []), (V.inl Zc r14.1), (V.int .i64 (IntKind.i64.wrap (1 + r49.1)))]), (Zb r49.2))
    else bif (decide (r12.1 = 7)) then
      Option.bind (Zh (Zb r14.2) 4) fun r51 =>
      bif (decide ((0 : Int) < index)) then
        Option.bind (Zh (Zb r51.2) index) fun r52 =>
        some ((V.agg [(V.int .i64 r12.1), (V.inl Zc []), (V.inl Zc r14.1), (V.int .i64 (IntKind.i64.wrap (1 + r52.1)))]), (Zb r52.2))
      else some ((V.agg [(V.int .i64 r12.1), (V.inl Zc []), (V.inl Zc r14.1), (V.int .i64 (IntKind.i64.wrap (1 + r51.1)))]), (Zb r51.2))
    else some ((V.agg [(V.int .i64 r12.1), (V.inl Zc []), (V.inl Zc r14.1), (V.int .i64 0)]), (Zb r14.2))
  else bif (decide (r12.1 = 2)) then
    Option.bind (ZbU (Zb r12.2)) fun r53 =>
    bif (!(decide (r12.1 = 0))) then
      bif (!(decide (r12.1 = 4))) then
        bif (!(decide (r12.1 = 5))) then
          Option.bind (ZaQ (Zb r53.2)) fun r54 =>
          bif (decide (r12.1 = 4)) then
            Option.bind (Zh (Zb r54.2) 2) fun r55 =>
            some ((V.agg [(V.int .i64 r12.1), (V.inl Zc r54.1), (V.inl Zc r53.1), (V.int .i64 r55.1)]), (Zb r55.2))
          else bif (decide (r12.1 = 2)) then
            Option.bind (Zh (Zb r54.2) (IntKind.i64.wrap (index + 1))) fun r56 =>
            Option.bind (Zh (Zb r56.2) 2) fun r57 =>
            some ((V.agg [(V.int .i64 r12.1), (V.inl Zc r54.1), (V.inl Zc r53.1), (V.int .i64 (IntKind.i64.wrap (r56.1 * r57.1)))]), (Zb r57.2))
          else bif (decide (r12.1 = 5)) then
            Option.bind (Zh (Zb r54.2) 4) fun r58 =>
            bif (decide ((0 : Int) < index)) then
              Option.bind (Zh (Zb r58.2) index) fun r59 =>
              some ((V.agg [(V.int .i64 r12.1), (V.inl Zc r54.1), (V.inl Zc r53.1), (V.int .i64 (IntKind.i64.wrap (1 + r59.1)))]), (Zb r59.2))
            else some ((V.agg [(V.int .i64 r12.1), (V.inl Zc r54.1), (V.inl Zc r53.1), (V.int .i64 (IntKind.i64.wrap (1 + r58.1)))]), (Zb r58.2))
          else bif (decide (r12.1 = 6)) then
            Option.bind (Zh (Zb r54.2) 4) fun r60 =>
            bif (decide ((0 : Int) < index)) then
              Option.bind (Zh (Zb r60.2) index) fun r61 =>
              some ((V.agg [(V.int .i64 r12.1), (V.inl Zc r54.1), (V.inl Zc r53.1), (V.int .i64 (IntKind.i64.wrap (1 + r61.1)))]), (Zb r61.2))
            else some ((V.agg [(V.int .i64 r12.1), (V.inl Zc r54.1), (V.inl Zc r53.1), (V.int .i64 (IntKind.i64.wrap (1 + r60.1)))]), (Zb r60.2))
          else bif (decide (r12.1 = 7)) then
            Option.bind (Zh (Zb r54.2) 4) fun r62 =>
            bif (decide ((0 : Int) < index)) then
              Option.bind (Zh (Zb r62.2) index) fun r63 =>
              some ((V.agg [(V.int .i64 r12.1), (V.inl Zc r54.1), (V.inl Zc r53.1), (V.int .i64 (IntKind.i64.wrap (1 + r63.1)))]), (Zb r63.2))
            else some ((V.agg [(V.int .i64 r12.1), (V.inl Zc r54.1), (V.inl Zc r53.1), (V.int .i64 (IntKind.i64.wrap (1 + r62.1)))]), (Zb r62.2))
          else some ((V.agg [(V.int .i64 r12.1), (V.inl Zc r54.1), (V.inl Zc r53.1), (V.int .i64 0)]), (Zb r54.2))
        else bif (decide (r12.1 = 4)) then
          Option.bind (Zh (Zb r53.2) 2) fun r64 =>
          some ((V.agg [(V.int .i64 r12.1), (V.inl Zc []), (V.inl Zc r53.1), (V.int .i64 r64.1)]), (Zb r64.2))
        else bif (decide (r12.1 = 2)) then
          Option.bind (Zh (Zb r53.2) (IntKind.i64.wrap (index + 1))) fun r65 =>
          Option.bind (Zh (Zb r65.2) 2) fun r66 =>
          some ((V.agg [(V.int .i64 r12.1), (V.inl Zc []), (V.inl Zc r53.1), (V.int .i64 (IntKind.i64.wrap (r65.1 * r66.1)))]), (Zb r66.2))
        else bif (decide (r12.1 = 5)) then
          Option.bind (Zh (Zb r53.2) 4) fun r67 =>
          bif (decide ((0 : Int) < index)) then
            Option.bind (Zh (Zb r67.2) index) fun r68 =>
            some ((V.agg [(V.int .i64 r12.1), (V.inl Zc []), (V.inl Zc r53.1), (V.int .i64 (IntKind.i64.wrap (1 + r68.1)))]), (Zb r68.2))
          else some ((V.agg [(V.int .i64 r12.1), (V.inl Zc []), (V.inl Zc r53.1), (V.int .i64 (IntKind.i64.wrap (1 + r67.1)))]), (Zb r67.2))
        else bif (decide (r12.1 = 6)) then
          Option.bind (Zh (Zb r53.2) 4) fun r69 =>
          bif (decide ((0 : Int) < index)) then
            Option.bind (Zh (Zb r69.2) index) fun r70 =>
            some ((V.agg [(V.int .i64 r12.1), (V.inl Zc []), (V.inl Zc r53.1), (V.int .i64 (IntKind.i64.wrap (1 + r70.1)))]), (Zb r70.2))
          else some ((V.agg [(V.int .i64 r12.1), (V.inl Zc []), (V.inl Zc r53.1), (V.int .i64 (IntKind.i64.wrap (1 + r69.1)))]), (Zb r69.2))
        else bif (decide (r12.1 = 7)) then
          Option.bind (Zh (Zb r53.2) 4) fun r71 =>
          bif (decide ((0 : Int) < index)) then
            Option.bind (Zh (Zb r71.2) index) fun r72 =>
            some ((V.agg [(V.int .i64 r12.1), (V.inl Zc []), (V.inl Zc r53.1), (V.int .i64 (IntKind.i64.wrap (1 + r72.1)))]), (Zb r72.2))
          else some ((V.agg [(V.int .i64 r12.1), (V.inl Zc []), (V.inl Zc r53.1), (V.int .i64 (IntKind.i64.wrap (1 + r71.1)))]), (Zb r71.2))
        else some ((V.agg [(V.int .i64 r12.1), (V.inl Zc []), (V.inl Zc r53.1), (V.int .i64 0)]), (Zb r53.2))
      else bif (decide (r12.1 = 4)) then
        Option.bind (Zh (Zb r53.2) 2) fun r73 =>
        some ((V.agg [(V.int .i64 r12.1), (V.inl Zc []), (V.inl Zc r53.1), (V.int .i64 r73.1)]), (Zb r73.2))
      else bif (decide (r12.1 = 2)) then
        Option.bind (Zh (Zb r53.2) (IntKind.i64.wrap (index + 1))) fun r74 =>
        Option.bind (Zh (Zb r74.2) 2) fun r75 =>
        some ((V.agg [(V.int .i64 r12.1), (V.inl Zc []), (V.inl Zc r53.1), (V.int .i64 (IntKind.i64.wrap (r74.1 * r75.1)))]), (Zb r75.2))
      else bif (decide (r12.1 = 5)) then
        Option.bind (Zh (Zb r53.2) 4) fun r76 =>
        bif (decide ((0 : Int) < index)) then
          Option.bind (Zh (Zb r76.2) index) fun r77 =>
          some ((V.agg [(V.int .i64 r12.1), (V.inl Zc []), (V.inl Zc r53.1), (V.int .i64 (IntKind.i64.wrap (1 + r77.1)))]), (Zb r77.2))
        else some ((V.agg [(V.int .i64 r12.1), (V.inl Zc []), (V.inl Zc r53.1), (V.int .i64 (IntKind.i64.wrap (1 + r76.1)))]), (Zb r76.2))
      else bif (decide (r12.1 = 6)) then
        Option.bind (Zh (Zb r53.2) 4) fun r78 =>
        bif (decide ((0 : Int) < index)) then
          Option.bind (Zh (Zb r78.2) index) fun r79 =>
          some ((V.agg [(V.int .i64 r12.1), (V.inl Zc []), (V.inl Zc r53.1), (V.int .i64 (IntKind.i64.wrap (1 + r79.1)))]), (Zb r79.2))
        else some ((V.agg [(V.int .i64 r12.1), (V.inl Zc []), (V.inl Zc r53.1), (V.int .i64 (IntKind.i64.wrap (1 + r78.1)))]), (Zb r78.2))
      else bif (decide (r12.1 = 7)) then
        Option.bind (Zh (Zb r53.2) 4) fun r80 =>
        bif (decide ((0 : Int) < index)) then
          Option.bind (Zh (Zb r80.2) index) fun r81 =>
          some ((V.agg [(V.int .i64 r12.1), (V.inl Zc []), (V.inl Zc r53.1), (V.int .i64 (IntKind.i64.wrap (1 + r81.1)))]), (Zb r81.2))
        else some ((V.agg [(V.int .i64 r12.1), (V.inl Zc []), (V.inl Zc r53.1), (V.int .i64 (IntKind.i64.wrap (1 + r80.1)))]), (Zb r80.2))
      else some ((V.agg [(V.int .i64 r12.1), (V.inl Zc []), (V.inl Zc r53.1), (V.int .i64 0)]), (Zb r53.2))
    else bif (decide (r12.1 = 4)) then
      Option.bind (Zh (Zb r53.2) 2) fun r82 =>
      some ((V.agg [(V.int .i64 r12.1), (V.inl Zc []), (V.inl Zc r53.1), (V.int .i64 r82.1)]), (Zb r82.2))
    else bif (decide (r12.1 = 2)) then
      Option.bind (Zh (Zb r53.2) (IntKind.i64.wrap (index + 1))) fun r83 =>
      Option.bind (Zh (Zb r83.2) 2) fun r84 =>
      some ((V.agg [(V.int .i64 r12.1), (V.inl Zc []), (V.inl Zc r53.1), (V.int .i64 (IntKind.i64.wrap (r83.1 * r84.1)))]), (Zb r84.2))
    else bif (decide (r12.1 = 5)) then
      Option.bind (Zh (Zb r53.2) 4) fun r85 =>
      bif (decide ((0 : Int) < index)) then
        Option.bind (Zh (Zb r85.2) index) fun r86 =>
        some ((V.agg [(V.int .i64 r12.1), (V.inl Zc []), (V.inl Zc r53.1), (V.int .i64 (IntKind.i64.wrap (1 + r86.1)))]), (Zb r86.2))
      else some ((V.agg [(V.int .i64 r12.1), (V.inl Zc []), (V.inl Zc r53.1), (V.int .i64 (IntKind.i64.wrap (1 + r85.1)))]), (Zb r85.2))
    else bif (decide (r12.1 = 6)) then
      Option.bind (Zh (Zb r53.2) 4) fun r87 =>
      bif (decide ((0 : Int) < index)) then
        Option.bind (Zh (Zb r87.2) index) fun r88 =>
        some ((V.agg [(V.int .i64 r12.1), (V.inl Zc []), (V.inl Zc r53.1), (V.int .i64 (IntKind.i64.wrap (1 + r88.1)))]), (Zb r88.2))
      else some ((V.agg [(V.int .i64 r12.1), (V.inl Zc []), (V.inl Zc r53.1), (V.int .i64 (IntKind.i64.wrap (1 + r87.1)))]), (Zb r87.2))
    else bif (decide (r12.1 = 7)) then
      Option.bind (Zh (Zb r53.2) 4) fun r89 =>
      bif (decide ((0 : Int) < index)) then
        Option.bind (Zh (Zb r89.2) index) fun r90 =>
        some ((V.agg [(V.int .i64 r12.1), (V.inl Zc []), (V.inl Zc r53.1), (V.int .i64 (IntKind.i64.wrap (1 + r90.1)))]), (Zb r90.2))
      else some ((V.agg [(V.int .i64 r12.1), (V.inl Zc []), (V.inl Zc r53.1), (V.int .i64 (IntKind.i64.wrap (1 + r89.1)))]), (Zb r89.2))
    else some ((V.agg [(V.int .i64 r12.1), (V.inl Zc []), (V.inl Zc r53.1), (V.int .i64 0)]), (Zb r53.2))
  else bif (decide (r12.1 = 6)) then
    Option.bind (ZbU (Zb r12.2)) fun r91 =>
    bif (!(decide (r12.1 = 0))) then
      bif (!(decide (r12.1 = 4))) then
        bif (!(decide (r12.1 = 5))) then
          Option.bind (ZaQ (Zb r91.2)) fun r92 =>
          bif (decide (r12.1 = 4)) then
            Option.bind (Zh (Zb r92.2) 2) fun r93 =>
            some ((V.agg [(V.int .i64 r12.1), (V.inl Zc r92.1), (V.inl Zc r91.1), (V.int .i64 r93.1)]), (Zb r93.2))
          else bif (decide (r12.1 = 2)) then
            Option.bind (Zh (Zb r92.2) (IntKind.i64.wrap (index + 1))) fun r94 =>
            Option.bind (Zh (Zb r94.2) 2) fun r95 =>
            some ((V.agg [(V.int .i64 r12.1), (V.inl Zc r92.1), (V.inl Zc r91.1), (V.int .i64 (IntKind.i64.wrap (r94.1 * r95.1)))]), (Zb r95.2))
          else bif (decide (r12.1 = 5)) then
            Option.bind (Zh (Zb r92.2) 4) fun r96 =>
            bif (decide ((0 : Int) < index)) then
              Option.bind (Zh (Zb r96.2) index) fun r97 =>
              some ((V.agg [(V.int .i64 r12.1), (V.inl Zc r92.1), (V.inl Zc r91.1), (V.int .i64 (IntKind.i64.wrap (1 + r97.1)))]), (Zb r97.2))
            else some ((V.agg [(V.int .i64 r12.1), (V.inl Zc r92.1), (V.inl Zc r91.1), (V.int .i64 (IntKind.i64.wrap (1 + r96.1)))]), (Zb r96.2))
          else bif (decide (r12.1 = 6)) then
            Option.bind (Zh (Zb r92.2) 4) fun r98 =>
            bif (decide ((0 : Int) < index)) then
              Option.bind (Zh (Zb r98.2) index) fun r99 =>
              some ((V.agg [(V.int .i64 r12.1), (V.inl Zc r92.1), (V.inl Zc r91.1), (V.int .i64 (IntKind.i64.wrap (1 + r99.1)))]), (Zb r99.2))
            else some ((V.agg [(V.int .i64 r12.1), (V.inl Zc r92.1), (V.inl Zc r91.1), (V.int .i64 (IntKind.i64.wrap (1 + r98.1)))]), (Zb r98.2))
          else bif (decide (r12.1 = 7)) then
            Option.bind (Zh (Zb r92.2) 4) fun r100 =>
            bif (decide ((0 : Int) < index)) then
              Option.bind (Zh (Zb r100.2) index) fun r101 =>
              some ((V.agg [(V.int .i64 r12.1), (V.inl Zc r92.1), (V.inl Zc r91.1), (V.int .i64 (IntKind.i64.wrap (1 + r101.1)))]), (Zb r101.2))
            else some ((V.agg [(V.int .i64 r12.1), (V.inl Zc r92.1), (V.inl Zc r91.1), (V.int .i64 (IntKind.i64.wrap (1 + r100.1)))]), (Zb r100.2))
          else some ((V.agg [(V.int .i64 r12.1), (V.inl Zc r92.1), (V.inl Zc r91.1), (V.int .i64 0)]), (Zb r92.2))
        else bif (decide (r12.1 = 4)) then
          Option.bind (Zh (Zb r91.2) 2) fun r102 =>
          some ((V.agg [(V.int .i64 r12.1), (V.inl Zc []), (V.inl Zc r91.1), (V.int .i64 r102.1)]), (Zb r102.2))
        else bif (decide (r12.1 = 2)) then
          Option.bind (Zh (Zb r91.2) (IntKind.i64.wrap (index + 1))) fun r103 =>
          Option.bind (Zh (Zb r103.2) 2) fun r104 =>
          some ((V.agg [(V.int .i64 r12.1), (V.inl Zc []), (V.inl Zc r91.1), (V.int .i64 (IntKind.i64.wrap (r103.1 * r104.1)))]), (Zb r104.2))
        else bif (decide (r12.1 = 5)) then
          Option.bind (Zh (Zb r91.2) 4) fun r105 =>
          bif (decide ((0 : Int) < index)) then
            Option.bind (Zh (Zb r105.2) index) fun r106 =>
            some ((V.agg [(V.int .i64 r12.1), (V.inl Zc []), (V.inl Zc r91.1), (V.int .i64 (IntKind.i64.wrap (1 + r106.1)))]), (Zb r106.2))
          else some ((V.agg [(V.int .i64 r12.1), (V.inl Zc []), (V.inl Zc r91.1), (V.int .i64 (IntKind.i64.wrap (1 + r105.1)))]), (Zb r105.2))
        else bif (decide (r12.1 = 6)) then
          Option.bind (Zh (Zb r91.2) 4) fun r107 =>
          bif (decide ((0 : Int) < index)) then
            Option.bind (Zh (Zb r107.2) index) fun r108 =>
            some ((V.agg [(V.int .i64 r12.1), (V.inl Zc []), (V.inl Zc r91.1), (V.int .i64 (IntKind.i64.wrap (1 + r108.1)))]), (Zb r108.2))
          else some ((V.agg [(V.int .i64 r12.1), (V.inl Zc []), (V.inl Zc r91.1), (V.int .i64 (IntKind.i64.wrap (1 + r107.1)))]), (Zb r107.2))
        else bif (decide (r12.1 = 7)) then
          Option.bind (Zh (Zb r91.2) 4) fun r109 =>
          bif (decide ((0 : Int) < index)) then
            Option.bind (Zh (Zb r109.2) index) fun r110 =>
            some ((V.agg [(V.int .i64 r12.1), (V.inl Zc []), (V.inl Zc r91.1), (V.int .i64 (IntKind.i64.wrap (1 + r110.1)))]), (Zb r110.2))
          else some ((V.agg [(V.int .i64 r12.1), (V.inl Zc []), (V.inl Zc r91.1), (V.int .i64 (IntKind.i64.wrap (1 + r109.1)))]), (Zb r109.2))
        else some ((V.agg [(V.int .i64 r12.1), (V.inl Zc []), (V.inl Zc r91.1), (V.int .i64 0)]), (Zb r91.2))
      else bif (decide (r12.1 = 4)) then
        Option.bind (Zh (Zb r91.2) 2) fun r111 =>
        some ((V.agg [(V.int .i64 r12.1), (V.inl Zc []), (V.inl Zc r91.1), (V.int .i64 r111.1)]), (Zb r111.2))
      else bif (decide (r12.1 = 2)) then
        Option.bind (Zh (Zb r91.2) (IntKind.i64.wrap (index + 1))) fun r112 =>
        Option.bind (Zh (Zb r112.2) 2) fun r113 =>
        some ((V.agg [(V.int .i64 r12.1), (V.inl Zc []), (V.inl Zc r91.1), (V.int .i64 (IntKind.i64.wrap (r112.1 * r113.1)))]), (Zb r113.2))
      else bif (decide (r12.1 = 5)) then
        Option.bind (Zh (Zb r91.2) 4) fun r114 =>
        bif (decide ((0 : Int) < index)) then
          Option.bind (Zh (Zb r114.2) index) fun r115 =>
          some ((V.agg [(V.int .i64 r12.1), (V.inl Zc []), (V.inl Zc r91.1), (V.int .i64 (IntKind.i64.wrap (1 + r115.1)))]), (Zb r115.2))
        else some ((V.agg [(V.int .i64 r12.1), (V.inl Zc []), (V.inl Zc r91.1), (V.int .i64 (IntKind.i64.wrap (1 + r114.1)))]), (Zb r114.2))
      else bif (decide (r12.1 = 6)) then
        Option.bind (Zh (Zb r91.2) 4) fun r116 =>
        bif (decide ((0 : Int) < index)) then
          Option.bind (Zh (Zb r116.2) index) fun r117 =>
          some ((V.agg [(V.int .i64 r12.1), (V.inl Zc []), (V.inl Zc r91.1), (V.int .i64 (IntKind.i64.wrap (1 + r117.1)))]), (Zb r117.2))
        else some ((V.agg [(V.int .i64 r12.1), (V.inl Zc []), (V.inl Zc r91.1), (V.int .i64 (IntKind.i64.wrap (1 + r116.1)))]), (Zb r116.2))
      else bif (decide (r12.1 = 7)) then
        Option.bind (Zh (Zb r91.2) 4) fun r118 =>
        bif (decide ((0 : Int) < index)) then
          Option.bind (Zh (Zb r118.2) index) fun r119 =>
          some ((V.agg [(V.int .i64 r12.1), (V.inl Zc []), (V.inl Zc r91.1), (V.int .i64 (IntKind.i64.wrap (1 + r119.1)))]), (Zb r119.2))
        else some ((V.agg [(V.int .i64 r12.1), (V.inl Zc []), (V.inl Zc r91.1), (V.int .i64 (IntKind.i64.wrap (1 + r118.1)))]), (Zb r118.2))
      else some ((V.agg [(V.int .i64 r12.1), (V.inl Zc []), (V.inl Zc r91.1), (V.int .i64 0)]), (Zb r91.2))
    else bif (decide (r12.1 = 4)) then
      Option.bind (Zh (Zb r91.2) 2) fun r120 =>
      some ((V.agg [(V.int .i64 r12.1), (V.inl Zc []), (V.inl Zc r91.1), (V.int .i64 r120.1)]), (Zb r120.2))
    else bif (decide (r12.1 = 2)) then
      Option.bind (Zh (Zb r91.2) (IntKind.i64.wrap (index + 1))) fun r121 =>
      Option.bind (Zh (Zb r121.2) 2) fun r122 =>
      some ((V.agg [(V.int .i64 r12.1), (V.inl Zc []), (V.inl Zc r91.1), (V.int .i64 (IntKind.i64.wrap (r121.1 * r122.1)))]), (Zb r122.2))
    else bif (decide (r12.1 = 5)) then
      Option.bind (Zh (Zb r91.2) 4) fun r123 =>
      bif (decide ((0 : Int) < index)) then
        Option.bind (Zh (Zb r123.2) index) fun r124 =>
        some ((V.agg [(V.int .i64 r12.1), (V.inl Zc []), (V.inl Zc r91.1), (V.int .i64 (IntKind.i64.wrap (1 + r124.1)))]), (Zb r124.2))
      else some ((V.agg [(V.int .i64 r12.1), (V.inl Zc []), (V.inl Zc r91.1), (V.int .i64 (IntKind.i64.wrap (1 + r123.1)))]), (Zb r123.2))
    else bif (decide (r12.1 = 6)) then
      Option.bind (Zh (Zb r91.2) 4) fun r125 =>
      bif (decide ((0 : Int) < index)) then
        Option.bind (Zh (Zb r125.2) index) fun r126 =>
        some ((V.agg [(V.int .i64 r12.1), (V.inl Zc []), (V.inl Zc r91.1), (V.int .i64 (IntKind.i64.wrap (1 + r126.1)))]), (Zb r126.2))
      else some ((V.agg [(V.int .i64 r12.1), (V.inl Zc []), (V.inl Zc r91.1), (V.int .i64 (IntKind.i64.wrap (1 + r125.1)))]), (Zb r125.2))
    else bif (decide (r12.1 = 7)) then
      Option.bind (Zh (Zb r91.2) 4) fun r127 =>
      bif (decide ((0 : Int) < index)) then
        Option.bind (Zh (Zb r127.2) index) fun r128 =>
        some ((V.agg [(V.int .i64 r12.1), (V.inl Zc []), (V.inl Zc r91.1), (V.int .i64 (IntKind.i64.wrap (1 + r128.1)))]), (Zb r128.2))
      else some ((V.agg [(V.int .i64 r12.1), (V.inl Zc []), (V.inl Zc r91.1), (V.int .i64 (IntKind.i64.wrap (1 + r127.1)))]), (Zb r127.2))
    else some ((V.agg [(V.int .i64 r12.1), (V.inl Zc []), (V.inl Zc r91.1), (V.int .i64 0)]), (Zb r91.2))
  else bif (!(decide (r12.1 = 0))) then
    bif (!(decide (r12.1 = 4))) then
      bif (!(decide (r12.1 = 5))) then
        Option.bind (ZaQ (Zb r12.2)) fun r129 =>
        bif (decide (r12.1 = 4)) then
          Option.bind (Zh (Zb r129.2) 2) fun r130 =>
          some ((V.agg [(V.int .i64 r12.1), (V.inl Zc r129.1), (V.inl Zc []), (V.int .i64 r130.1)]), (Zb r130.2))
        else bif (decide (r12.1 = 2)) then
          Option.bind (Zh (Zb r129.2) (IntKind.i64.wrap (index + 1))) fun r131 =>
          Option.bind (Zh (Zb r131.2) 2) fun r132 =>
          some ((V.agg [(V.int .i64 r12.1), (V.inl Zc r129.1), (V.inl Zc []), (V.int .i64 (IntKind.i64.wrap (r131.1 * r132.1)))]), (Zb r132.2))
        else bif (decide (r12.1 = 5)) then
          Option.bind (Zh (Zb r129.2) 4) fun r133 =>
          bif (decide ((0 : Int) < index)) then
            Option.bind (Zh (Zb r133.2) index) fun r134 =>
            some ((V.agg [(V.int .i64 r12.1), (V.inl Zc r129.1), (V.inl Zc []), (V.int .i64 (IntKind.i64.wrap (1 + r134.1)))]), (Zb r134.2))
          else some ((V.agg [(V.int .i64 r12.1), (V.inl Zc r129.1), (V.inl Zc []), (V.int .i64 (IntKind.i64.wrap (1 + r133.1)))]), (Zb r133.2))
        else bif (decide (r12.1 = 6)) then
          Option.bind (Zh (Zb r129.2) 4) fun r135 =>
          bif (decide ((0 : Int) < index)) then
            Option.bind (Zh (Zb r135.2) index) fun r136 =>
            some ((V.agg [(V.int .i64 r12.1), (V.inl Zc r129.1), (V.inl Zc []), (V.int .i64 (IntKind.i64.wrap (1 + r136.1)))]), (Zb r136.2))
          else some ((V.agg [(V.int .i64 r12.1), (V.inl Zc r129.1), (V.inl Zc []), (V.int .i64 (IntKind.i64.wrap (1 + r135.1)))]), (Zb r135.2))
        else bif (decide (r12.1 = 7)) then
          Option.bind (Zh (Zb r129.2) 4) fun r137 =>
          bif (decide ((0 : Int) < index)) then
            Option.bind (Zh (Zb r137.2) index) fun r138 =>
            some ((V.agg [(V.int .i64 r12.1), (V.inl Zc r129.1), (V.inl Zc []), (V.int .i64 (IntKind.i64.wrap (1 + r138.1)))]), (Zb r138.2))
          else some ((V.agg [(V.int .i64 r12.1), (V.inl Zc r129.1), (V.inl Zc []), (V.int .i64 (IntKind.i64.wrap (1 + r137.1)))]), (Zb r137.2))
        else some ((V.agg [(V.int .i64 r12.1), (V.inl Zc r129.1), (V.inl Zc []), (V.int .i64 0)]), (Zb r129.2))
      else bif (decide (r12.1 = 4)) then
        Option.bind (Zh (Zb r12.2) 2) fun r139 =>
        some ((V.agg [(V.int .i64 r12.1), (V.inl Zc []), (V.inl Zc []), (V.int .i64 r139.1)]), (Zb r139.2))
      else bif (decide (r12.1 = 2)) then
        Option.bind (Zh (Zb r12.2) (IntKind.i64.wrap (index + 1))) fun r140 =>
        Option.bind (Zh (Zb r140.2) 2) fun r141 =>
        some ((V.agg [(V.int .i64 r12.1), (V.inl Zc []), (V.inl Zc []), (V.int .i64 (IntKind.i64.wrap (r140.1 * r141.1)))]), (Zb r141.2))
      else bif (decide (r12.1 = 5)) then
        Option.bind (Zh (Zb r12.2) 4) fun r142 =>
        bif (decide ((0 : Int) < index)) then
          Option.bind (Zh (Zb r142.2) index) fun r143 =>
          some ((V.agg [(V.int .i64 r12.1), (V.inl Zc []), (V.inl Zc []), (V.int .i64 (IntKind.i64.wrap (1 + r143.1)))]), (Zb r143.2))
        else some ((V.agg [(V.int .i64 r12.1), (V.inl Zc []), (V.inl Zc []), (V.int .i64 (IntKind.i64.wrap (1 + r142.1)))]), (Zb r142.2))
      else bif (decide (r12.1 = 6)) then
        Option.bind (Zh (Zb r12.2) 4) fun r144 =>
        bif (decide ((0 : Int) < index)) then
          Option.bind (Zh (Zb r144.2) index) fun r145 =>
          some ((V.agg [(V.int .i64 r12.1), (V.inl Zc []), (V.inl Zc []), (V.int .i64 (IntKind.i64.wrap (1 + r145.1)))]), (Zb r145.2))
        else some ((V.agg [(V.int .i64 r12.1), (V.inl Zc []), (V.inl Zc []), (V.int .i64 (IntKind.i64.wrap (1 + r144.1)))]), (Zb r144.2))
      else bif (decide (r12.1 = 7)) then
        Option.bind (Zh (Zb r12.2) 4) fun r146 =>
        bif (decide ((0 : Int) < index)) then
          Option.bind (Zh (Zb r146.2) index) fun r147 =>
          some ((V.agg [(V.int .i64 r12.1), (V.inl Zc []), (V.inl Zc []), (V.int .i64 (IntKind.i64.wrap (1 + r147.1)))]), (Zb r147.2))
        else some ((V.agg [(V.int .i64 r12.1), (V.inl Zc []), (V.inl Zc []), (V.int .i64 (IntKind.i64.wrap (1 + r146.1)))]), (Zb r146.2))
      else some ((V.agg [(V.int .i64 r12.1), (V.inl Zc []), (V.inl Zc []), (V.int .i64 0)]), (Zb r12.2))
    else bif (decide (r12.1 = 4)) then
      Option.bind (Zh (Zb r12.2) 2) fun r148 =>
      some ((V.agg [(V.int .i64 r12.1), (V.inl Zc []), (V.inl Zc []), (V.int .i64 r148.1)]), (Zb r148.2))
    else bif (decide (r12.1 = 2)) then
      Option.bind (Zh (Zb r12.2) (IntKind.i64.wrap (index + 1))) fun r149 =>
      Option.bind (Zh (Zb r149.2) 2) fun r150 =>
      some ((V.agg [(V.int .i64 r12.1), (V.inl Zc []), (V.inl Zc []), (V.int .i64 (IntKind.i64.wrap (r149.1 * r150.1)))]), (Zb r150.2))
    else bif (decide (r12.1 = 5)) then
      Option.bind (Zh (Zb r12.2) 4) fun r151 =>
      bif (decide ((0 : Int) < index)) then
        Option.bind (Zh (Zb r151.2) index) fun r152 =>
        some ((V.agg [(V.int .i64 r12.1), (V.inl Zc []), (V.inl Zc []), (V.int .i64 (IntKind.i64.wrap (1 + r152.1)))]), (Zb r152.2))
      else some ((V.agg [(V.int .i64 r12.1), (V.inl Zc []), (V.inl Zc []), (V.int .i64 (IntKind.i64.wrap (1 + r151.1)))]), (Zb r151.2))
    else bif (decide (r12.1 = 6)) then
      Option.bind (Zh (Zb r12.2) 4) fun r153 =>
      bif (decide ((0 : Int) < index)) then
        Option.bind (Zh (Zb r153.2) index) fun r154 =>
        some ((V.agg [(V.int .i64 r12.1), (V.inl Zc []), (V.inl Zc []), (V.int .i64 (IntKind.i64.wrap (1 + r154.1)))]), (Zb r154.2))
      else some ((V.agg [(V.int .i64 r12.1), (V.inl Zc []), (V.inl Zc []), (V.int .i64 (IntKind.i64.wrap (1 + r153.1)))]), (Zb r153.2))
    else bif (decide (r12.1 = 7)) then
      Option.bind (Zh (Zb r12.2) 4) fun r155 =>
      bif (decide ((0 : Int) < index)) then
        Option.bind (Zh (Zb r155.2) index) fun r156 =>
        some ((V.agg [(V.int .i64 r12.1), (V.inl Zc []), (V.inl Zc []), (V.int .i64 (IntKind.i64.wrap (1 + r156.1)))]), (Zb r156.2))
      else some ((V.agg [(V.int .i64 r12.1), (V.inl Zc []), (V.inl Zc []), (V.int .i64 (IntKind.i64.wrap (1 + r155.1)))]), (Zb r155.2))
    else some ((V.agg [(V.int .i64 r12.1), (V.inl Zc []), (V.inl Zc []), (V.int .i64 0)]), (Zb r12.2))
  else bif (decide (r12.1 = 4)) then
    Option.bind (Zh (Zb r12.2) 2) fun r157 =>
    some ((V.agg [(V.int .i64 r12.1), (V.inl Zc []), (V.inl Zc []), (V.int .i64 r157.1)]), (Zb r157.2))
  else bif (decide (r12.1 = 2)) then
    Option.bind (Zh (Zb r12.2) (IntKind.i64.wrap (index + 1))) fun r158 =>
    Option.bind (Zh (Zb r158.2) 2) fun r159 =>
    some ((V.agg [(V.int .i64 r12.1), (V.inl Zc []), (V.inl Zc []), (V.int .i64 (IntKind.i64.wrap (r158.1 * r159.1)))]), (Zb r159.2))
  else bif (decide (r12.1 = 5)) then
    Option.bind (Zh (Zb r12.2) 4) fun r160 =>
    bif (decide ((0 : Int) < index)) then
      Option.bind (Zh (Zb r160.2) index) fun r161 =>
      some ((V.agg [(V.int .i64 r12.1), (V.inl Zc []), (V.inl Zc []), (V.int .i64 (IntKind.i64.wrap (1 + r161.1)))]), (Zb r161.2))
    else some ((V.agg [(V.int .i64 r12.1), (V.inl Zc []), (V.inl Zc []), (V.int .i64 (IntKind.i64.wrap (1 + r160.1)))]), (Zb r160.2))
  else bif (decide (r12.1 = 6)) then
    Option.bind (Zh (Zb r12.2) 4) fun r162 =>
    bif (decide ((0 : Int) < index)) then
      Option.bind (Zh (Zb r162.2) index) fun r163 =>
      some ((V.agg [(V.int .i64 r12.1), (V.inl Zc []), (V.inl Zc []), (V.int .i64 (IntKind.i64.wrap (1 + r163.1)))]), (Zb r163.2))
    else some ((V.agg [(V.int .i64 r12.1), (V.inl Zc []), (V.inl Zc []), (V.int .i64 (IntKind.i64.wrap (1 + r162.1)))]), (Zb r162.2))
  else bif (decide (r12.1 = 7)) then
    Option.bind (Zh (Zb r12.2) 4) fun r164 =>
    bif (decide ((0 : Int) < index)) then
      Option.bind (Zh (Zb r164.2) index) fun r165 =>
      some ((V.agg [(V.int .i64 r12.1), (V.inl Zc []), (V.inl Zc []), (V.int .i64 (IntKind.i64.wrap (1 + r165.1)))]), (Zb r165.2))
    else some ((V.agg [(V.int .i64 r12.1), (V.inl Zc []), (V.inl Zc []), (V.int .i64 (IntKind.i64.wrap (1 + r164.1)))]), (Zb r164.2))
  else some ((V.agg [(V.int .i64 r12.1), (V.inl Zc []), (V.inl Zc []), (V.int .i64 0)]), (Zb r12.2))
def ZE (c : V) (n : Int) : Option (Bool × V) :=
  Option.bind (Zh (Zb c) n) fun r168 =>
  some ((decide (r168.1 = 0)), (Zb r168.2))
def ZbK : Nat → List V → Int → V → Option (Nat × Int)
  | 0, _, _, _ => none
  | k_ + 1, key1, i5, b0 =>
    bif (decide (i5 < (((gl b0 1).length : Nat) : Int))) then
      bif (Zm i5 ((gl b0 1).length)) then
        bif (Zbb ((gl (rd (gl b0 1) i5.toNat) 0).map Zan) (key1.map Zan)) then
          some (0, i5)
        else ZbK k_ key1 (IntKind.i64.wrap (i5 + 1)) (Za b0)
      else none
    else some (1, 0)
def ZaT (s : V) (key : List V) : Option (Int) :=
  Option.bind (ZbK (((((gl (Za s) 1).length : Nat) : Int) - 0).toNat + 1) key 0 (Za s)) fun r171 =>
  bif (Nat.beq r171.1 0) then
    some r171.2
  else some (-1)
def Zbs : Nat → List V → Int → V → Option (Nat × Int)
  | 0, _, _, _ => none
  | k_ + 1, key1, i5, b0 =>
    bif (decide (i5 < (((gl b0 2).length : Nat) : Int))) then
      bif (Zm i5 ((gl b0 2).length)) then
        bif (Zbb ((gl (rd (gl b0 2) i5.toNat) 0).map Zan) (key1.map Zan)) then
          some (0, i5)
        else Zbs k_ key1 (IntKind.i64.wrap (i5 + 1)) (Za b0)
      else none
    else some (1, 0)
def ZcN (s : V) (key : List V) : Option (Int) :=
  Option.bind (Zbs (((((gl (Za s) 2).length : Nat) : Int) - 0).toNat + 1) key 0 (Za s)) fun r174 =>
  bif (Nat.beq r174.1 0) then
    some r174.2
  else some (-1)
def Zbt : Nat → Int → Int → V → Option (Nat × Int)
  | 0, _, _, _ => none
  | k_ + 1, id1, i5, b0 =>
    bif (decide (i5 < (((gl b0 4).length : Nat) : Int))) then
      bif (Zm i5 ((gl b0 4).length)) then
        bif (decide ((gi (rd (gl b0 4) i5.toNat) 0) = id1)) then
          some (0, i5)
        else Zbt k_ id1 (IntKind.i64.wrap (i5 + 1)) (Za b0)
      else none
    else some (1, 0)
def Zbg (s : V) (id : Int) : Option (Int) :=
  Option.bind (Zbt (((((gl (Za s) 4).length : Nat) : Int) - 0).toNat + 1) id 0 (Za s)) fun r183 =>
  bif (Nat.beq r183.1 0) then
    some r183.2
  else some (-1)
def ZbN : Nat → V → List V → List V → List V → List V → Option (V × List V × List V × List V × List V)
  | 0, _, _, _, _, _ => none
  | k_ + 1, b0, r1, r2, r3, r4 =>
    bif (decide ((10 : Int) < ((r2.length : Nat) : Int))) then
      bif (Zm 0 r2.length) then
        bif (decide ((1 : Int) ≤ ((r2.length : Nat) : Int))) then
          none
        else none
      else none
    else some ((V.agg [(V.int .i64 (gi b0 0)), (V.sl 1 Zg 0 none), (V.sl 2 Zf 0 none), (V.int .i64 (gi b0 3)), (V.sl 3 Zd 0 none), (V.sl 4 Ze 0 none)]), r1, r2, r3, r4)
def Zcv (s : V) (i : Int) : Option (V) :=
  bif (Zm i ((gl s 1).length)) then
    bif ((decide ((0 : Int) ≤ i)) && (decide (i ≤ (((gl s 1).length : Nat) : Int)))) then
      bif ((Zu (0 + (((gl s 1).take i.toNat).length)) 64) && true) then
        bif ((decide ((0 : Int) ≤ (IntKind.i64.wrap (i + 1)))) && (decide ((IntKind.i64.wrap (i + 1)) ≤ (((gl s 1).length : Nat) : Int)))) then
          bif ((Zu ((((gl s 1).take i.toNat).length) + ((((gl s 1).drop (0 + ((IntKind.i64.wrap (i + 1)).toNat))).take (((gl s 1).length) - ((IntKind.i64.wrap (i + 1)).toNat))).length)) 64) && true) then
            bif ((Zu (0 + ((gl s 2).length)) 32) && true) then
              bif ((Zu (((gl s 2).length) + 1) 32) && true) then
                Option.bind (ZbN ((((((gl s 2) ++ [(V.agg [(V.inl Zc (gl (rd (gl s 1) (0 + i.toNat)) 0)), (V.int .i64 (gi s 0))])]).length : Nat) : Int) - 10).toNat + 1) (V.agg [(V.int .i64 (gi s 0)), (V.sl 1 Zg 0 none), (V.sl 2 Zf 0 none), (V.int .i64 (gi s 3)), (V.sl 3 Zd 0 none), (V.sl 4 Ze 0 none)]) (((gl s 1).take i.toNat) ++ (((gl s 1).drop (0 + ((IntKind.i64.wrap (i + 1)).toNat))).take (((gl s 1).length) - ((IntKind.i64.wrap (i + 1)).toNat)))) ((gl s 2) ++ [(V.agg [(V.inl Zc (gl (rd (gl s 1) (0 + i.toNat)) 0)), (V.int .i64 (gi s 0))])]) (gl s 4) (gl s 5)) fun r186 =>
                some (V.agg [(V.int .i64 (gi r186.1 0)), (V.inl Zg r186.2.1), (V.inl Zf r186.2.2.1), (V.int .i64 (gi r186.1 3)), (V.inl Zd r186.2.2.2.1), (V.inl Ze r186.2.2.2.2)])
              else none
            else none
          else none
        else none
      else none
    else none
  else none
def Z1 : Nat → List V → List V → Int → V → List V → List V → List V → List V → Option (List V × List V × Int × V × List V × List V × List V × List V)
  | 0, _, _, _, _, _, _, _, _ => none
  | k_ + 1, key1, val2, i7, b0, r1, r2, r3, r4 =>
    bif (decide (i7 < ((r1.length : Nat) : Int))) then
      bif (Zm i7 r1.length) then
        bif (ZbM ((gl (rd r1 (0 + i7.toNat)) 0).map Zan) (key1.map Zan)) then
          Z1 k_ key1 val2 (IntKind.i64.wrap (i7 + 1)) (V.agg [(V.int .i64 (gi b0 0)), (V.sl 1 Zg 0 none), (V.sl 2 Zf 0 none), (V.int .i64 (gi b0 3)), (V.sl 3 Zd 0 none), (V.sl 4 Ze 0 none)]) r1 r2 r3 r4
        else some (key1, val2, i7, (V.agg [(V.int .i64 (gi b0 0)), (V.sl 1 Zg 0 none), (V.sl 2 Zf 0 none), (V.int .i64 (gi b0 3)), (V.sl 3 Zd 0 none), (V.sl 4 Ze 0 none)]), r1, r2, r3, r4)
      else none
    else some (key1, val2, i7, (V.agg [(V.int .i64 (gi b0 0)), (V.sl 1 Zg 0 none), (V.sl 2 Zf 0 none), (V.int .i64 (gi b0 3)), (V.sl 3 Zd 0 none), (V.sl 4 Ze 0 none)]), r1, r2, r3, r4)
def Zaf (s : V) (key : List V) (val : List V) : Option (Bool × V) :=
  Option.bind (ZaT (Za s) key) fun r215 =>
  bif (decide ((0 : Int) ≤ r215)) then
    bif ((Zu (0 + val.length) 1) && true) then
      bif (Zm r215 ((gl s 1).length)) then
        bif (Zm r215 (((gl s 1).set (0 + r215.toNat) (V.agg [(V.inl Zc (gl (rd (gl s 1) (0 + r215.toNat)) 0)), (V.inl Zc val), (V.int .i64 (gi (rd (gl s 1) (0 + r215.toNat)) 2)), (V.int .i64 (gi (rd (gl s 1) (0 + r215.toNat)) 3))])).length)) then
          some (true, (V.agg [(V.int .i64 (gi s 0)), (V.inl Zg (((gl s 1).set (0 + r215.toNat) (V.agg [(V.inl Zc (gl (rd (gl s 1) (0 + r215.toNat)) 0)), (V.inl Zc val), (V.int .i64 (gi (rd (gl s 1) (0 + r215.toNat)) 2)), (V.int .i64 (gi (rd (gl s 1) (0 + r215.toNat)) 3))])).set (0 + r215.toNat) (V.agg [(V.inl Zc (gl (rd ((gl s 1).set (0 + r215.toNat) (V.agg [(V.inl Zc (gl (rd (gl s 1) (0 + r215.toNat)) 0)), (V.inl Zc val), (V.int .i64 (gi (rd (gl s 1) (0 + r215.toNat)) 2)), (V.int .i64 (gi (rd (gl s 1) (0 + r215.toNat)) 3))])) (0 + r215.toNat)) 0)), (V.inl Zc (gl (rd ((gl s 1).set (0 + r215.toNat) (V.agg [(V.inl Zc (gl (rd (gl s 1) (0 + r215.toNat)) 0)), (V.inl Zc val), (V.int .i64 (gi (rd (gl s 1) (0 + r215.toNat)) 2)), (V.int .i64 (gi (rd (gl s 1) (0 + r215.toNat)) 3))])) (0 + r215.toNat)) 1)), (V.int .i64 (gi s 0)), (V.int .i64 (gi (rd ((gl s 1).set (0 + r215.toNat) (V.agg [(V.inl Zc (gl (rd (gl s 1) (0 + r215.toNat)) 0)), (V.inl Zc val), (V.int .i64 (gi (rd (gl s 1) (0 + r215.toNat)) 2)), (V.int .i64 (gi (rd (gl s 1) (0 + r215.toNat)) 3))])) (0 + r215.toNat)) 3))]))), (V.inl Zf (gl s 2)), (V.int .i64 (gi s 3)), (V.inl Zd (gl s 4)), (V.inl Ze (gl s 5))]))
        else none
      else none
    else none
  else bif (decide ((20 : Int) ≤ (((gl s 1).length : Nat) : Int))) then
    some (false, (Za s))
  else Option.bind (ZcN (Za s) key) fun r216 =>
  bif (decide ((0 : Int) ≤ r216)) then
    bif ((decide ((0 : Int) ≤ r216)) && (decide (r216 ≤ (((gl s 2).length : Nat) : Int)))) then
      bif ((Zu (0 + (((gl s 2).take r216.toNat).length)) 32) && true) then
        bif ((decide ((0 : Int) ≤ (IntKind.i64.wrap (r216 + 1)))) && (decide ((IntKind.i64.wrap (r216 + 1)) ≤ (((gl s 2).length : Nat) : Int)))) then
          bif ((Zu ((((gl s 2).take r216.toNat).length) + ((((gl s 2).drop (0 + ((IntKind.i64.wrap (r216 + 1)).toNat))).take (((gl s 2).length) - ((IntKind.i64.wrap (r216 + 1)).toNat))).length)) 32) && true) then
            Option.bind (Z1 (((((gl s 1).length : Nat) : Int) - 0).toNat + 1) key val 0 (V.agg [(V.int .i64 (gi s 0)), (V.sl 1 Zg 0 none), (V.sl 2 Zf 0 none), (V.int .i64 (gi s 3)), (V.sl 3 Zd 0 none), (V.sl 4 Ze 0 none)]) (gl s 1) (((gl s 2).take r216.toNat) ++ (((gl s 2).drop (0 + ((IntKind.i64.wrap (r216 + 1)).toNat))).take (((gl s 2).length) - ((IntKind.i64.wrap (r216 + 1)).toNat)))) (gl s 4) (gl s 5)) fun r217 =>
            bif ((decide ((0 : Int) ≤ r217.2.2.1)) && (decide (r217.2.2.1 ≤ ((r217.2.2.2.2.1.length : Nat) : Int)))) then
              bif ((Zu (0 + ((r217.2.2.2.2.1.take r217.2.2.1.toNat).length)) 64) && true) then
                bif ((Zu (0 + r217.1.length) 1) && true) then
                  bif ((Zu (0 + r217.2.1.length) 1) && true) then
                    bif ((Zu (((r217.2.2.2.2.1.take r217.2.2.1.toNat).length) + 1) 64) && true) then
                      bif ((decide ((0 : Int) ≤ r217.2.2.1)) && (decide (r217.2.2.1 ≤ ((r217.2.2.2.2.1.length : Nat) : Int)))) then
                        bif ((Zu ((((r217.2.2.2.2.1.take r217.2.2.1.toNat) ++ [(V.agg [(V.inl Zc r217.1), (V.inl Zc r217.2.1), (V.int .i64 (gi r217.2.2.2.1 0)), (V.int .i64 0)])]).length) + (((r217.2.2.2.2.1.drop (0 + r217.2.2.1.toNat)).take (r217.2.2.2.2.1.length - r217.2.2.1.toNat)).length)) 64) && true) then
                          some (true, (V.agg [(V.int .i64 (gi r217.2.2.2.1 0)), (V.inl Zg (((r217.2.2.2.2.1.take r217.2.2.1.toNat) ++ [(V.agg [(V.inl Zc r217.1), (V.inl Zc r217.2.1), (V.int .i64 (gi r217.2.2.2.1 0)), (V.int .i64 0)])]) ++ ((r217.2.2.2.2.1.drop (0 + r217.2.2.1.toNat)).take (r217.2.2.2.2.1.length - r217.2.2.1.toNat)))), (V.inl Zf r217.2.2.2.2.2.1), (V.int .i64 (gi r217.2.2.2.1 3)), (V.inl Zd r217.2.2.2.2.2.2.1), (V.inl Ze r217.2.2.2.2.2.2.2)]))
                        else none
                      else none
                    else none
                  else none
                else none
              else none
            else none
          else none
        else none
      else none
    else none
  else Option.bind (Z1 (((((gl s 1).length : Nat) : Int) - 0).toNat + 1) key val 0 (V.agg [(V.int .i64 (gi s 0)), (V.sl 1 Zg 0 none), (V.sl 2 Zf 0 none), (V.int .i64 (gi s 3)), (V.sl 3 Zd 0 none), (V.sl 4 Ze 0 none)]) (gl s 1) (gl s 2) (gl s 4) (gl s 5)) fun r218 =>
  bif ((decide ((0 : Int) ≤ r218.2.2.1)) && (decide (r218.2.2.1 ≤ ((r218.2.2.2.2.1.length : Nat) : Int)))) then
    bif ((Zu (0 + ((r218.2.2.2.2.1.take r218.2.2.1.toNat).length)) 64) && true) then
      bif ((Zu (0 + r218.1.length) 1) && true) then
        bif ((Zu (0 + r218.2.1.length) 1) && true) then
          bif ((Zu (((r218.2.2.2.2.1.take r218.2.2.1.toNat).length) + 1) 64) && true) then
            bif ((decide ((0 : Int) ≤ r218.2.2.1)) && (decide (r218.2.2.1 ≤ ((r218.2.2.2.2.1.length : Nat) : Int)))) then
              bif ((Zu ((((r218.2.2.2.2.1.take r218.2.2.1.toNat) ++ [(V.agg [(V.inl Zc r218.1), (V.inl Zc r218.2.1), (V.int .i64 (gi r218.2.2.2.1 0)), (V.int .i64 0)])]).length) + (((r218.2.2.2.2.1.drop (0 + r218.2.2.1.toNat)).take (r218.2.2.2.2.1.length - r218.2.2.1.toNat)).length)) 64) && true) then
                some (true, (V.agg [(V.int .i64 (gi r218.2.2.2.1 0)), (V.inl Zg (((r218.2.2.2.2.1.take r218.2.2.1.toNat) ++ [(V.agg [(V.inl Zc r218.1), (V.inl Zc r218.2.1), (V.int .i64 (gi r218.2.2.2.1 0)), (V.int .i64 0)])]) ++ ((r218.2.2.2.2.1.drop (0 + r218.2.2.1.toNat)).take (r218.2.2.2.2.1.length - r218.2.2.1.toNat)))), (V.inl Zf r218.2.2.2.2.2.1), (V.int .i64 (gi r218.2.2.2.1 3)), (V.inl Zd r218.2.2.2.2.2.2.1), (V.inl Ze r218.2.2.2.2.2.2.2)]))
              else none
            else none
          else none
        else none
      else none
    else none
  else none
def Zak : Nat → Int → V → V → List V → List V → List V → List V → Option (V × List V × List V × List V × List V)
  | 0, _, _, _, _, _, _, _ => none
  | k_ + 1, k5, b0, b1, r2, r3, r4, r5 =>
    bif (decide (k5 < ((r2.length : Nat) : Int))) then
      bif (Zm k5 r2.length) then
        bif (!(decide ((gi (rd r2 (0 + k5.toNat)) 3) = (gi b1 0)))) then
          Zak k_ (IntKind.i64.wrap (k5 + 1)) (V.agg [(V.int .i64 (gi b0 0)), (V.sl 2 Zg 0 none), (V.sl 3 Zf 0 none), (V.int .i64 (gi b0 3)), (V.sl 4 Zd 0 none), (V.sl 5 Ze 0 none)]) (Zcu b1) r2 r3 r4 r5
        else bif (gb b1 1) then
          Option.bind (Zcv (V.agg [(V.int .i64 (gi b0 0)), (V.inl Zg r2), (V.inl Zf r3), (V.int .i64 (gi b0 3)), (V.inl Zd r4), (V.inl Ze r5)]) k5) fun r224 =>
          Zak k_ (IntKind.i64.wrap ((IntKind.i64.wrap (k5 - 1)) + 1)) (V.agg [(V.int .i64 (gi r224 0)), (V.sl 2 Zg 0 none), (V.sl 3 Zf 0 none), (V.int .i64 (gi r224 3)), (V.sl 4 Zd 0 none), (V.sl 5 Ze 0 none)]) (Zcu b1) (gl r224 1) (gl r224 2) (gl r224 4) (gl r224 5)
        else bif (Zm k5 r2.length) then
          bif (Zm k5 ((r2.set (0 + k5.toNat) (V.agg [(V.inl Zc (gl (rd r2 (0 + k5.toNat)) 0)), (V.inl Zc (gl (rd r2 (0 + k5.toNat)) 1)), (V.int .i64 (gi (rd r2 (0 + k5.toNat)) 2)), (V.int .i64 0)])).length)) then
            Zak k_ (IntKind.i64.wrap (k5 + 1)) (V.agg [(V.int .i64 (gi b0 0)), (V.sl 2 Zg 0 none), (V.sl 3 Zf 0 none), (V.int .i64 (gi b0 3)), (V.sl 4 Zd 0 none), (V.sl 5 Ze 0 none)]) (Zcu b1) ((r2.set (0 + k5.toNat) (V.agg [(V.inl Zc (gl (rd r2 (0 + k5.toNat)) 0)), (V.inl Zc (gl (rd r2 (0 + k5.toNat)) 1)), (V.int .i64 (gi (rd r2 (0 + k5.toNat)) 2)), (V.int .i64 0)])).set (0 + k5.toNat) (V.agg [(V.inl Zc (gl (rd (r2.set (0 + k5.toNat) (V.agg [(V.inl Zc (gl (rd r2 (0 + k5.toNat)) 0)), (V.inl Zc (gl (rd r2 (0 + k5.toNat)) 1)), (V.int .i64 (gi (rd r2 (0 + k5.toNat)) 2)), (V.int .i64 0)])) (0 + k5.toNat)) 0)), (V.inl Zc (gl (rd (r2.set (0 + k5.toNat) (V.agg [(V.inl Zc (gl (rd r2 (0 + k5.toNat)) 0)), (V.inl Zc (gl (rd r2 (0 + k5.toNat)) 1)), (V.int .i64 (gi (rd r2 (0 + k5.toNat)) 2)), (V.int .i64 0)])) (0 + k5.toNat)) 1)), (V.int .i64 (gi b0 0)), (V.int .i64 (gi (rd (r2.set (0 + k5.toNat) (V.agg [(V.inl Zc (gl (rd r2 (0 + k5.toNat)) 0)), (V.inl Zc (gl (rd r2 (0 + k5.toNat)) 1)), (V.int .i64 (gi (rd r2 (0 + k5.toNat)) 2)), (V.int .i64 0)])) (0 + k5.toNat)) 3))])) r3 r4 r5
          else none
        else none
      else none
    else some ((V.agg [(V.int .i64 (gi b0 0)), (V.sl 1 Zg 0 none), (V.sl 2 Zf 0 none), (V.int .i64 (gi b0 3)), (V.sl 3 Zd 0 none), (V.sl 4 Ze 0 none)]), r2, r3, r4, r5)
def Zcw (s : V) (i : Int) : Option (V) :=
  bif (Zm i ((gl s 4).length)) then
    bif ((decide ((0 : Int) ≤ i)) && (decide (i ≤ (((gl s 4).length : Nat) : Int)))) then
      bif ((Zu (0 + (((gl s 4).take i.toNat).length)) 16) && true) then
        bif ((decide ((0 : Int) ≤ (IntKind.i64.wrap (i + 1)))) && (decide ((IntKind.i64.wrap (i + 1)) ≤ (((gl s 4).length : Nat) : Int)))) then
          bif ((Zu ((((gl s 4).take i.toNat).length) + (((gl s 4).drop (0 + ((IntKind.i64.wrap (i + 1)).toNat))).length)) 16) && true) then
            Option.bind (Zak (((((gl s 1).length : Nat) : Int) - 0).toNat + 1) 0 (V.agg [(V.int .i64 (gi s 0)), (V.sl 2 Zg 0 none), (V.sl 3 Zf 0 none), (V.int .i64 (gi s 3)), (V.sl 4 Zd 0 none), (V.sl 5 Ze 0 none)]) (Zcu (rd (gl s 4) (0 + i.toNat))) (gl s 1) (gl s 2) (((gl s 4).take i.toNat) ++ ((gl s 4).drop (0 + ((IntKind.i64.wrap (i + 1)).toNat)))) (gl s 5)) fun r225 =>
            some (V.agg [(V.int .i64 (gi r225.1 0)), (V.inl Zg r225.2.1), (V.inl Zf r225.2.2.1), (V.int .i64 (gi r225.1 3)), (V.inl Zd r225.2.2.2.1), (V.inl Ze r225.2.2.2.2)])
          else none
        else none
      else none
    else none
  else none
def ZaY (s : V) (o : V) : Option (Int × V) :=
  bif (decide ((0 : Int) < (((gl o 1).length : Nat) : Int))) then
    Option.bind (ZaT (Za s) (gl o 1)) fun r214 =>
    bif (decide ((gi o 0) = 1)) then
      Option.bind (Zaf (Za s) (gl o 1) (gl o 2)) fun r219 =>
      bif (!r219.1) then
        some (4, (Za r219.2))
      else some (0, (Za r219.2))
    else bif (decide ((gi o 0) = 2)) then
      bif (decide ((0 : Int) ≤ r214)) then
        bif (Zm r214 ((gl s 1).length)) then
          bif (!(decide ((gi (rd (gl s 1) (0 + r214.toNat)) 2) = (gi o 3)))) then
            some (3, (Za s))
          else Option.bind (Zaf (Za s) (gl o 1) (gl o 2)) fun r220 =>
          bif (!r220.1) then
            some (4, (Za r220.2))
          else some (0, (Za r220.2))
        else none
      else bif (!(decide ((0 : Int) = (gi o 3)))) then
        some (3, (Za s))
      else Option.bind (Zaf (Za s) (gl o 1) (gl o 2)) fun r221 =>
      bif (!r221.1) then
        some (4, (Za r221.2))
      else some (0, (Za r221.2))
    else bif (decide ((gi o 0) = 3)) then
      bif (decide (r214 < 0)) then
        some (1, (Za s))
      else Option.bind (Zcv (Za s) r214) fun r222 =>
      some (0, (Za r222))
    else bif (decide ((gi o 0) = 4)) then
      bif (decide ((8 : Int) ≤ (((gl s 4).length : Nat) : Int))) then
        some (4, (Za s))
      else bif ((Zu (0 + ((gl s 4).length)) 16) && true) then
        bif ((Zu (((gl s 4).length) + 1) 16) && true) then
          some (0, (V.agg [(V.int .i64 (gi s 0)), (V.inl Zg (gl s 1)), (V.inl Zf (gl s 2)), (V.int .i64 (gi s 3)), (V.inl Zd ((gl s 4) ++ [(V.agg [(V.int .i64 (gi s 0)), (V.bool (decide ((gi o 3) = 1)))])])), (V.inl Ze (gl s 5))]))
        else none
      else none
    else bif (decide ((gi o 0) = 5)) then
      Option.bind (Zbg (Za s) (gi o 3)) fun r223 =>
      bif (decide (r223 < 0)) then
        some (1, (Za s))
      else Option.bind (Zcw (Za s) r223) fun r226 =>
      some (0, (Za r226))
    else bif (decide ((gi o 0) = 6)) then
      Option.bind (Zbg (Za s) (gi o 3)) fun r227 =>
      bif (decide (r227 < 0)) then
        some (1, (Za s))
      else bif (decide ((0 : Int) ≤ r214)) then
        bif (Zm r214 ((gl s 1).length)) then
          bif (!(decide ((gi (rd (gl s 1) (0 + r214.toNat)) 3) = 0))) then
            bif (Zm r214 ((gl s 1).length)) then
              bif (!(decide ((gi (rd (gl s 1) (0 + r214.toNat)) 3) = (gi o 3)))) then
                some (2, (Za s))
              else Option.bind (Zaf (Za s) (gl o 1) (gl o 2)) fun r228 =>
              bif (!r228.1) then
                some (4, (Za r228.2))
              else Option.bind (ZaT (Za r228.2) (gl o 1)) fun r229 =>
              bif (Zm r229 ((gl r228.2 1).length)) then
                some (0, (V.agg [(V.int .i64 (gi r228.2 0)), (V.inl Zg ((gl r228.2 1).set (0 + r229.toNat) (V.agg [(V.inl Zc (gl (rd (gl r228.2 1) (0 + r229.toNat)) 0)), (V.inl Zc (gl (rd (gl r228.2 1) (0 + r229.toNat)) 1)), (V.int .i64 (gi (rd (gl r228.2 1) (0 + r229.toNat)) 2)), (V.int .i64 (gi o 3))]))), (V.inl Zf (gl r228.2 2)), (V.int .i64 (gi r228.2 3)), (V.inl Zd (gl r228.2 4)), (V.inl Ze (gl r228.2 5))]))
              else none
            else none
          else Option.bind (Zaf (Za s) (gl o 1) (gl o 2)) fun r230 =>
          bif (!r230.1) then
            some (4, (Za r230.2))
          else Option.bind (ZaT (Za r230.2) (gl o 1)) fun r231 =>
          bif (Zm r231 ((gl r230.2 1).length)) then
            some (0, (V.agg [(V.int .i64 (gi r230.2 0)), (V.inl Zg ((gl r230.2 1).set (0 + r231.toNat) (V.agg [(V.inl Zc (gl (rd (gl r230.2 1) (0 + r231.toNat)) 0)), (V.inl Zc (gl (rd (gl r230.2 1) (0 + r231.toNat)) 1)), (V.int .i64 (gi (rd (gl r230.2 1) (0 + r231.toNat)) 2)), (V.int .i64 (gi o 3))]))), (V.inl Zf (gl r230.2 2)), (V.int .i64 (gi r230.2 3)), (V.inl Zd (gl r230.2 4)), (V.inl Ze (gl r230.2 5))]))
          else none
        else none
      else Option.bind (Zaf (Za s) (gl o 1) (gl o 2)) fun r232 =>
      bif (!r232.1) then
        some (4, (Za r232.2))
      else Option.bind (ZaT (Za r232.2) (gl o 1)) fun r233 =>
      bif (Zm r233 ((gl r232.2 1).length)) then
        some (0, (V.agg [(V.int .i64 (gi r232.2 0)), (V.inl Zg ((gl r232.2 1).set (0 + r233.toNat) (V.agg [(V.inl Zc (gl (rd (gl r232.2 1) (0 + r233.toNat)) 0)), (V.inl Zc (gl (rd (gl r232.2 1) (0 + r233.toNat)) 1)), (V.int .i64 (gi (rd (gl r232.2 1) (0 + r233.toNat)) 2)), (V.int .i64 (gi o 3))]))), (V.inl Zf (gl r232.2 2)), (V.int .i64 (gi r232.2 3)), (V.inl Zd (gl r232.2 4)), (V.inl Ze (gl r232.2 5))]))
      else none
    else bif (decide ((gi o 0) = 7)) then
      bif (decide (r214 < 0)) then
        some (1, (Za s))
      else bif (Zm r214 ((gl s 1).length)) then
        bif (!(decide ((gi (rd (gl s 1) (0 + r214.toNat)) 3) = (gi o 3)))) then
          some (1, (Za s))
        else bif (Zm r214 ((gl s 1).length)) then
          bif (Zm r214 (((gl s 1).set (0 + r214.toNat) (V.agg [(V.inl Zc (gl (rd (gl s 1) (0 + r214.toNat)) 0)), (V.inl Zc (gl (rd (gl s 1) (0 + r214.toNat)) 1)), (V.int .i64 (gi (rd (gl s 1) (0 + r214.toNat)) 2)), (V.int .i64 0)])).length)) then
            some (0, (V.agg [(V.int .i64 (gi s 0)), (V.inl Zg (((gl s 1).set (0 + r214.toNat) (V.agg [(V.inl Zc (gl (rd (gl s 1) (0 + r214.toNat)) 0)), (V.inl Zc (gl (rd (gl s 1) (0 + r214.toNat)) 1)), (V.int .i64 (gi (rd (gl s 1) (0 + r214.toNat)) 2)), (V.int .i64 0)])).set (0 + r214.toNat) (V.agg [(V.inl Zc (gl (rd ((gl s 1).set (0 + r214.toNat) (V.agg [(V.inl Zc (gl (rd (gl s 1) (0 + r214.toNat)) 0)), (V.inl Zc (gl (rd (gl s 1) (0 + r214.toNat)) 1)), (V.int .i64 (gi (rd (gl s 1) (0 + r214.toNat)) 2)), (V.int .i64 0)])) (0 + r214.toNat)) 0)), (V.inl Zc (gl (rd ((gl s 1).set (0 + r214.toNat) (V.agg [(V.inl Zc (gl (rd (gl s 1) (0 + r214.toNat)) 0)), (V.inl Zc (gl (rd (gl s 1) (0 + r214.toNat)) 1)), (V.int .i64 (gi (rd (gl s 1) (0 + r214.toNat)) 2)), (V.int .i64 0)])) (0 + r214.toNat)) 1)), (V.int .i64 (gi s 0)), (V.int .i64 (gi (rd ((gl s 1).set (0 + r214.toNat) (V.agg [(V.inl Zc (gl (rd (gl s 1) (0 + r214.toNat)) 0)), (V.inl Zc (gl (rd (gl s 1) (0 + r214.toNat)) 1)), (V.int .i64 (gi (rd (gl s 1) (0 + r214.toNat)) 2)), (V.int .i64 0)])) (0 + r214.toNat)) 3))]))), (V.inl Zf (gl s 2)), (V.int .i64 (gi s 3)), (V.inl Zd (gl s 4)), (V.inl Ze (gl s 5))]))
          else none
        else none
      else none
    else some (0, (Za s))
  else bif (decide ((gi o 0) = 1)) then
    Option.bind (Zaf (Za s) (gl o 1) (gl o 2)) fun r234 =>
    bif (!r234.1) then
      some (4, (Za r234.2))
    else some (0, (Za r234.2))
  else bif (decide ((gi o 0) = 2)) then
    bif (!(decide ((0 : Int) = (gi o 3)))) then
      some (3, (Za s))
    else Option.bind (Zaf (Za s) (gl o 1) (gl o 2)) fun r235 =>
    bif (!r235.1) then
      some (4, (Za r235.2))
    else some (0, (Za r235.2))
  else bif (decide ((gi o 0) = 3)) then
    some (1, (Za s))
  else bif (decide ((gi o 0) = 4)) then
    bif (decide ((8 : Int) ≤ (((gl s 4).length : Nat) : Int))) then
      some (4, (Za s))
    else bif ((Zu (0 + ((gl s 4).length)) 16) && true) then
      bif ((Zu (((gl s 4).length) + 1) 16) && true) then
        some (0, (V.agg [(V.int .i64 (gi s 0)), (V.inl Zg (gl s 1)), (V.inl Zf (gl s 2)), (V.int .i64 (gi s 3)), (V.inl Zd ((gl s 4) ++ [(V.agg [(V.int .i64 (gi s 0)), (V.bool (decide ((gi o 3) = 1)))])])), (V.inl Ze (gl s 5))]))
      else none
    else none
  else bif (decide ((gi o 0) = 5)) then
    Option.bind (Zbg (Za s) (gi o 3)) fun r236 =>
    bif (decide (r236 < 0)) then
      some (1, (Za s))
    else Option.bind (Zcw (Za s) r236) fun r237 =>
    some (0, (Za r237))
  else bif (decide ((gi o 0) = 6)) then
    Option.bind (Zbg (Za s) (gi o 3)) fun r238 =>
    bif (decide (r238 < 0)) then
      some (1, (Za s))
    else Option.bind (Zaf (Za s) (gl o 1) (gl o 2)) fun r239 =>
    bif (!r239.1) then
      some (4, (Za r239.2))
    else Option.bind (ZaT (Za r239.2) (gl o 1)) fun r240 =>
    bif (Zm r240 ((gl r239.2 1).length)) then
      some (0, (V.agg [(V.int .i64 (gi r239.2 0)), (V.inl Zg ((gl r239.2 1).set (0 + r240.toNat) (V.agg [(V.inl Zc (gl (rd (gl r239.2 1) (0 + r240.toNat)) 0)), (V.inl Zc (gl (rd (gl r239.2 1) (0 + r240.toNat)) 1)), (V.int .i64 (gi (rd (gl r239.2 1) (0 + r240.toNat)) 2)), (V.int .i64 (gi o 3))]))), (V.inl Zf (gl r239.2 2)), (V.int .i64 (gi r239.2 3)), (V.inl Zd (gl r239.2 4)), (V.inl Ze (gl r239.2 5))]))
    else none
  else bif (decide ((gi o 0) = 7)) then
    some (1, (Za s))
  else some (0, (Za s))
def Z9 : Nat → Int → V → V → V → V → List V → List V → List V → List V → Option (Int × V × V × V × V × List V × List V × List V × List V)
  | 0, _, _, _, _, _, _, _, _, _ => none
  | k_ + 1, k6, b0, b1, b2, b3, r4, r5, r6, r7 =>
    bif (decide (k6 < ((r7.length : Nat) : Int))) then
      bif (Zm k6 r7.length) then
        bif (decide ((gi (rd r7 (0 + k6.toNat)) 0) < (gi b1 0))) then
          Z9 k_ (IntKind.i64.wrap (k6 + 1)) (V.agg [(V.int .i64 (gi b0 0)), (V.sl 4 Zg 0 none), (V.sl 5 Zf 0 none), (V.int .i64 (gi b0 3)), (V.sl 6 Zd 0 none), (V.sl 7 Ze 0 none)]) (Zn b1) (Zw b2) (Zw b3) r4 r5 r6 r7
        else some (k6, (V.agg [(V.int .i64 (gi b0 0)), (V.sl 4 Zg 0 none), (V.sl 5 Zf 0 none), (V.int .i64 (gi b0 3)), (V.sl 6 Zd 0 none), (V.sl 7 Ze 0 none)]), (Zn b1), (Zw b2), (Zw b3), r4, r5, r6, r7)
      else none
    else some (k6, (V.agg [(V.int .i64 (gi b0 0)), (V.sl 4 Zg 0 none), (V.sl 5 Zf 0 none), (V.int .i64 (gi b0 3)), (V.sl 6 Zd 0 none), (V.sl 7 Ze 0 none)]), (Zn b1), (Zw b2), (Zw b3), r4, r5, r6, r7)
def ZD (s : V) (c : V) : Option (V × V) :=
  bif (decide ((gi c 0) < 0)) then
    some ((V.agg [(V.int .i64 0), (V.int .i64 (IntKind.i64.wrap ((gi s 0) + 1)))]), (V.agg [(V.int .i64 (IntKind.i64.wrap ((gi s 0) + 1))), (V.inl Zg (gl s 1)), (V.inl Zf (gl s 2)), (V.int .i64 (gi s 3)), (V.inl Zd (gl s 4)), (V.inl Ze (gl s 5))]))
  else Option.bind (Z9 (((((gl s 5).length : Nat) : Int) - 0).toNat + 1) 0 (V.agg [(V.int .i64 (IntKind.i64.wrap ((gi s 0) + 1))), (V.sl 4 Zg 0 none), (V.sl 5 Zf 0 none), (V.int .i64 (gi s 3)), (V.sl 6 Zd 0 none), (V.sl 7 Ze 0 none)]) (Zn c) (V.agg [(V.int .i64 0), (V.int .i64 0)]) (V.agg [(V.int .i64 0), (V.int .i64 (IntKind.i64.wrap ((gi s 0) + 1)))]) (gl s 1) (gl s 2) (gl s 4) (gl s 5)) fun r213 =>
  bif (decide (r213.1 < ((r213.2.2.2.2.2.2.2.2.length : Nat) : Int))) then
    bif (Zm r213.1 r213.2.2.2.2.2.2.2.2.length) then
      bif (decide ((gi (rd r213.2.2.2.2.2.2.2.2 (0 + r213.1.toNat)) 0) = (gi r213.2.2.1 0))) then
        bif (Zm r213.1 r213.2.2.2.2.2.2.2.2.length) then
          bif (decide ((gi (rd r213.2.2.2.2.2.2.2.2 (0 + r213.1.toNat)) 1) = (gi r213.2.2.1 1))) then
            bif (Zm r213.1 r213.2.2.2.2.2.2.2.2.length) then
              some ((V.agg [(V.int .i64 (gi (rd r213.2.2.2.2.2.2.2.2 (0 + r213.1.toNat)) 2)), (V.int .i64 (gi (rd r213.2.2.2.2.2.2.2.2 (0 + r213.1.toNat)) 3))]), (V.agg [(V.int .i64 (gi r213.2.1 0)), (V.inl Zg r213.2.2.2.2.2.1), (V.inl Zf r213.2.2.2.2.2.2.1), (V.int .i64 (gi r213.2.1 3)), (V.inl Zd r213.2.2.2.2.2.2.2.1), (V.inl Ze r213.2.2.2.2.2.2.2.2)]))
            else none
          else bif (Zm r213.1 r213.2.2.2.2.2.2.2.2.length) then
            bif (decide ((gi r213.2.2.1 1) < (gi (rd r213.2.2.2.2.2.2.2.2 (0 + r213.1.toNat)) 1))) then
              some ((V.agg [(V.int .i64 5), (V.int .i64 (gi r213.2.2.2.2.1 1))]), (V.agg [(V.int .i64 (gi r213.2.1 0)), (V.inl Zg r213.2.2.2.2.2.1), (V.inl Zf r213.2.2.2.2.2.2.1), (V.int .i64 (gi r213.2.1 3)), (V.inl Zd r213.2.2.2.2.2.2.2.1), (V.inl Ze r213.2.2.2.2.2.2.2.2)]))
            else Option.bind (ZaY (V.agg [(V.int .i64 (gi r213.2.1 0)), (V.inl Zg r213.2.2.2.2.2.1), (V.inl Zf r213.2.2.2.2.2.2.1), (V.int .i64 (gi r213.2.1 3)), (V.inl Zd r213.2.2.2.2.2.2.2.1), (V.inl Ze r213.2.2.2.2.2.2.2.2)]) (V.agg [(V.int .i64 (gi r213.2.2.1 2)), (V.inl Zc (gl r213.2.2.1 3)), (V.inl Zc (gl r213.2.2.1 4)), (V.int .i64 (gi r213.2.2.1 5))])) fun r241 =>
            bif (Zm r213.1 ((gl r241.2 5).length)) then
              bif (Zm r213.1 (((gl r241.2 5).set (0 + r213.1.toNat) (V.agg [(V.int .i64 (gi (rd (gl r241.2 5) (0 + r213.1.toNat)) 0)), (V.int .i64 (gi r213.2.2.1 1)), (V.int .i64 (gi (rd (gl r241.2 5) (0 + r213.1.toNat)) 2)), (V.int .i64 (gi (rd (gl r241.2 5) (0 + r213.1.toNat)) 3))])).length)) then
                some ((V.agg [(V.int .i64 r241.1), (V.int .i64 (gi r213.2.2.2.2.1 1))]), (V.agg [(V.int .i64 (gi r241.2 0)), (V.inl Zg (gl r241.2 1)), (V.inl Zf (gl r241.2 2)), (V.int .i64 (gi r241.2 3)), (V.inl Zd (gl r241.2 4)), (V.inl Ze (((gl r241.2 5).set (0 + r213.1.toNat) (V.agg [(V.int .i64 (gi (rd (gl r241.2 5) (0 + r213.1.toNat)) 0)), (V.int .i64 (gi r213.2.2.1 1)), (V.int .i64 (gi (rd (gl r241.2 5) (0 + r213.1.toNat)) 2)), (V.int .i64 (gi (rd (gl r241.2 5) (0 + r213.1.toNat)) 3))])).set (0 + r213.1.toNat) (V.agg [(V.int .i64 (gi (rd ((gl r241.2 5).set (0 + r213.1.toNat) (V.agg [(V.int .i64 (gi (rd (gl r241.2 5) (0 + r213.1.toNat)) 0)), (V.int .i64 (gi r213.2.2.1 1)), (V.int .i64 (gi (rd (gl r241.2 5) (0 + r213.1.toNat)) 2)), (V.int .i64 (gi (rd (gl r241.2 5) (0 + r213.1.toNat)) 3))])) (0 + r213.1.toNat)) 0)), (V.int .i64 (gi (rd ((gl r241.2 5).set (0 + r213.1.toNat) (V.agg [(V.int .i64 (gi (rd (gl r241.2 5) (0 + r213.1.toNat)) 0)), (V.int .i64 (gi r213.2.2.1 1)), (V.int .i64 (gi (rd (gl r241.2 5) (0 + r213.1.toNat)) 2)), (V.int .i64 (gi (rd (gl r241.2 5) (0 + r213.1.toNat)) 3))])) (0 + r213.1.toNat)) 1)), (V.int .i64 r241.1), (V.int .i64 (gi r213.2.2.2.2.1 1))])))]))
              else none
            else none
          else none
        else none
      else Option.bind (ZaY (V.agg [(V.int .i64 (gi r213.2.1 0)), (V.inl Zg r213.2.2.2.2.2.1), (V.inl Zf r213.2.2.2.2.2.2.1), (V.int .i64 (gi r213.2.1 3)), (V.inl Zd r213.2.2.2.2.2.2.2.1), (V.inl Ze r213.2.2.2.2.2.2.2.2)]) (V.agg [(V.int .i64 (gi r213.2.2.1 2)), (V.inl Zc (gl r213.2.2.1 3)), (V.inl Zc (gl r213.2.2.1 4)), (V.int .i64 (gi r213.2.2.1 5))])) fun r242 =>
      bif ((decide ((0 : Int) ≤ r213.1)) && (decide (r213.1 ≤ (((gl r242.2 5).length : Nat) : Int)))) then
        bif ((Zu (0 + (((gl r242.2 5).take r213.1.toNat).length)) 32) && true) then
          bif ((Zu ((((gl r242.2 5).take r213.1.toNat).length) + 1) 32) && true) then
            bif ((decide ((0 : Int) ≤ r213.1)) && (decide (r213.1 ≤ (((gl r242.2 5).length : Nat) : Int)))) then
              bif ((Zu (((((gl r242.2 5).take r213.1.toNat) ++ [(V.agg [(V.int .i64 (gi r213.2.2.1 0)), (V.int .i64 (gi r213.2.2.1 1)), (V.int .i64 r242.1), (V.int .i64 (gi r213.2.2.2.2.1 1))])]).length) + (((gl r242.2 5).drop (0 + r213.1.toNat)).length)) 32) && true) then
                some ((V.agg [(V.int .i64 r242.1), (V.int .i64 (gi r213.2.2.2.2.1 1))]), (V.agg [(V.int .i64 (gi r242.2 0)), (V.inl Zg (gl r242.2 1)), (V.inl Zf (gl r242.2 2)), (V.int .i64 (gi r242.2 3)), (V.inl Zd (gl r242.2 4)), (V.inl Ze ((((gl r242.2 5).take r213.1.toNat) ++ [(V.agg [(V.int .i64 (gi r213.2.2.1 0)), (V.int .i64 (gi r213.2.2.1 1)), (V.int .i64 r242.1), (V.int .i64 (gi r213.2.2.2.2.1 1))])]) ++ ((gl r242.2 5).drop (0 + r213.1.toNat))))]))
              else none
            else none
          else none
        else none
      else none
    else none
  else Option.bind (ZaY (V.agg [(V.int .i64 (gi r213.2.1 0)), (V.inl Zg r213.2.2.2.2.2.1), (V.inl Zf r213.2.2.2.2.2.2.1), (V.int .i64 (gi r213.2.1 3)), (V.inl Zd r213.2.2.2.2.2.2.2.1), (V.inl Ze r213.2.2.2.2.2.2.2.2)]) (V.agg [(V.int .i64 (gi r213.2.2.1 2)), (V.inl Zc (gl r213.2.2.1 3)), (V.inl Zc (gl r213.2.2.1 4)), (V.int .i64 (gi r213.2.2.1 5))])) fun r243 =>
  bif ((decide ((0 : Int) ≤ r213.1)) && (decide (r213.1 ≤ (((gl r243.2 5).length : Nat) : Int)))) then
    bif ((Zu (0 + (((gl r243.2 5).take r213.1.toNat).length)) 32) && true) then
      bif ((Zu ((((gl r243.2 5).take r213.1.toNat).length) + 1) 32) && true) then
        bif ((decide ((0 : Int) ≤ r213.1)) && (decide (r213.1 ≤ (((gl r243.2 5).length : Nat) : Int)))) then
          bif ((Zu (((((gl r243.2 5).take r213.1.toNat) ++ [(V.agg [(V.int .i64 (gi r213.2.2.1 0)), (V.int .i64 (gi r213.2.2.1 1)), (V.int .i64 r243.1), (V.int .i64 (gi r213.2.2.2.2.1 1))])]).length) + (((gl r243.2 5).drop (0 + r213.1.toNat)).length)) 32) && true) then
            some ((V.agg [(V.int .i64 r243.1), (V.int .i64 (gi r213.2.2.2.2.1 1))]), (V.agg [(V.int .i64 (gi r243.2 0)), (V.inl Zg (gl r243.2 1)), (V.inl Zf (gl r243.2 2)), (V.int .i64 (gi r243.2 3)), (V.inl Zd (gl r243.2 4)), (V.inl Ze ((((gl r243.2 5).take r213.1.toNat) ++ [(V.agg [(V.int .i64 (gi r213.2.2.1 0)), (V.int .i64 (gi r213.2.2.1 1)), (V.int .i64 r243.1), (V.int .i64 (gi r213.2.2.2.2.1 1))])]) ++ ((gl r243.2 5).drop (0 + r213.1.toNat))))]))
          else none
        else none
      else none
    else none
  else none
def Zy : Nat → Int → Int → V → V → V → List V → List V → List V → List V → List V → List V → List V → List V → Option (V × V × V × List V × List V × List V × List V × List V × List V × List V × List V)
  | 0, _, _, _, _, _, _, _, _, _, _, _, _, _ => none
  | k_ + 1, n4, i5, b0, b1, b2, r3, r4, r5, r6, r7, r8, r9, r10 =>
    bif (decide (i5 < n4)) then
      Option.bind (Zh (Zb b0) 3) fun r209 =>
      Option.bind (spec_l2op (Zb r209.2) (gi b2 0)) fun r210 =>
      bif (decide (i5 = 0)) then
        Option.bind (Zh (Zb r210.2) 2) fun r211 =>
        Option.bind (ZE (Zb r211.2) 9) fun r212 =>
        bif r212.1 then
          Option.bind (ZD (V.agg [(V.int .i64 (gi b2 0)), (V.inl Zg r7), (V.inl Zf r8), (V.int .i64 (gi b2 3)), (V.inl Zd r9), (V.inl Ze r10)]) (V.agg [(V.int .i64 (-1)), (V.int .i64 0), (V.int .i64 0), (V.inl Zc []), (V.inl Zc []), (V.int .i64 0)])) fun r244 =>
          Zy k_ n4 (IntKind.i64.wrap (i5 + 1)) (Zb r212.2) (V.agg [(V.int .i64 (gi b1 0)), (V.sl 3 Zg 0 none), (V.sl 4 Zf 0 none), (V.int .i64 (gi b1 3)), (V.sl 5 Zd 0 none), (V.sl 6 Ze 0 none)]) (V.agg [(V.int .i64 (gi r244.2 0)), (V.sl 7 Zg 0 none), (V.sl 8 Zf 0 none), (V.int .i64 (gi r244.2 3)), (V.sl 9 Zd 0 none), (V.sl 10 Ze 0 none)]) r3 r4 r5 r6 (gl r244.2 1) (gl r244.2 2) (gl r244.2 4) (gl r244.2 5)
        else Option.bind (ZD (V.agg [(V.int .i64 (gi b2 0)), (V.inl Zg r7), (V.inl Zf r8), (V.int .i64 (gi b2 3)), (V.inl Zd r9), (V.inl Ze r10)]) (V.agg [(V.int .i64 r209.1), (V.int .i64 (IntKind.i64.wrap (1 + i5))), (V.int .i64 4), (V.inl Zc []), (V.inl Zc []), (V.int .i64 r211.1)])) fun r245 =>
        Zy k_ n4 (IntKind.i64.wrap (i5 + 1)) (Zb r212.2) (V.agg [(V.int .i64 (gi b1 0)), (V.sl 3 Zg 0 none), (V.sl 4 Zf 0 none), (V.int .i64 (gi b1 3)), (V.sl 5 Zd 0 none), (V.sl 6 Ze 0 none)]) (V.agg [(V.int .i64 (gi r245.2 0)), (V.sl 7 Zg 0 none), (V.sl 8 Zf 0 none), (V.int .i64 (gi r245.2 3)), (V.sl 9 Zd 0 none), (V.sl 10 Ze 0 none)]) r3 r4 r5 r6 (gl r245.2 1) (gl r245.2 2) (gl r245.2 4) (gl r245.2 5)
      else bif (decide ((5 : Int) ≤ (gi r210.1 0))) then
        bif (decide ((0 : Int) < ((r9.length : Nat) : Int))) then
          Option.bind (ZE (Zb r210.2) 3) fun r246 =>
          bif (!r246.1) then
            Option.bind (Zh (Zb r246.2) ((r9.length : Nat) : Int)) fun r247 =>
            bif (Zm r247.1 r9.length) then
              Option.bind (ZE (Zb r247.2) 9) fun r248 =>
              bif r248.1 then
                Option.bind (ZD (V.agg [(V.int .i64 (gi b2 0)), (V.inl Zg r7), (V.inl Zf r8), (V.int .i64 (gi b2 3)), (V.inl Zd r9), (V.inl Ze r10)]) (V.agg [(V.int .i64 (-1)), (V.int .i64 0), (V.int .i64 0), (V.inl Zc []), (V.inl Zc []), (V.int .i64 0)])) fun r249 =>
                Zy k_ n4 (IntKind.i64.wrap (i5 + 1)) (Zb r248.2) (V.agg [(V.int .i64 (gi b1 0)), (V.sl 3 Zg 0 none), (V.sl 4 Zf 0 none), (V.int .i64 (gi b1 3)), (V.sl 5 Zd 0 none), (V.sl 6 Ze 0 none)]) (V.agg [(V.int .i64 (gi r249.2 0)), (V.sl 7 Zg 0 none), (V.sl 8 Zf 0 none), (V.int .i64 (gi r249.2 3)), (V.sl 9 Zd 0 none), (V.sl 10 Ze 0 none)]) r3 r4 r5 r6 (gl r249.2 1) (gl r249.2 2) (gl r249.2 4) (gl r249.2 5)
              else Option.bind (ZD (V.agg [(V.int .i64 (gi b2 0)), (V.inl Zg r7), (V.inl Zf r8), (V.int .i64 (gi b2 3)), (V.inl Zd r9), (V.inl Ze r10)]) (V.agg [(V.int .i64 r209.1), (V.int .i64 (IntKind.i64.wrap (1 + i5))), (V.int .i64 (gi r210.1 0)), (V.inl Zc (gl r210.1 1)), (V.inl Zc (gl r210.1 2)), (V.int .i64 (gi (rd r9 (0 + r247.1.toNat)) 0))])) fun r250 =>
              Zy k_ n4 (IntKind.i64.wrap (i5 + 1)) (Zb r248.2) (V.agg [(V.int .i64 (gi b1 0)), (V.sl 3 Zg 0 none), (V.sl 4 Zf 0 none), (V.int .i64 (gi b1 3)), (V.sl 5 Zd 0 none), (V.sl 6 Ze 0 none)]) (V.agg [(V.int .i64 (gi r250.2 0)), (V.sl 7 Zg 0 none), (V.sl 8 Zf 0 none), (V.int .i64 (gi r250.2 3)), (V.sl 9 Zd 0 none), (V.sl 10 Ze 0 none)]) r3 r4 r5 r6 (gl r250.2 1) (gl r250.2 2) (gl r250.2 4) (gl r250.2 5)
            else none
          else Option.bind (ZE (Zb r246.2) 9) fun r251 =>
          bif r251.1 then
            Option.bind (ZD (V.agg [(V.int .i64 (gi b2 0)), (V.inl Zg r7), (V.inl Zf r8), (V.int .i64 (gi b2 3)), (V.inl Zd r9), (V.inl Ze r10)]) (V.agg [(V.int .i64 (-1)), (V.int .i64 0), (V.int .i64 0), (V.inl Zc []), (V.inl Zc []), (V.int .i64 0)])) fun r252 =>
            Zy k_ n4 (IntKind.i64.wrap (i5 + 1)) (Zb r251.2) (V.agg [(V.int .i64 (gi b1 0)), (V.sl 3 Zg 0 none), (V.sl 4 Zf 0 none), (V.int .i64 (gi b1 3)), (V.sl 5 Zd 0 none), (V.sl 6 Ze 0 none)]) (V.agg [(V.int .i64 (gi r252.2 0)), (V.sl 7 Zg 0 none), (V.sl 8 Zf 0 none), (V.int .i64 (gi r252.2 3)), (V.sl 9 Zd 0 none), (V.sl 10 Ze 0 none)]) r3 r4 r5 r6 (gl r252.2 1) (gl r252.2 2) (gl r252.2 4) (gl r252.2 5)
          else Option.bind (ZD (V.agg [(V.int .i64 (gi b2 0)), (V.inl Zg r7), (V.inl Zf r8), (V.int .i64 (gi b2 3)), (V.inl Zd r9), (V.inl Ze r10)]) (V.agg [(V.int .i64 r209.1), (V.int .i64 (IntKind.i64.wrap (1 + i5))), (V.int .i64 (gi r210.1 0)), (V.inl Zc (gl r210.1 1)), (V.inl Zc (gl r210.1 2)), (V.int .i64 (gi r210.1 3))])) fun r253 =>
          Zy k_ n4 (IntKind.i64.wrap (i5 + 1)) (Zb r251.2) (V.agg [(V.int .i64 (gi b1 0)), (V.sl 3 Zg 0 none), (V.sl 4 Zf 0 none), (V.int .i64 (gi b1 3)), (V.sl 5 Zd 0 none), (V.sl 6 Ze 0 none)]) (V.agg [(V.int .i64 (gi r253.2 0)), (V.sl 7 Zg 0 none), (V.sl 8 Zf 0 none), (V.int .i64 (gi r253.2 3)), (V.sl 9 Zd 0 none), (V.sl 10 Ze 0 none)]) r3 r4 r5 r6 (gl r253.2 1) (gl r253.2 2) (gl r253.2 4) (gl r253.2 5)
        else Option.bind (ZE (Zb r210.2) 9) fun r254 =>
        bif r254.1 then
          Option.bind (ZD (V.agg [(V.int .i64 (gi b2 0)), (V.inl Zg r7), (V.inl Zf r8), (V.int .i64 (gi b2 3)), (V.inl Zd r9), (V.inl Ze r10)]) (V.agg [(V.int .i64 (-1)), (V.int .i64 0), (V.int .i64 0), (V.inl Zc []), (V.inl Zc []), (V.int .i64 0)])) fun r255 =>
          Zy k_ n4 (IntKind.i64.wrap (i5 + 1)) (Zb r254.2) (V.agg [(V.int .i64 (gi b1 0)), (V.sl 3 Zg 0 none), (V.sl 4 Zf 0 none), (V.int .i64 (gi b1 3)), (V.sl 5 Zd 0 none), (V.sl 6 Ze 0 none)]) (V.agg [(V.int .i64 (gi r255.2 0)), (V.sl 7 Zg 0 none), (V.sl 8 Zf 0 none), (V.int .i64 (gi r255.2 3)), (V.sl 9 Zd 0 none), (V.sl 10 Ze 0 none)]) r3 r4 r5 r6 (gl r255.2 1) (gl r255.2 2) (gl r255.2 4) (gl r255.2 5)
        else Option.bind (ZD (V.agg [(V.int .i64 (gi b2 0)), (V.inl Zg r7), (V.inl Zf r8), (V.int .i64 (gi b2 3)), (V.inl Zd r9), (V.inl Ze r10)]) (V.agg [(V.int .i64 r209.1), (V.int .i64 (IntKind.i64.wrap (1 + i5))), (V.int .i64 (gi r210.1 0)), (V.inl Zc (gl r210.1 1)), (V.inl Zc (gl r210.1 2)), (V.int .i64 (gi r210.1 3))])) fun r256 =>
        Zy k_ n4 (IntKind.i64.wrap (i5 + 1)) (Zb r254.2) (V.agg [(V.int .i64 (gi b1 0)), (V.sl 3 Zg 0 none), (V.sl 4 Zf 0 none), (V.int .i64 (gi b1 3)), (V.sl 5 Zd 0 none), (V.sl 6 Ze 0 none)]) (V.agg [(V.int .i64 (gi r256.2 0)), (V.sl 7 Zg 0 none), (V.sl 8 Zf 0 none), (V.int .i64 (gi r256.2 3)), (V.sl 9 Zd 0 none), (V.sl 10 Ze 0 none)]) r3 r4 r5 r6 (gl r256.2 1) (gl r256.2 2) (gl r256.2 4) (gl r256.2 5)
      else Option.bind (ZE (Zb r210.2) 9) fun r257 =>
      bif r257.1 then
        Option.bind (ZD (V.agg [(V.int .i64 (gi b2 0)), (V.inl Zg r7), (V.inl Zf r8), (V.int .i64 (gi b2 3)), (V.inl Zd r9), (V.inl Ze r10)]) (V.agg [(V.int .i64 (-1)), (V.int .i64 0), (V.int .i64 0), (V.inl Zc []), (V.inl Zc []), (V.int .i64 0)])) fun r258 =>
        Zy k_ n4 (IntKind.i64.wrap (i5 + 1)) (Zb r257.2) (V.agg [(V.int .i64 (gi b1 0)), (V.sl 3 Zg 0 none), (V.sl 4 Zf 0 none), (V.int .i64 (gi b1 3)), (V.sl 5 Zd 0 none), (V.sl 6 Ze 0 none)]) (V.agg [(V.int .i64 (gi r258.2 0)), (V.sl 7 Zg 0 none), (V.sl 8 Zf 0 none), (V.int .i64 (gi r258.2 3)), (V.sl 9 Zd 0 none), (V.sl 10 Ze 0 none)]) r3 r4 r5 r6 (gl r258.2 1) (gl r258.2 2) (gl r258.2 4) (gl r258.2 5)
      else Option.bind (ZD (V.agg [(V.int .i64 (gi b2 0)), (V.inl Zg r7), (V.inl Zf r8), (V.int .i64 (gi b2 3)), (V.inl Zd r9), (V.inl Ze r10)]) (V.agg [(V.int .i64 r209.1), (V.int .i64 (IntKind.i64.wrap (1 + i5))), (V.int .i64 (gi r210.1 0)), (V.inl Zc (gl r210.1 1)), (V.inl Zc (gl r210.1 2)), (V.int .i64 (gi r210.1 3))])) fun r259 =>
      Zy k_ n4 (IntKind.i64.wrap (i5 + 1)) (Zb r257.2) (V.agg [(V.int .i64 (gi b1 0)), (V.sl 3 Zg 0 none), (V.sl 4 Zf 0 none), (V.int .i64 (gi b1 3)), (V.sl 5 Zd 0 none), (V.sl 6 Ze 0 none)]) (V.agg [(V.int .i64 (gi r259.2 0)), (V.sl 7 Zg 0 none), (V.sl 8 Zf 0 none), (V.int .i64 (gi r259.2 3)), (V.sl 9 Zd 0 none), (V.sl 10 Ze 0 none)]) r3 r4 r5 r6 (gl r259.2 1) (gl r259.2 2) (gl r259.2 4) (gl r259.2 5)
    else some ((Zb b0), (V.agg [(V.int .i64 (gi b1 0)), (V.sl 3 Zg 0 none), (V.sl 4 Zf 0 none), (V.int .i64 (gi b1 3)), (V.sl 5 Zd 0 none), (V.sl 6 Ze 0 none)]), (V.agg [(V.int .i64 (gi b2 0)), (V.sl 7 Zg 0 none), (V.sl 8 Zf 0 none), (V.int .i64 (gi b2 3)), (V.sl 9 Zd 0 none), (V.sl 10 Ze 0 none)]), r3, r4, r5, r6, r7, r8, r9, r10)
def ZdB (c : V) : Option (V × V) :=
  Option.bind (Zh (Zb c) 20) fun r208 =>
  Option.bind (Zy ((r208.1 - 0).toNat + 1) r208.1 0 (Zb r208.2) (V.agg [(V.int .i64 0), (V.sl 3 Zg 0 none), (V.sl 4 Zf 0 none), (V.int .i64 0), (V.sl 5 Zd 0 none), (V.sl 6 Ze 0 none)]) (V.agg [(V.int .i64 0), (V.sl 7 Zg 0 none), (V.sl 8 Zf 0 none), (V.int .i64 0), (V.sl 9 Zd 0 none), (V.sl 10 Ze 0 none)]) [] [] [] [] [] [] [] []) fun r260 =>
  some ((V.agg [(V.int .i64 (gi r260.2.2.1 0)), (V.inl Zg r260.2.2.2.2.2.2.2.1), (V.inl Zf r260.2.2.2.2.2.2.2.2.1), (V.int .i64 (gi r260.2.2.1 3)), (V.inl Zd r260.2.2.2.2.2.2.2.2.2.1), (V.inl Ze r260.2.2.2.2.2.2.2.2.2.2)]), (Zb r260.1))
def ZdM (c : V) : Option (V × V) :=
  Option.bind (ZdB (Zb c)) fun r261 =>
  Option.bind (ZE (Zb r261.2) 6) fun r262 =>
  bif (!r262.1) then
    some ((Za r261.1), (Zb r262.2))
  else Option.bind (Zh (Zb r262.2) 8) fun r263 =>
  bif (decide (r263.1 = 0)) then
    Option.bind (ZI (Zb r263.2) [(V.int .i64 (-1)), (V.int .i64 0), (V.int .i64 1000000), (V.int .i64 1000001)]) fun r264 =>
    some ((V.agg [(V.int .i64 r264.1), (V.inl Zg (gl r261.1 1)), (V.inl Zf (gl r261.1 2)), (V.int .i64 (gi r261.1 3)), (V.inl Zd (gl r261.1 4)), (V.inl Ze (gl r261.1 5))]), (Zb r264.2))
  else bif (decide (r263.1 = 1)) then
    bif (decide ((0 : Int) < (((gl r261.1 1).length : Nat) : Int))) then
      Option.bind (Zh (Zb r263.2) 9) fun r265 =>
      bif (Zm 0 ((gl r261.1 1).length)) then
        some ((V.agg [(V.int .i64 (gi r261.1 0)), (V.inl Zg ((gl r261.1 1).set 0 (V.agg [(V.inl Zc (gl (rd (gl r261.1 1) 0) 0)), (V.inl Zc (gl (rd (gl r261.1 1) 0) 1)), (V.int .i64 (gi (rd (gl r261.1 1) 0) 2)), (V.int .i64 r265.1)]))), (V.inl Zf (gl r261.1 2)), (V.int .i64 (gi r261.1 3)), (V.inl Zd (gl r261.1 4)), (V.inl Ze (gl r261.1 5))]), (Zb r265.2))
      else none
    else some ((Za r261.1), (Zb r263.2))
  else bif (decide (r263.1 = 2)) then
    bif (decide ((0 : Int) < (((gl r261.1 1).length : Nat) : Int))) then
      Option.bind (ZI (Zb r263.2) [(V.int .i64 0), (V.int .i64 1), (V.int .i64 999)]) fun r266 =>
      bif (Zm 0 ((gl r261.1 1).length)) then
        some ((V.agg [(V.int .i64 (gi r261.1 0)), (V.inl Zg ((gl r261.1 1).set 0 (V.agg [(V.inl Zc (gl (rd (gl r261.1 1) 0) 0)), (V.inl Zc (gl (rd (gl r261.1 1) 0) 1)), (V.int .i64 r266.1), (V.int .i64 (gi (rd (gl r261.1 1) 0) 3))]))), (V.inl Zf (gl r261.1 2)), (V.int .i64 (gi r261.1 3)), (V.inl Zd (gl r261.1 4)), (V.inl Ze (gl r261.1 5))]), (Zb r266.2))
      else none
    else some ((Za r261.1), (Zb r263.2))
  else bif (decide (r263.1 = 3)) then
    Option.bind (ZaQ (Zb r263.2)) fun r267 =>
    bif ((Zu (((gl r261.1 2).length) + 1) 32) && true) then
      some ((V.agg [(V.int .i64 (gi r261.1 0)), (V.inl Zg (gl r261.1 1)), (V.inl Zf ((gl r261.1 2) ++ [(V.agg [(V.inl Zc r267.1), (V.int .i64 (gi r261.1 0))])])), (V.int .i64 (gi r261.1 3)), (V.inl Zd (gl r261.1 4)), (V.inl Ze (gl r261.1 5))]), (Zb r267.2))
    else none
  else bif (decide (r263.1 = 4)) then
    Option.bind (ZI (Zb r263.2) [(V.int .i64 (-1)), (V.int .i64 1), (V.int .i64 5)]) fun r268 =>
    some ((V.agg [(V.int .i64 (gi r261.1 0)), (V.inl Zg (gl r261.1 1)), (V.inl Zf (gl r261.1 2)), (V.int .i64 r268.1), (V.inl Zd (gl r261.1 4)), (V.inl Ze (gl r261.1 5))]), (Zb r268.2))
  else bif (decide (r263.1 = 5)) then
    Option.bind (Zh (Zb r263.2) 9) fun r269 =>
    bif ((Zu (((gl r261.1 4).length) + 1) 16) && true) then
      some ((V.agg [(V.int .i64 (gi r261.1 0)), (V.inl Zg (gl r261.1 1)), (V.inl Zf (gl r261.1 2)), (V.int .i64 (gi r261.1 3)), (V.inl Zd ((gl r261.1 4) ++ [(V.agg [(V.int .i64 r269.1), (V.bool false)])])), (V.inl Ze (gl r261.1 5))]), (Zb r269.2))
    else none
  else bif (decide (r263.1 = 6)) then
    Option.bind (Zh (Zb r263.2) 6) fun r270 =>
    bif ((Zu (((gl r261.1 5).length) + 1) 32) && true) then
      some ((V.agg [(V.int .i64 (gi r261.1 0)), (V.inl Zg (gl r261.1 1)), (V.inl Zf (gl r261.1 2)), (V.int .i64 (gi r261.1 3)), (V.inl Zd (gl r261.1 4)), (V.inl Ze ((gl r261.1 5) ++ [(V.agg [(V.int .i64 (IntKind.i64.wrap (r270.1 - 1))), (V.int .i64 1), (V.int .i64 0), (V.int .i64 1)])]))]), (Zb r270.2))
    else none
  else bif (decide ((0 : Int) < (((gl r261.1 1).length : Nat) : Int))) then
    Option.bind (Zh (Zb r263.2) 3) fun r271 =>
    bif (Zm r271.1 3) then
      bif (Zm 0 ((gl r261.1 1).length)) then
        some ((V.agg [(V.int .i64 (gi r261.1 0)), (V.inl Zg ((gl r261.1 1).set 0 (V.agg [(V.inl Zc (gs (rd [(V.str []), (V.str [(V.int .u8 65)]), (V.str [(V.int .u8 122), (V.int .u8 122)])] (0 + r271.1.toNat)) 0)), (V.inl Zc (gl (rd (gl r261.1 1) 0) 1)), (V.int .i64 (gi (rd (gl r261.1 1) 0) 2)), (V.int .i64 (gi (rd (gl r261.1 1) 0) 3))]))), (V.inl Zf (gl r261.1 2)), (V.int .i64 (gi r261.1 3)), (V.inl Zd (gl r261.1 4)), (V.inl Ze (gl r261.1 5))]), (Zb r271.2))
      else none
    else none
  else some ((Za r261.1), (Zb r263.2))
def Zdf (c : V) : Option (V × V) :=
  Option.bind (spec_l2op (Zb c) 6) fun r275 =>
  Option.bind (ZE (Zb r275.2) 6) fun r276 =>
  bif r276.1 then
    Option.bind (Zh (Zb r276.2) 4) fun r277 =>
    bif (decide (r277.1 = 0)) then
      Option.bind (ZI (Zb r277.2) [(V.int .i64 (-1)), (V.int .i64 8), (V.int .i64 0), (V.int .i64 2)]) fun r278 =>
      some ((V.agg [(V.int .i64 r278.1), (V.inl Zc (gl r275.1 1)), (V.inl Zc (gl r275.1 2)), (V.int .i64 (gi r275.1 3))]), (Zb r278.2))
    else bif (decide (r277.1 = 1)) then
      bif ((Zu (((gl r275.1 1).length) + 1) 1) && true) then
        some ((V.agg [(V.int .i64 (gi r275.1 0)), (V.inl Zc ((gl r275.1 1) ++ [(V.int .u8 65)])), (V.inl Zc (gl r275.1 2)), (V.int .i64 (gi r275.1 3))]), (Zb r277.2))
      else none
    else bif (decide (r277.1 = 2)) then
      Option.bind (Zh (Zb r277.2) 2) fun r279 =>
      bif (((decide ((0 : Int) ≤ (IntKind.i64.wrap (20 + r279.1)))) && decide ((IntKind.i64.wrap (20 + r279.1)) = (IntKind.i64.wrap (20 + r279.1)))) && (Zu ((IntKind.i64.wrap (20 + r279.1)).toNat) 1)) then
        some ((V.agg [(V.int .i64 (gi r275.1 0)), (V.inl Zc (gl r275.1 1)), (V.inl Zc (List.replicate ((IntKind.i64.wrap (20 + r279.1)).toNat) (V.int .u8 0))), (V.int .i64 (gi r275.1 3))]), (Zb r279.2))
      else none
    else Option.bind (ZI (Zb r277.2) [(V.int .i64 (-1)), (V.int .i64 0), (V.int .i64 1), (V.int .i64 2), (V.int .i64 1000000), (V.int .i64 1000001)]) fun r280 =>
    some ((V.agg [(V.int .i64 (gi r275.1 0)), (V.inl Zc (gl r275.1 1)), (V.inl Zc (gl r275.1 2)), (V.int .i64 r280.1)]), (Zb r280.2))
  else some ((n_impl_Op r275.1), (Zb r276.2))
def Zc3 (c : V) : Option (V × V) :=
  Option.bind (Zh (Zb c) 4) fun r273 =>
  Option.bind (Zh (Zb r273.2) 25) fun r274 =>
  Option.bind (Zdf (Zb r274.2)) fun r281 =>
  Option.bind (ZE (Zb r281.2) 8) fun r282 =>
  bif r282.1 then
    Option.bind (ZE (Zb r282.2) 10) fun r283 =>
    bif r283.1 then
      Option.bind (ZI (Zb r283.2) [(V.int .i64 (-1)), (V.int .i64 0), (V.int .i64 1), (V.int .i64 1000000), (V.int .i64 1000001)]) fun r284 =>
      Option.bind (ZE (Zb r284.2) 20) fun r285 =>
      bif r285.1 then
        Option.bind (ZI (Zb r285.2) [(V.int .i64 (-2)), (V.int .i64 (-1)), (V.int .i64 3), (V.int .i64 4)]) fun r286 =>
        some ((V.agg [(V.int .i64 r286.1), (V.int .i64 r284.1), (V.int .i64 0), (V.inl Zc []), (V.inl Zc []), (V.int .i64 0)]), (Zb r286.2))
      else some ((V.agg [(V.int .i64 (-1)), (V.int .i64 r284.1), (V.int .i64 0), (V.inl Zc []), (V.inl Zc []), (V.int .i64 0)]), (Zb r285.2))
    else Option.bind (ZE (Zb r283.2) 20) fun r287 =>
    bif r287.1 then
      Option.bind (ZI (Zb r287.2) [(V.int .i64 (-2)), (V.int .i64 (-1)), (V.int .i64 3), (V.int .i64 4)]) fun r288 =>
      some ((V.agg [(V.int .i64 r288.1), (V.int .i64 0), (V.int .i64 0), (V.inl Zc []), (V.inl Zc []), (V.int .i64 0)]), (Zb r288.2))
    else some ((V.agg [(V.int .i64 (-1)), (V.int .i64 0), (V.int .i64 0), (V.inl Zc []), (V.inl Zc []), (V.int .i64 0)]), (Zb r287.2))
  else Option.bind (ZE (Zb r282.2) 10) fun r289 =>
  bif r289.1 then
    Option.bind (ZI (Zb r289.2) [(V.int .i64 (-1)), (V.int .i64 0), (V.int .i64 1), (V.int .i64 1000000), (V.int .i64 1000001)]) fun r290 =>
    Option.bind (ZE (Zb r290.2) 20) fun r291 =>
    bif r291.1 then
      Option.bind (ZI (Zb r291.2) [(V.int .i64 (-2)), (V.int .i64 (-1)), (V.int .i64 3), (V.int .i64 4)]) fun r292 =>
      some ((V.agg [(V.int .i64 r292.1), (V.int .i64 r290.1), (V.int .i64 (gi r281.1 0)), (V.inl Zc (gl r281.1 1)), (V.inl Zc (gl r281.1 2)), (V.int .i64 (gi r281.1 3))]), (Zb r292.2))
    else some ((V.agg [(V.int .i64 r273.1), (V.int .i64 r290.1), (V.int .i64 (gi r281.1 0)), (V.inl Zc (gl r281.1 1)), (V.inl Zc (gl r281.1 2)), (V.int .i64 (gi r281.1 3))]), (Zb r291.2))
  else Option.bind (ZE (Zb r289.2) 20) fun r293 =>
  bif r293.1 then
    Option.bind (ZI (Zb r293.2) [(V.int .i64 (-2)), (V.int .i64 (-1)), (V.int .i64 3), (V.int .i64 4)]) fun r294 =>
    some ((V.agg [(V.int .i64 r294.1), (V.int .i64 (IntKind.i64.wrap (1 + r274.1))), (V.int .i64 (gi r281.1 0)), (V.inl Zc (gl r281.1 1)), (V.inl Zc (gl r281.1 2)), (V.int .i64 (gi r281.1 3))]), (Zb r294.2))
  else some ((V.agg [(V.int .i64 r273.1), (V.int .i64 (IntKind.i64.wrap (1 + r274.1))), (V.int .i64 (gi r281.1 0)), (V.inl Zc (gl r281.1 1)), (V.inl Zc (gl r281.1 2)), (V.int .i64 (gi r281.1 3))]), (Zb r293.2))
def Zc4 (code : List V) : Option (V × V) :=
  Option.bind (ZdA code) fun r2 =>
  Option.bind (ZdM (Zb r2)) fun r272 =>
  Option.bind (Zc3 (Zb r272.2)) fun r295 =>
  bif (decide ((0 : Int) < (((gl r272.1 4).length : Nat) : Int))) then
    bif (decide ((5 : Int) ≤ (gi r295.1 2))) then
      Option.bind (ZE (Zb r295.2) 2) fun r296 =>
      bif r296.1 then
        Option.bind (Zh (Zb r296.2) (((gl r272.1 4).length : Nat) : Int)) fun r297 =>
        bif (Zm r297.1 ((gl r272.1 4).length)) then
          Option.bind (ZE (Zb r297.2) 2) fun r298 =>
          bif r298.1 then
            some ((Za r272.1), (V.agg [(V.int .i64 (gi r295.1 0)), (V.int .i64 (IntKind.i64.wrap ((gi r295.1 1) + 20))), (V.int .i64 (gi r295.1 2)), (V.inl Zc (gl r295.1 3)), (V.inl Zc (gl r295.1 4)), (V.int .i64 (gi (rd (gl r272.1 4) (0 + r297.1.toNat)) 0))]))
          else some ((Za r272.1), (V.agg [(V.int .i64 (gi r295.1 0)), (V.int .i64 (gi r295.1 1)), (V.int .i64 (gi r295.1 2)), (V.inl Zc (gl r295.1 3)), (V.inl Zc (gl r295.1 4)), (V.int .i64 (gi (rd (gl r272.1 4) (0 + r297.1.toNat)) 0))]))
        else none
      else Option.bind (ZE (Zb r296.2) 2) fun r299 =>
      bif r299.1 then
        some ((Za r272.1), (V.agg [(V.int .i64 (gi r295.1 0)), (V.int .i64 (IntKind.i64.wrap ((gi r295.1 1) + 20))), (V.int .i64 (gi r295.1 2)), (V.inl Zc (gl r295.1 3)), (V.inl Zc (gl r295.1 4)), (V.int .i64 (gi r295.1 5))]))
      else some ((Za r272.1), (Zn r295.1))
    else Option.bind (ZE (Zb r295.2) 2) fun r300 =>
    bif r300.1 then
      some ((Za r272.1), (V.agg [(V.int .i64 (gi r295.1 0)), (V.int .i64 (IntKind.i64.wrap ((gi r295.1 1) + 20))), (V.int .i64 (gi r295.1 2)), (V.inl Zc (gl r295.1 3)), (V.inl Zc (gl r295.1 4)), (V.int .i64 (gi r295.1 5))]))
    else some ((Za r272.1), (Zn r295.1))
  else Option.bind (ZE (Zb r295.2) 2) fun r301 =>
  bif r301.1 then
    some ((Za r272.1), (V.agg [(V.int .i64 (gi r295.1 0)), (V.int .i64 (IntKind.i64.wrap ((gi r295.1 1) + 20))), (V.int .i64 (gi r295.1 2)), (V.inl Zc (gl r295.1 3)), (V.inl Zc (gl r295.1 4)), (V.int .i64 (gi r295.1 5))]))
  else some ((Za r272.1), (Zn r295.1))
def ZL (n : Int) (low : Int) (high : Int) : Bool :=
  bif (decide (low ≤ n)) then
    (decide (n ≤ high))
  else false
def Za9 : Nat → List V → List V → Int → Int → Option (Nat × List V × Bool)
  | 0, _, _, _, _ => none
  | k_ + 1, b0, v5, v6, v7 =>
    bif (decide (v7 < v6)) then
      bif (Zm v7 v5.length) then
        bif (decide ((gi (rd v5 v7.toNat) 0) < 97)) then
          bif (!(decide ((gi (rd v5 v7.toNat) 0) = 47))) then
            some (0, b0, false)
          else Za9 k_ b0 v5 v6 (IntKind.i64.wrap (v7 + 1))
        else bif (decide ((122 : Int) < (gi (rd v5 v7.toNat) 0))) then
          bif (!(decide ((gi (rd v5 v7.toNat) 0) = 47))) then
            some (0, b0, false)
          else Za9 k_ b0 v5 v6 (IntKind.i64.wrap (v7 + 1))
        else Za9 k_ b0 v5 v6 (IntKind.i64.wrap (v7 + 1))
      else none
    else some (1, b0, false)
def ZbB (b : List V) : Option (Bool) :=
  Option.bind (Za9 ((((b.length : Nat) : Int) - 0).toNat + 1) b b ((b.length : Nat) : Int) 0) fun r303 =>
  bif (Nat.beq r303.1 0) then
    some r303.2.2
  else some (ZL ((r303.2.1.length : Nat) : Int) 1 20)
def Zb2 (b : List V) : Bool :=
  (decide (((b.length : Nat) : Int) ≤ 20))
def ZdC (x : V) (a1 : V) : Bool :=
  (decide ((gi x 0) = (gi a1 0)))
def Z4 : Nat → List V → V → Int → Int → Option (Nat × Int)
  | 0, _, _, _, _ => none
  | k_ + 1, s0, f1_0, v7, v8 =>
    bif (decide (v8 < v7)) then
      bif (Zm v8 s0.length) then
        bif ZdC (Zcu (rd s0 v8.toNat)) (V.agg [(V.int .i64 (gi f1_0 0))]) then
          some (0, v8)
        else Z4 k_ s0 (V.agg [(V.int .i64 (gi f1_0 0))]) v7 (IntKind.i64.wrap (v8 + 1))
      else none
    else some (1, 0)
def Zb3 (s : List V) (f_0 : V) : Option (Int) :=
  Option.bind (Z4 ((((s.length : Nat) : Int) - 0).toNat + 1) s (V.agg [(V.int .i64 (gi f_0 0))]) ((s.length : Nat) : Int) 0) fun r305 =>
  bif (Nat.beq r305.1 0) then
    some r305.2
  else some (-1)
def ZaZ (s : V) (id : Int) : Option (Int) :=
  Option.bind (Zb3 (gl s 4) (V.agg [(V.int .i64 id)])) fun r306 =>
  some r306
def ZcF (r : V) (key : List V) : Int :=
  (cmpV (gl r 0) key)
def ZJ : Nat → List V → List V → Int → Int → Int → Option (List V × List V × Int × Int)
  | 0, _, _, _, _, _ => none
  | k_ + 1, x0, target1, n8, i9, j10 =>
    bif (decide (i9 < j10)) then
      bif (Zm (IntKind.i64.wrap (sShr .u64 (IntKind.u64.wrap (IntKind.i64.wrap (i9 + j10))) 1)) x0.length) then
        bif (decide ((ZcF (n_impl_Row (rd x0 ((IntKind.i64.wrap (sShr .u64 (IntKind.u64.wrap (IntKind.i64.wrap (i9 + j10))) 1)).toNat))) target1) < 0)) then
          ZJ k_ x0 target1 n8 (IntKind.i64.wrap ((IntKind.i64.wrap (sShr .u64 (IntKind.u64.wrap (IntKind.i64.wrap (i9 + j10))) 1)) + 1)) j10
        else ZJ k_ x0 target1 n8 i9 (IntKind.i64.wrap (sShr .u64 (IntKind.u64.wrap (IntKind.i64.wrap (i9 + j10))) 1))
      else none
    else some (x0, target1, n8, i9)
def Za1 (x : List V) (target : List V) : Option (Int × Bool) :=
  Option.bind (ZJ ((((x.length : Nat) : Int) - 0).toNat + 1) x target ((x.length : Nat) : Int) 0 ((x.length : Nat) : Int)) fun r309 =>
  bif (decide (r309.2.2.2 < r309.2.2.1)) then
    bif (Zm r309.2.2.2 r309.1.length) then
      some (r309.2.2.2, (decide ((ZcF (n_impl_Row (rd r309.1 r309.2.2.2.toNat)) r309.2.1) = 0)))
    else none
  else some (r309.2.2.2, false)
def Zbu (s : V) (key : List V) : Option (Int × Bool) :=
  Option.bind (Za1 (gl s 1) key) fun r310 =>
  some (r310.1, r310.2)
def Zdb (a : List V) (b : List V) : Bool :=
  (Zbb (a.map Zan) (b.map Zan))
def ZdT (t : V) (a1 : V) : Bool :=
  (Zdb (gl t 0) (gl a1 0))
def Zah : Nat → List V → V → Int → Int → Option (Nat × Int)
  | 0, _, _, _, _ => none
  | k_ + 1, s0, f1_0, v7, v8 =>
    bif (decide (v8 < v7)) then
      bif (Zm v8 s0.length) then
        bif ZdT (n_impl_Tomb (rd s0 v8.toNat)) (V.agg [(V.inl Zc (gl f1_0 0))]) then
          some (0, v8)
        else Zah k_ s0 (V.agg [(V.inl Zc (gl f1_0 0))]) v7 (IntKind.i64.wrap (v8 + 1))
      else none
    else some (1, 0)
def Zcx (s : List V) (f_0 : V) : Option (Int) :=
  Option.bind (Zah ((((s.length : Nat) : Int) - 0).toNat + 1) s (V.agg [(V.inl Zc (gl f_0 0))]) ((s.length : Nat) : Int) 0) fun r313 =>
  bif (Nat.beq r313.1 0) then
    some r313.2
  else some (-1)
def ZbF (s : V) (key : List V) : Option (Int) :=
  Option.bind (Zcx (gl s 2) (V.agg [(V.inl Zc key)])) fun r314 =>
  some r314
def Zas : Nat → List V → Int → Int → V → Option (Nat × Bool × V)
  | 0, _, _, _, _ => none
  | k_ + 1, v51, v52, v53, b0 =>
    bif (decide (v53 < v52)) then
      bif (Zm v53 v51.length) then
        Option.bind (ZbB (gl (rd v51 v53.toNat) 0)) fun r304 =>
        bif (!r304) then
          some (0, false, (Za b0))
        else bif (!(Zb2 (gl (rd v51 v53.toNat) 1))) then
          some (0, false, (Za b0))
        else bif (!(ZL (gi (rd v51 v53.toNat) 2) 1 (gi b0 0))) then
          some (0, false, (Za b0))
        else bif (!(decide ((gi (rd v51 v53.toNat) 3) = 0))) then
          Option.bind (ZaZ (Za b0) (gi (rd v51 v53.toNat) 3)) fun r307 =>
          bif (decide (r307 < 0)) then
            some (0, false, (Za b0))
          else bif (decide ((0 : Int) < v53)) then
            bif (Zm (IntKind.i64.wrap (v53 - 1)) ((gl b0 1).length)) then
              bif (decide ((0 : Int) ≤ (cmpV (gl (rd (gl b0 1) ((IntKind.i64.wrap (v53 - 1)).toNat)) 0) (gl (rd v51 v53.toNat) 0)))) then
                some (0, false, (Za b0))
              else Zas k_ v51 v52 (IntKind.i64.wrap (v53 + 1)) (Za b0)
            else none
          else Zas k_ v51 v52 (IntKind.i64.wrap (v53 + 1)) (Za b0)
        else bif (decide ((0 : Int) < v53)) then
          bif (Zm (IntKind.i64.wrap (v53 - 1)) ((gl b0 1).length)) then
            bif (decide ((0 : Int) ≤ (cmpV (gl (rd (gl b0 1) ((IntKind.i64.wrap (v53 - 1)).toNat)) 0) (gl (rd v51 v53.toNat) 0)))) then
              some (0, false, (Za b0))
            else Zas k_ v51 v52 (IntKind.i64.wrap (v53 + 1)) (Za b0)
          else none
        else Zas k_ v51 v52 (IntKind.i64.wrap (v53 + 1)) (Za b0)
      else none
    else some (1, false, (Za b0))
def ZaJ : Nat → Int → List V → Int → Int → V → Option (Nat × Bool × V)
  | 0, _, _, _, _, _ => none
  | k_ + 1, before5, v110, v111, v112, b0 =>
    bif (decide (v112 < v111)) then
      bif (Zm v112 v110.length) then
        Option.bind (Zbu (Za b0) (gl (rd v110 v112.toNat) 0)) fun r311 =>
        bif r311.2 then
          some (0, false, (Za b0))
        else Option.bind (ZbB (gl (rd v110 v112.toNat) 0)) fun r312 =>
        bif (!r312) then
          some (0, false, (Za b0))
        else Option.bind (ZbF (Za b0) (gl (rd v110 v112.toNat) 0)) fun r315 =>
        bif (!(decide (r315 = v112))) then
          some (0, false, (Za b0))
        else bif (!(ZL (gi (rd v110 v112.toNat) 1) before5 (gi b0 0))) then
          some (0, false, (Za b0))
        else ZaJ k_ (gi (rd v110 v112.toNat) 1) v110 v111 (IntKind.i64.wrap (v112 + 1)) (Za b0)
      else none
    else some (1, false, (Za b0))
def ZaK : Nat → List V → Int → Int → V → Option (Nat × Bool × V)
  | 0, _, _, _, _ => none
  | k_ + 1, v152, v153, v154, b0 =>
    bif (decide (v154 < v153)) then
      bif (Zm v154 v152.length) then
        bif (!(ZL (gi (rd v152 v154.toNat) 0) 1 (gi b0 0))) then
          some (0, false, (Za b0))
        else bif (decide ((0 : Int) < v154)) then
          bif (Zm (IntKind.i64.wrap (v154 - 1)) ((gl b0 4).length)) then
            bif (decide ((gi (rd v152 v154.toNat) 0) ≤ (gi (rd (gl b0 4) ((IntKind.i64.wrap (v154 - 1)).toNat)) 0))) then
              some (0, false, (Za b0))
            else ZaK k_ v152 v153 (IntKind.i64.wrap (v154 + 1)) (Za b0)
          else none
        else ZaK k_ v152 v153 (IntKind.i64.wrap (v154 + 1)) (Za b0)
      else none
    else some (1, false, (Za b0))
def ZaL : Nat → List V → Int → Int → V → Option (Nat × Bool)
  | 0, _, _, _, _ => none
  | k_ + 1, v183, v184, v185, b0 =>
    bif (decide (v185 < v184)) then
      bif (Zm v185 v183.length) then
        bif (!(ZL (gi (rd v183 v185.toNat) 0) 0 3)) then
          some (0, false)
        else bif (!(ZL (gi (rd v183 v185.toNat) 1) 1 1000000)) then
          some (0, false)
        else bif (!(ZL (gi (rd v183 v185.toNat) 2) 0 5)) then
          some (0, false)
        else bif (!(ZL (gi (rd v183 v185.toNat) 3) 1 (gi b0 0))) then
          some (0, false)
        else bif (decide ((0 : Int) < v185)) then
          bif (Zm (IntKind.i64.wrap (v185 - 1)) ((gl b0 5).length)) then
            bif (decide ((gi (rd v183 v185.toNat) 0) ≤ (gi (rd (gl b0 5) ((IntKind.i64.wrap (v185 - 1)).toNat)) 0))) then
              some (0, false)
            else ZaL k_ v183 v184 (IntKind.i64.wrap (v185 + 1)) (Za b0)
          else none
        else ZaL k_ v183 v184 (IntKind.i64.wrap (v185 + 1)) (Za b0)
      else none
    else some (1, false)
def Zbi (s : V) : Option (Bool) :=
  bif (!(ZL (gi s 0) 0 1000000)) then
    some false
  else bif (!(ZL (gi s 3) 0 (gi s 0))) then
    some false
  else bif (decide ((20 : Int) < (((gl s 1).length : Nat) : Int))) then
    some false
  else bif (decide ((10 : Int) < (((gl s 2).length : Nat) : Int))) then
    some false
  else bif (decide ((8 : Int) < (((gl s 4).length : Nat) : Int))) then
    some false
  else bif (decide ((4 : Int) < (((gl s 5).length : Nat) : Int))) then
    some false
  else Option.bind (Zas (((((gl s 1).length : Nat) : Int) - 0).toNat + 1) (gl s 1) (((gl s 1).length : Nat) : Int) 0 (Za s)) fun r308 =>
  bif (Nat.beq r308.1 0) then
    some r308.2.1
  else Option.bind (ZaJ (((((gl r308.2.2 2).length : Nat) : Int) - 0).toNat + 1) (mxI 1 (gi r308.2.2 3)) (gl r308.2.2 2) (((gl r308.2.2 2).length : Nat) : Int) 0 (Za r308.2.2)) fun r316 =>
  bif (Nat.beq r316.1 0) then
    some r316.2.1
  else Option.bind (ZaK (((((gl r316.2.2 4).length : Nat) : Int) - 0).toNat + 1) (gl r316.2.2 4) (((gl r316.2.2 4).length : Nat) : Int) 0 (Za r316.2.2)) fun r317 =>
  bif (Nat.beq r317.1 0) then
    some r317.2.1
  else Option.bind (ZaL (((((gl r317.2.2 5).length : Nat) : Int) - 0).toNat + 1) (gl r317.2.2 5) (((gl r317.2.2 5).length : Nat) : Int) 0 (Za r317.2.2)) fun r318 =>
  bif (Nat.beq r318.1 0) then
    some r318.2
  else some true
def impl_noOp : V :=
  (V.agg [(V.int .i64 (-1)), (V.int .i64 0), (V.int .i64 0), (V.inl Zc []), (V.inl Zc []), (V.int .i64 0)])
def impl_Op_same (o : V) (p : V) : Bool :=
  bif (decide ((gi o 0) = (gi p 0))) then
    bif Zdb (gl o 1) (gl p 1) then
      bif Zdb (gl o 2) (gl p 2) then
        (decide ((gi o 3) = (gi p 3)))
      else false
    else false
  else false
def Zdg (c : V) (d : V) : Bool :=
  bif (decide ((gi c 0) = (gi d 0))) then
    bif (decide ((gi c 1) = (gi d 1))) then
      (impl_Op_same (V.agg [(V.int .i64 (gi c 2)), (V.inl Zc (gl c 3)), (V.inl Zc (gl c 4)), (V.int .i64 (gi c 5))]) (V.agg [(V.int .i64 (gi d 2)), (V.inl Zc (gl d 3)), (V.inl Zc (gl d 4)), (V.int .i64 (gi d 5))]))
    else false
  else false
def impl_OpOk (o : V) : Option (Bool) :=
  bif (decide ((gi o 0) = 0)) then
    bif ZL (gi o 3) 0 0 then
      bif (decide ((((gl o 1).length : Nat) : Int) = 0)) then
        some (decide ((((gl o 2).length : Nat) : Int) = 0))
      else some false
    else some false
  else bif (decide ((gi o 0) = 1)) then
    bif ZL (gi o 3) 0 0 then
      Option.bind (ZbB (gl o 1)) fun r320 =>
      bif r320 then
        bif Zb2 (gl o 2) then
          some true
        else some false
      else some false
    else some false
  else bif (decide ((gi o 0) = 2)) then
    bif ZL (gi o 3) 0 1000000 then
      Option.bind (ZbB (gl o 1)) fun r321 =>
      bif r321 then
        bif Zb2 (gl o 2) then
          some true
        else some false
      else some false
    else some false
  else bif (decide ((gi o 0) = 3)) then
    bif ZL (gi o 3) 0 0 then
      Option.bind (ZbB (gl o 1)) fun r322 =>
      bif r322 then
        some (decide ((((gl o 2).length : Nat) : Int) = 0))
      else some false
    else some false
  else bif (decide ((gi o 0) = 4)) then
    bif ZL (gi o 3) 0 1 then
      bif (decide ((((gl o 1).length : Nat) : Int) = 0)) then
        some (decide ((((gl o 2).length : Nat) : Int) = 0))
      else some false
    else some false
  else bif (decide ((gi o 0) = 5)) then
    bif ZL (gi o 3) 1 1000000 then
      bif (decide ((((gl o 1).length : Nat) : Int) = 0)) then
        some (decide ((((gl o 2).length : Nat) : Int) = 0))
      else some false
    else some false
  else bif (decide ((gi o 0) = 6)) then
    bif ZL (gi o 3) 1 1000000 then
      Option.bind (ZbB (gl o 1)) fun r323 =>
      bif r323 then
        bif Zb2 (gl o 2) then
          some true
        else some false
      else some false
    else some false
  else bif (decide ((gi o 0) = 7)) then
    bif ZL (gi o 3) 1 1000000 then
      Option.bind (ZbB (gl o 1)) fun r324 =>
      bif r324 then
        some (decide ((((gl o 2).length : Nat) : Int) = 0))
      else some false
    else some false
  else some false
def Zc5 (c : V) : Option (Bool) :=
  bif Zdg (Zn c) (Zn impl_noOp) then
    some true
  else bif ZL (gi c 0) 0 3 then
    bif ZL (gi c 1) 1 1000000 then
      Option.bind (impl_OpOk (V.agg [(V.int .i64 (gi c 2)), (V.inl Zc (gl c 3)), (V.inl Zc (gl c 4)), (V.int .i64 (gi c 5))])) fun r325 =>
      some r325
    else some false
  else some false
def Zb4 (s : List V) : Option (List V) :=
  bif ((Zu (0 + s.length) 64) && true) then
    some s
  else none
def ZbO (s : List V) : Option (List V) :=
  bif ((Zu (0 + s.length) 32) && true) then
    some s
  else none
def Zbj (s : List V) : Option (List V) :=
  bif ((Zu (0 + s.length) 16) && true) then
    some s
  else none
def ZbP (s : List V) : Option (List V) :=
  bif ((Zu (0 + s.length) 32) && true) then
    some s
  else none
def Z5 (s : List V) : Option (List V) :=
  bif ((Zu (0 + s.length) 1) && true) then
    some s
  else none
def ZaR : Nat → Int → Int → V → V → List V → List V → List V → List V → List V → List V → List V → List V → Option (V × V × List V × List V × List V × List V × List V × List V × List V × List V)
  | 0, _, _, _, _, _, _, _, _, _, _, _, _ => none
  | k_ + 1, v25, v26, b0, b1, r2, r3, r4, r5, r6, r7, r8, r9 =>
    bif (decide (v26 < v25)) then
      bif (Zm v26 r2.length) then
        Option.bind (Z5 (gl (rd r2 (0 + v26.toNat)) 0)) fun r335 =>
        Option.bind (Z5 (gl (rd r2 (0 + v26.toNat)) 1)) fun r336 =>
        bif (Zm v26 r2.length) then
          bif (Zm v26 ((r2.set (0 + v26.toNat) (V.agg [(V.inl Zc r335), (V.inl Zc (gl (rd r2 (0 + v26.toNat)) 1)), (V.int .i64 (gi (rd r2 (0 + v26.toNat)) 2)), (V.int .i64 (gi (rd r2 (0 + v26.toNat)) 3))])).length)) then
            ZaR k_ v25 (IntKind.i64.wrap (v26 + 1)) (V.agg [(V.int .i64 (gi b0 0)), (V.sl 2 Zg 0 none), (V.sl 3 Zf 0 none), (V.int .i64 (gi b0 3)), (V.sl 4 Zd 0 none), (V.sl 5 Ze 0 none)]) (V.agg [(V.int .i64 (gi b1 0)), (V.sl 6 Zg 0 none), (V.sl 7 Zf 0 none), (V.int .i64 (gi b1 3)), (V.sl 8 Zd 0 none), (V.sl 9 Ze 0 none)]) ((r2.set (0 + v26.toNat) (V.agg [(V.inl Zc r335), (V.inl Zc (gl (rd r2 (0 + v26.toNat)) 1)), (V.int .i64 (gi (rd r2 (0 + v26.toNat)) 2)), (V.int .i64 (gi (rd r2 (0 + v26.toNat)) 3))])).set (0 + v26.toNat) (V.agg [(V.inl Zc (gl (rd (r2.set (0 + v26.toNat) (V.agg [(V.inl Zc r335), (V.inl Zc (gl (rd r2 (0 + v26.toNat)) 1)), (V.int .i64 (gi (rd r2 (0 + v26.toNat)) 2)), (V.int .i64 (gi (rd r2 (0 + v26.toNat)) 3))])) (0 + v26.toNat)) 0)), (V.inl Zc r336), (V.int .i64 (gi (rd (r2.set (0 + v26.toNat) (V.agg [(V.inl Zc r335), (V.inl Zc (gl (rd r2 (0 + v26.toNat)) 1)), (V.int .i64 (gi (rd r2 (0 + v26.toNat)) 2)), (V.int .i64 (gi (rd r2 (0 + v26.toNat)) 3))])) (0 + v26.toNat)) 2)), (V.int .i64 (gi (rd (r2.set (0 + v26.toNat) (V.agg [(V.inl Zc r335), (V.inl Zc (gl (rd r2 (0 + v26.toNat)) 1)), (V.int .i64 (gi (rd r2 (0 + v26.toNat)) 2)), (V.int .i64 (gi (rd r2 (0 + v26.toNat)) 3))])) (0 + v26.toNat)) 3))])) r3 r4 r5 r6 r7 r8 r9
          else none
        else none
      else none
    else some ((V.agg [(V.int .i64 (gi b0 0)), (V.sl 2 Zg 0 none), (V.sl 3 Zf 0 none), (V.int .i64 (gi b0 3)), (V.sl 4 Zd 0 none), (V.sl 5 Ze 0 none)]), (V.agg [(V.int .i64 (gi b1 0)), (V.sl 6 Zg 0 none), (V.sl 7 Zf 0 none), (V.int .i64 (gi b1 3)), (V.sl 8 Zd 0 none), (V.sl 9 Ze 0 none)]), r2, r3, r4, r5, r6, r7, r8, r9)
def ZaS : Nat → Int → Int → V → V → List V → List V → List V → List V → List V → List V → List V → List V → Option (V × V × List V × List V × List V × List V × List V × List V × List V × List V)
  | 0, _, _, _, _, _, _, _, _, _, _, _, _ => none
  | k_ + 1, v50, v51, b0, b1, r2, r3, r4, r5, r6, r7, r8, r9 =>
    bif (decide (v51 < v50)) then
      bif (Zm v51 r2.length) then
        Option.bind (Z5 (gl (rd r2 (0 + v51.toNat)) 0)) fun r338 =>
        bif (Zm v51 r2.length) then
          ZaS k_ v50 (IntKind.i64.wrap (v51 + 1)) (V.agg [(V.int .i64 (gi b0 0)), (V.sl 3 Zg 0 none), (V.sl 2 Zf 0 none), (V.int .i64 (gi b0 3)), (V.sl 4 Zd 0 none), (V.sl 5 Ze 0 none)]) (V.agg [(V.int .i64 (gi b1 0)), (V.sl 6 Zg 0 none), (V.sl 7 Zf 0 none), (V.int .i64 (gi b1 3)), (V.sl 8 Zd 0 none), (V.sl 9 Ze 0 none)]) (r2.set (0 + v51.toNat) (V.agg [(V.inl Zc r338), (V.int .i64 (gi (rd r2 (0 + v51.toNat)) 1))])) r3 r4 r5 r6 r7 r8 r9
        else none
      else none
    else some ((V.agg [(V.int .i64 (gi b0 0)), (V.sl 2 Zg 0 none), (V.sl 3 Zf 0 none), (V.int .i64 (gi b0 3)), (V.sl 4 Zd 0 none), (V.sl 5 Ze 0 none)]), (V.agg [(V.int .i64 (gi b1 0)), (V.sl 6 Zg 0 none), (V.sl 7 Zf 0 none), (V.int .i64 (gi b1 3)), (V.sl 8 Zd 0 none), (V.sl 9 Ze 0 none)]), r3, r2, r4, r5, r6, r7, r8, r9)
def Zcy (s : V) : Option (V) :=
  Option.bind (Zb4 (gl s 1)) fun r331 =>
  Option.bind (ZbO (gl s 2)) fun r332 =>
  Option.bind (Zbj (gl s 4)) fun r333 =>
  Option.bind (ZbP (gl s 5)) fun r334 =>
  Option.bind (ZaR ((((r331.length : Nat) : Int) - 0).toNat + 1) ((r331.length : Nat) : Int) 0 (V.agg [(V.int .i64 (gi s 0)), (V.sl 2 Zg 0 none), (V.sl 3 Zf 0 none), (V.int .i64 (gi s 3)), (V.sl 4 Zd 0 none), (V.sl 5 Ze 0 none)]) (V.agg [(V.int .i64 0), (V.sl 6 Zg 0 none), (V.sl 7 Zf 0 none), (V.int .i64 0), (V.sl 8 Zd 0 none), (V.sl 9 Ze 0 none)]) r331 r332 r333 r334 [] [] [] []) fun r337 =>
  Option.bind (ZaS ((((r337.2.2.2.1.length : Nat) : Int) - 0).toNat + 1) ((r337.2.2.2.1.length : Nat) : Int) 0 (V.agg [(V.int .i64 (gi r337.1 0)), (V.sl 3 Zg 0 none), (V.sl 2 Zf 0 none), (V.int .i64 (gi r337.1 3)), (V.sl 4 Zd 0 none), (V.sl 5 Ze 0 none)]) (V.agg [(V.int .i64 (gi r337.2.1 0)), (V.sl 6 Zg 0 none), (V.sl 7 Zf 0 none), (V.int .i64 (gi r337.2.1 3)), (V.sl 8 Zd 0 none), (V.sl 9 Ze 0 none)]) r337.2.2.2.1 r337.2.2.1 r337.2.2.2.2.1 r337.2.2.2.2.2.1 r337.2.2.2.2.2.2.1 r337.2.2.2.2.2.2.2.1 r337.2.2.2.2.2.2.2.2.1 r337.2.2.2.2.2.2.2.2.2) fun r339 =>
  some (V.agg [(V.int .i64 (gi r339.1 0)), (V.inl Zg r339.2.2.1), (V.inl Zf r339.2.2.2.1), (V.int .i64 (gi r339.1 3)), (V.inl Zd r339.2.2.2.2.1), (V.inl Ze r339.2.2.2.2.2.1)])
def ZbQ (l : V) (client : Int) : Int :=
  (IntKind.i64.wrap ((gi l 0) - client))
def ZN : Nat → List V → Int → Int → Int → Int → Option (List V × Int × Int × Int)
  | 0, _, _, _, _, _ => none
  | k_ + 1, x0, target1, n8, i9, j10 =>
    bif (decide (i9 < j10)) then
      bif (Zm (IntKind.i64.wrap (sShr .u64 (IntKind.u64.wrap (IntKind.i64.wrap (i9 + j10))) 1)) x0.length) then
        bif (decide ((ZbQ (ZdL (rd x0 ((IntKind.i64.wrap (sShr .u64 (IntKind.u64.wrap (IntKind.i64.wrap (i9 + j10))) 1)).toNat))) target1) < 0)) then
          ZN k_ x0 target1 n8 (IntKind.i64.wrap ((IntKind.i64.wrap (sShr .u64 (IntKind.u64.wrap (IntKind.i64.wrap (i9 + j10))) 1)) + 1)) j10
        else ZN k_ x0 target1 n8 i9 (IntKind.i64.wrap (sShr .u64 (IntKind.u64.wrap (IntKind.i64.wrap (i9 + j10))) 1))
      else none
    else some (x0, target1, n8, i9)
def ZaI (x : List V) (target : Int) : Option (Int × Bool) :=
  Option.bind (ZN ((((x.length : Nat) : Int) - 0).toNat + 1) x target ((x.length : Nat) : Int) 0 ((x.length : Nat) : Int)) fun r341 =>
  bif (decide (r341.2.2.2 < r341.2.2.1)) then
    bif (Zm r341.2.2.2 r341.1.length) then
      some (r341.2.2.2, (decide ((ZbQ (ZdL (rd r341.1 r341.2.2.2.toNat)) r341.2.1) = 0)))
    else none
  else some (r341.2.2.2, false)
def ZcP (s : V) (client : Int) : Option (Int × Bool) :=
  Option.bind (ZaI (gl s 5) client) fun r342 =>
  some (r342.1, r342.2)
def ZU (s : V) (key : List V) (val : List V) : Option (Bool × V) :=
  Option.bind (Zbu (Za s) key) fun r345 =>
  bif (!r345.2) then
    bif (decide ((((gl s 1).length : Nat) : Int) = 20)) then
      some (false, (Za s))
    else Option.bind (Z5 key) fun r346 =>
    Option.bind (insV 64 (gl s 1) r345.1 [(V.agg [(V.inl Zc r346), (V.inl Zc []), (V.int .i64 0), (V.int .i64 0)])]) fun r347 =>
    Option.bind (ZbF (V.agg [(V.int .i64 (gi s 0)), (V.inl Zg r347), (V.inl Zf (gl s 2)), (V.int .i64 (gi s 3)), (V.inl Zd (gl s 4)), (V.inl Ze (gl s 5))]) key) fun r348 =>
    bif (decide ((0 : Int) ≤ r348)) then
      Option.bind (delV (gl s 2) r348 (IntKind.i64.wrap (r348 + 1))) fun r349 =>
      Option.bind (Z5 val) fun r350 =>
      bif (Zm r345.1 r347.length) then
        bif (Zm r345.1 ((r347.set (0 + r345.1.toNat) (V.agg [(V.inl Zc (gl (rd r347 (0 + r345.1.toNat)) 0)), (V.inl Zc r350), (V.int .i64 (gi (rd r347 (0 + r345.1.toNat)) 2)), (V.int .i64 (gi (rd r347 (0 + r345.1.toNat)) 3))])).length)) then
          some (true, (V.agg [(V.int .i64 (gi s 0)), (V.inl Zg ((r347.set (0 + r345.1.toNat) (V.agg [(V.inl Zc (gl (rd r347 (0 + r345.1.toNat)) 0)), (V.inl Zc r350), (V.int .i64 (gi (rd r347 (0 + r345.1.toNat)) 2)), (V.int .i64 (gi (rd r347 (0 + r345.1.toNat)) 3))])).set (0 + r345.1.toNat) (V.agg [(V.inl Zc (gl (rd (r347.set (0 + r345.1.toNat) (V.agg [(V.inl Zc (gl (rd r347 (0 + r345.1.toNat)) 0)), (V.inl Zc r350), (V.int .i64 (gi (rd r347 (0 + r345.1.toNat)) 2)), (V.int .i64 (gi (rd r347 (0 + r345.1.toNat)) 3))])) (0 + r345.1.toNat)) 0)), (V.inl Zc (gl (rd (r347.set (0 + r345.1.toNat) (V.agg [(V.inl Zc (gl (rd r347 (0 + r345.1.toNat)) 0)), (V.inl Zc r350), (V.int .i64 (gi (rd r347 (0 + r345.1.toNat)) 2)), (V.int .i64 (gi (rd r347 (0 + r345.1.toNat)) 3))])) (0 + r345.1.toNat)) 1)), (V.int .i64 (gi s 0)), (V.int .i64 (gi (rd (r347.set (0 + r345.1.toNat) (V.agg [(V.inl Zc (gl (rd r347 (0 + r345.1.toNat)) 0)), (V.inl Zc r350), (V.int .i64 (gi (rd r347 (0 + r345.1.toNat)) 2)), (V.int .i64 (gi (rd r347 (0 + r345.1.toNat)) 3))])) (0 + r345.1.toNat)) 3))]))), (V.inl Zf r349), (V.int .i64 (gi s 3)), (V.inl Zd (gl s 4)), (V.inl Ze (gl s 5))]))
        else none
      else none
    else Option.bind (Z5 val) fun r351 =>
    bif (Zm r345.1 r347.length) then
      bif (Zm r345.1 ((r347.set (0 + r345.1.toNat) (V.agg [(V.inl Zc (gl (rd r347 (0 + r345.1.toNat)) 0)), (V.inl Zc r351), (V.int .i64 (gi (rd r347 (0 + r345.1.toNat)) 2)), (V.int .i64 (gi (rd r347 (0 + r345.1.toNat)) 3))])).length)) then
        some (true, (V.agg [(V.int .i64 (gi s 0)), (V.inl Zg ((r347.set (0 + r345.1.toNat) (V.agg [(V.inl Zc (gl (rd r347 (0 + r345.1.toNat)) 0)), (V.inl Zc r351), (V.int .i64 (gi (rd r347 (0 + r345.1.toNat)) 2)), (V.int .i64 (gi (rd r347 (0 + r345.1.toNat)) 3))])).set (0 + r345.1.toNat) (V.agg [(V.inl Zc (gl (rd (r347.set (0 + r345.1.toNat) (V.agg [(V.inl Zc (gl (rd r347 (0 + r345.1.toNat)) 0)), (V.inl Zc r351), (V.int .i64 (gi (rd r347 (0 + r345.1.toNat)) 2)), (V.int .i64 (gi (rd r347 (0 + r345.1.toNat)) 3))])) (0 + r345.1.toNat)) 0)), (V.inl Zc (gl (rd (r347.set (0 + r345.1.toNat) (V.agg [(V.inl Zc (gl (rd r347 (0 + r345.1.toNat)) 0)), (V.inl Zc r351), (V.int .i64 (gi (rd r347 (0 + r345.1.toNat)) 2)), (V.int .i64 (gi (rd r347 (0 + r345.1.toNat)) 3))])) (0 + r345.1.toNat)) 1)), (V.int .i64 (gi s 0)), (V.int .i64 (gi (rd (r347.set (0 + r345.1.toNat) (V.agg [(V.inl Zc (gl (rd r347 (0 + r345.1.toNat)) 0)), (V.inl Zc r351), (V.int .i64 (gi (rd r347 (0 + r345.1.toNat)) 2)), (V.int .i64 (gi (rd r347 (0 + r345.1.toNat)) 3))])) (0 + r345.1.toNat)) 3))]))), (V.inl Zf (gl s 2)), (V.int .i64 (gi s 3)), (V.inl Zd (gl s 4)), (V.inl Ze (gl s 5))]))
      else none
    else none
  else Option.bind (Z5 val) fun r352 =>
  bif (Zm r345.1 ((gl s 1).length)) then
    bif (Zm r345.1 (((gl s 1).set (0 + r345.1.toNat) (V.agg [(V.inl Zc (gl (rd (gl s 1) (0 + r345.1.toNat)) 0)), (V.inl Zc r352), (V.int .i64 (gi (rd (gl s 1) (0 + r345.1.toNat)) 2)), (V.int .i64 (gi (rd (gl s 1) (0 + r345.1.toNat)) 3))])).length)) then
      some (true, (V.agg [(V.int .i64 (gi s 0)), (V.inl Zg (((gl s 1).set (0 + r345.1.toNat) (V.agg [(V.inl Zc (gl (rd (gl s 1) (0 + r345.1.toNat)) 0)), (V.inl Zc r352), (V.int .i64 (gi (rd (gl s 1) (0 + r345.1.toNat)) 2)), (V.int .i64 (gi (rd (gl s 1) (0 + r345.1.toNat)) 3))])).set (0 + r345.1.toNat) (V.agg [(V.inl Zc (gl (rd ((gl s 1).set (0 + r345.1.toNat) (V.agg [(V.inl Zc (gl (rd (gl s 1) (0 + r345.1.toNat)) 0)), (V.inl Zc r352), (V.int .i64 (gi (rd (gl s 1) (0 + r345.1.toNat)) 2)), (V.int .i64 (gi (rd (gl s 1) (0 + r345.1.toNat)) 3))])) (0 + r345.1.toNat)) 0)), (V.inl Zc (gl (rd ((gl s 1).set (0 + r345.1.toNat) (V.agg [(V.inl Zc (gl (rd (gl s 1) (0 + r345.1.toNat)) 0)), (V.inl Zc r352), (V.int .i64 (gi (rd (gl s 1) (0 + r345.1.toNat)) 2)), (V.int .i64 (gi (rd (gl s 1) (0 + r345.1.toNat)) 3))])) (0 + r345.1.toNat)) 1)), (V.int .i64 (gi s 0)), (V.int .i64 (gi (rd ((gl s 1).set (0 + r345.1.toNat) (V.agg [(V.inl Zc (gl (rd (gl s 1) (0 + r345.1.toNat)) 0)), (V.inl Zc r352), (V.int .i64 (gi (rd (gl s 1) (0 + r345.1.toNat)) 2)), (V.int .i64 (gi (rd (gl s 1) (0 + r345.1.toNat)) 3))])) (0 + r345.1.toNat)) 3))]))), (V.inl Zf (gl s 2)), (V.int .i64 (gi s 3)), (V.inl Zd (gl s 4)), (V.inl Ze (gl s 5))]))
    else none
  else none
def Z7 : Nat → V → List V → List V → List V → List V → Option (V × List V × List V × List V × List V)
  | 0, _, _, _, _, _ => none
  | k_ + 1, b0, r1, r2, r3, r4 =>
    bif (decide ((10 : Int) < ((r2.length : Nat) : Int))) then
      bif (Zm 0 r2.length) then
        Option.bind (delV r2 0 1) fun r362 =>
        Z7 k_ (V.agg [(V.int .i64 (gi b0 0)), (V.sl 1 Zg 0 none), (V.sl 2 Zf 0 none), (V.int .i64 (gi (rd r2 0) 1)), (V.sl 3 Zd 0 none), (V.sl 4 Ze 0 none)]) r1 r362 r3 r4
      else none
    else some ((V.agg [(V.int .i64 (gi b0 0)), (V.sl 1 Zg 0 none), (V.sl 2 Zf 0 none), (V.int .i64 (gi b0 3)), (V.sl 3 Zd 0 none), (V.sl 4 Ze 0 none)]), r1, r2, r3, r4)
def ZbR (s : V) (k : Int) : Option (V) :=
  bif (Zm k ((gl s 1).length)) then
    bif ((Zu (((gl s 2).length) + 1) 32) && true) then
      Option.bind (delV (gl s 1) k (IntKind.i64.wrap (k + 1))) fun r361 =>
      Option.bind (Z7 ((((((gl s 2) ++ [(V.agg [(V.inl Zc (gl (rd (gl s 1) (0 + k.toNat)) 0)), (V.int .i64 (gi s 0))])]).length : Nat) : Int) - 10).toNat + 1) (V.agg [(V.int .i64 (gi s 0)), (V.sl 1 Zg 0 none), (V.sl 2 Zf 0 none), (V.int .i64 (gi s 3)), (V.sl 3 Zd 0 none), (V.sl 4 Ze 0 none)]) r361 ((gl s 2) ++ [(V.agg [(V.inl Zc (gl (rd (gl s 1) (0 + k.toNat)) 0)), (V.int .i64 (gi s 0))])]) (gl s 4) (gl s 5)) fun r363 =>
      some (V.agg [(V.int .i64 (gi r363.1 0)), (V.inl Zg r363.2.1), (V.inl Zf r363.2.2.1), (V.int .i64 (gi r363.1 3)), (V.inl Zd r363.2.2.2.1), (V.inl Ze r363.2.2.2.2)])
    else none
  else none
def Zaa : Nat → Int → Bool → Int → V → List V → List V → List V → List V → Option (V × List V × List V × List V × List V)
  | 0, _, _, _, _, _, _, _, _ => none
  | k_ + 1, id1, remove6, k7, b0, r1, r2, r3, r4 =>
    bif (decide (k7 < ((r1.length : Nat) : Int))) then
      bif (Zm k7 r1.length) then
        bif (!(decide ((gi (rd r1 (0 + k7.toNat)) 3) = id1))) then
          Zaa k_ id1 remove6 (IntKind.i64.wrap (k7 + 1)) (V.agg [(V.int .i64 (gi b0 0)), (V.sl 1 Zg 0 none), (V.sl 2 Zf 0 none), (V.int .i64 (gi b0 3)), (V.sl 3 Zd 0 none), (V.sl 4 Ze 0 none)]) r1 r2 r3 r4
        else bif remove6 then
          Option.bind (ZbR (V.agg [(V.int .i64 (gi b0 0)), (V.inl Zg r1), (V.inl Zf r2), (V.int .i64 (gi b0 3)), (V.inl Zd r3), (V.inl Ze r4)]) k7) fun r367 =>
          Zaa k_ id1 remove6 (IntKind.i64.wrap ((IntKind.i64.wrap (k7 - 1)) + 1)) (V.agg [(V.int .i64 (gi r367 0)), (V.sl 1 Zg 0 none), (V.sl 2 Zf 0 none), (V.int .i64 (gi r367 3)), (V.sl 3 Zd 0 none), (V.sl 4 Ze 0 none)]) (gl r367 1) (gl r367 2) (gl r367 4) (gl r367 5)
        else bif (Zm k7 r1.length) then
          bif (Zm k7 ((r1.set (0 + k7.toNat) (V.agg [(V.inl Zc (gl (rd r1 (0 + k7.toNat)) 0)), (V.inl Zc (gl (rd r1 (0 + k7.toNat)) 1)), (V.int .i64 (gi (rd r1 (0 + k7.toNat)) 2)), (V.int .i64 0)])).length)) then
            Zaa k_ id1 remove6 (IntKind.i64.wrap (k7 + 1)) (V.agg [(V.int .i64 (gi b0 0)), (V.sl 1 Zg 0 none), (V.sl 2 Zf 0 none), (V.int .i64 (gi b0 3)), (V.sl 3 Zd 0 none), (V.sl 4 Ze 0 none)]) ((r1.set (0 + k7.toNat) (V.agg [(V.inl Zc (gl (rd r1 (0 + k7.toNat)) 0)), (V.inl Zc (gl (rd r1 (0 + k7.toNat)) 1)), (V.int .i64 (gi (rd r1 (0 + k7.toNat)) 2)), (V.int .i64 0)])).set (0 + k7.toNat) (V.agg [(V.inl Zc (gl (rd (r1.set (0 + k7.toNat) (V.agg [(V.inl Zc (gl (rd r1 (0 + k7.toNat)) 0)), (V.inl Zc (gl (rd r1 (0 + k7.toNat)) 1)), (V.int .i64 (gi (rd r1 (0 + k7.toNat)) 2)), (V.int .i64 0)])) (0 + k7.toNat)) 0)), (V.inl Zc (gl (rd (r1.set (0 + k7.toNat) (V.agg [(V.inl Zc (gl (rd r1 (0 + k7.toNat)) 0)), (V.inl Zc (gl (rd r1 (0 + k7.toNat)) 1)), (V.int .i64 (gi (rd r1 (0 + k7.toNat)) 2)), (V.int .i64 0)])) (0 + k7.toNat)) 1)), (V.int .i64 (gi b0 0)), (V.int .i64 (gi (rd (r1.set (0 + k7.toNat) (V.agg [(V.inl Zc (gl (rd r1 (0 + k7.toNat)) 0)), (V.inl Zc (gl (rd r1 (0 + k7.toNat)) 1)), (V.int .i64 (gi (rd r1 (0 + k7.toNat)) 2)), (V.int .i64 0)])) (0 + k7.toNat)) 3))])) r2 r3 r4
          else none
        else none
      else none
    else some ((V.agg [(V.int .i64 (gi b0 0)), (V.sl 1 Zg 0 none), (V.sl 2 Zf 0 none), (V.int .i64 (gi b0 3)), (V.sl 3 Zd 0 none), (V.sl 4 Ze 0 none)]), r1, r2, r3, r4)
def Zcg (s : V) (id : Int) : Option (Int × V) :=
  Option.bind (ZaZ (Za s) id) fun r365 =>
  bif (decide (r365 < 0)) then
    some (1, (Za s))
  else bif (Zm r365 ((gl s 4).length)) then
    Option.bind (delV (gl s 4) r365 (IntKind.i64.wrap (r365 + 1))) fun r366 =>
    Option.bind (Zaa (((((gl s 1).length : Nat) : Int) - 0).toNat + 1) id (gb (rd (gl s 4) (0 + r365.toNat)) 1) 0 (V.agg [(V.int .i64 (gi s 0)), (V.sl 1 Zg 0 none), (V.sl 2 Zf 0 none), (V.int .i64 (gi s 3)), (V.sl 3 Zd 0 none), (V.sl 4 Ze 0 none)]) (gl s 1) (gl s 2) r366 (gl s 5)) fun r368 =>
    some (0, (V.agg [(V.int .i64 (gi r368.1 0)), (V.inl Zg r368.2.1), (V.inl Zf r368.2.2.1), (V.int .i64 (gi r368.1 3)), (V.inl Zd r368.2.2.2.1), (V.inl Ze r368.2.2.2.2)]))
  else none
def Zbm (s : V) (o : V) : Option (Int × V) :=
  Option.bind (Zbu (Za s) (gl o 1)) fun r344 =>
  bif (decide ((gi o 0) = 1)) then
    bif r344.2 then
      bif (Zm r344.1 ((gl s 1).length)) then
        bif (decide ((gi o 0) = 2)) then
          bif (!(decide ((gi (rd (gl s 1) (0 + r344.1.toNat)) 2) = (gi o 3)))) then
            some (3, (Za s))
          else Option.bind (ZU (Za s) (gl o 1) (gl o 2)) fun r353 =>
          bif (!r353.1) then
            some (4, (Za r353.2))
          else some (0, (Za r353.2))
        else Option.bind (ZU (Za s) (gl o 1) (gl o 2)) fun r354 =>
        bif (!r354.1) then
          some (4, (Za r354.2))
        else some (0, (Za r354.2))
      else none
    else bif (decide ((gi o 0) = 2)) then
      bif (!(decide ((0 : Int) = (gi o 3)))) then
        some (3, (Za s))
      else Option.bind (ZU (Za s) (gl o 1) (gl o 2)) fun r355 =>
      bif (!r355.1) then
        some (4, (Za r355.2))
      else some (0, (Za r355.2))
    else Option.bind (ZU (Za s) (gl o 1) (gl o 2)) fun r356 =>
    bif (!r356.1) then
      some (4, (Za r356.2))
    else some (0, (Za r356.2))
  else bif (decide ((gi o 0) = 2)) then
    bif r344.2 then
      bif (Zm r344.1 ((gl s 1).length)) then
        bif (decide ((gi o 0) = 2)) then
          bif (!(decide ((gi (rd (gl s 1) (0 + r344.1.toNat)) 2) = (gi o 3)))) then
            some (3, (Za s))
          else Option.bind (ZU (Za s) (gl o 1) (gl o 2)) fun r357 =>
          bif (!r357.1) then
            some (4, (Za r357.2))
          else some (0, (Za r357.2))
        else Option.bind (ZU (Za s) (gl o 1) (gl o 2)) fun r358 =>
        bif (!r358.1) then
          some (4, (Za r358.2))
        else some (0, (Za r358.2))
      else none
    else bif (decide ((gi o 0) = 2)) then
      bif (!(decide ((0 : Int) = (gi o 3)))) then
        some (3, (Za s))
      else Option.bind (ZU (Za s) (gl o 1) (gl o 2)) fun r359 =>
      bif (!r359.1) then
        some (4, (Za r359.2))
      else some (0, (Za r359.2))
    else Option.bind (ZU (Za s) (gl o 1) (gl o 2)) fun r360 =>
    bif (!r360.1) then
      some (4, (Za r360.2))
    else some (0, (Za r360.2))
  else bif (decide ((gi o 0) = 3)) then
    bif (!r344.2) then
      some (1, (Za s))
    else Option.bind (ZbR (Za s) r344.1) fun r364 =>
    some (0, (Za r364))
  else bif (decide ((gi o 0) = 4)) then
    bif (decide ((((gl s 4).length : Nat) : Int) = 8)) then
      some (4, (Za s))
    else bif ((Zu (((gl s 4).length) + 1) 16) && true) then
      some (0, (V.agg [(V.int .i64 (gi s 0)), (V.inl Zg (gl s 1)), (V.inl Zf (gl s 2)), (V.int .i64 (gi s 3)), (V.inl Zd ((gl s 4) ++ [(V.agg [(V.int .i64 (gi s 0)), (V.bool (decide ((gi o 3) = 1)))])])), (V.inl Ze (gl s 5))]))
    else none
  else bif (decide ((gi o 0) = 5)) then
    Option.bind (Zcg (Za s) (gi o 3)) fun r369 =>
    some (r369.1, (Za r369.2))
  else bif (decide ((gi o 0) = 6)) then
    Option.bind (ZaZ (Za s) (gi o 3)) fun r370 =>
    bif (decide (r370 < 0)) then
      some (1, (Za s))
    else bif r344.2 then
      bif (Zm r344.1 ((gl s 1).length)) then
        bif (!(decide ((gi (rd (gl s 1) (0 + r344.1.toNat)) 3) = 0))) then
          bif (Zm r344.1 ((gl s 1).length)) then
            bif (!(decide ((gi (rd (gl s 1) (0 + r344.1.toNat)) 3) = (gi o 3)))) then
              some (2, (Za s))
            else Option.bind (ZU (Za s) (gl o 1) (gl o 2)) fun r371 =>
            bif (!r371.1) then
              some (4, (Za r371.2))
            else bif (Zm r344.1 ((gl r371.2 1).length)) then
              some (0, (V.agg [(V.int .i64 (gi r371.2 0)), (V.inl Zg ((gl r371.2 1).set (0 + r344.1.toNat) (V.agg [(V.inl Zc (gl (rd (gl r371.2 1) (0 + r344.1.toNat)) 0)), (V.inl Zc (gl (rd (gl r371.2 1) (0 + r344.1.toNat)) 1)), (V.int .i64 (gi (rd (gl r371.2 1) (0 + r344.1.toNat)) 2)), (V.int .i64 (gi o 3))]))), (V.inl Zf (gl r371.2 2)), (V.int .i64 (gi r371.2 3)), (V.inl Zd (gl r371.2 4)), (V.inl Ze (gl r371.2 5))]))
            else none
          else none
        else Option.bind (ZU (Za s) (gl o 1) (gl o 2)) fun r372 =>
        bif (!r372.1) then
          some (4, (Za r372.2))
        else bif (Zm r344.1 ((gl r372.2 1).length)) then
          some (0, (V.agg [(V.int .i64 (gi r372.2 0)), (V.inl Zg ((gl r372.2 1).set (0 + r344.1.toNat) (V.agg [(V.inl Zc (gl (rd (gl r372.2 1) (0 + r344.1.toNat)) 0)), (V.inl Zc (gl (rd (gl r372.2 1) (0 + r344.1.toNat)) 1)), (V.int .i64 (gi (rd (gl r372.2 1) (0 + r344.1.toNat)) 2)), (V.int .i64 (gi o 3))]))), (V.inl Zf (gl r372.2 2)), (V.int .i64 (gi r372.2 3)), (V.inl Zd (gl r372.2 4)), (V.inl Ze (gl r372.2 5))]))
        else none
      else none
    else Option.bind (ZU (Za s) (gl o 1) (gl o 2)) fun r373 =>
    bif (!r373.1) then
      some (4, (Za r373.2))
    else bif (Zm r344.1 ((gl r373.2 1).length)) then
      some (0, (V.agg [(V.int .i64 (gi r373.2 0)), (V.inl Zg ((gl r373.2 1).set (0 + r344.1.toNat) (V.agg [(V.inl Zc (gl (rd (gl r373.2 1) (0 + r344.1.toNat)) 0)), (V.inl Zc (gl (rd (gl r373.2 1) (0 + r344.1.toNat)) 1)), (V.int .i64 (gi (rd (gl r373.2 1) (0 + r344.1.toNat)) 2)), (V.int .i64 (gi o 3))]))), (V.inl Zf (gl r373.2 2)), (V.int .i64 (gi r373.2 3)), (V.inl Zd (gl r373.2 4)), (V.inl Ze (gl r373.2 5))]))
    else none
  else bif (decide ((gi o 0) = 7)) then
    bif (!r344.2) then
      some (1, (Za s))
    else bif (Zm r344.1 ((gl s 1).length)) then
      bif (!(decide ((gi (rd (gl s 1) (0 + r344.1.toNat)) 3) = (gi o 3)))) then
        some (1, (Za s))
      else bif (Zm r344.1 ((gl s 1).length)) then
        bif (Zm r344.1 (((gl s 1).set (0 + r344.1.toNat) (V.agg [(V.inl Zc (gl (rd (gl s 1) (0 + r344.1.toNat)) 0)), (V.inl Zc (gl (rd (gl s 1) (0 + r344.1.toNat)) 1)), (V.int .i64 (gi (rd (gl s 1) (0 + r344.1.toNat)) 2)), (V.int .i64 0)])).length)) then
          some (0, (V.agg [(V.int .i64 (gi s 0)), (V.inl Zg (((gl s 1).set (0 + r344.1.toNat) (V.agg [(V.inl Zc (gl (rd (gl s 1) (0 + r344.1.toNat)) 0)), (V.inl Zc (gl (rd (gl s 1) (0 + r344.1.toNat)) 1)), (V.int .i64 (gi (rd (gl s 1) (0 + r344.1.toNat)) 2)), (V.int .i64 0)])).set (0 + r344.1.toNat) (V.agg [(V.inl Zc (gl (rd ((gl s 1).set (0 + r344.1.toNat) (V.agg [(V.inl Zc (gl (rd (gl s 1) (0 + r344.1.toNat)) 0)), (V.inl Zc (gl (rd (gl s 1) (0 + r344.1.toNat)) 1)), (V.int .i64 (gi (rd (gl s 1) (0 + r344.1.toNat)) 2)), (V.int .i64 0)])) (0 + r344.1.toNat)) 0)), (V.inl Zc (gl (rd ((gl s 1).set (0 + r344.1.toNat) (V.agg [(V.inl Zc (gl (rd (gl s 1) (0 + r344.1.toNat)) 0)), (V.inl Zc (gl (rd (gl s 1) (0 + r344.1.toNat)) 1)), (V.int .i64 (gi (rd (gl s 1) (0 + r344.1.toNat)) 2)), (V.int .i64 0)])) (0 + r344.1.toNat)) 1)), (V.int .i64 (gi s 0)), (V.int .i64 (gi (rd ((gl s 1).set (0 + r344.1.toNat) (V.agg [(V.inl Zc (gl (rd (gl s 1) (0 + r344.1.toNat)) 0)), (V.inl Zc (gl (rd (gl s 1) (0 + r344.1.toNat)) 1)), (V.int .i64 (gi (rd (gl s 1) (0 + r344.1.toNat)) 2)), (V.int .i64 0)])) (0 + r344.1.toNat)) 3))]))), (V.inl Zf (gl s 2)), (V.int .i64 (gi s 3)), (V.inl Zd (gl s 4)), (V.inl Ze (gl s 5))]))
        else none
      else none
    else none
  else some (0, (Za s))
def ZcG (s : V) (c : V) : Option (V × V) :=
  bif (decide ((gi c 0) < 0)) then
    some ((V.agg [(V.int .i64 0), (V.int .i64 (IntKind.i64.wrap ((gi s 0) + 1)))]), (V.agg [(V.int .i64 (IntKind.i64.wrap ((gi s 0) + 1))), (V.inl Zg (gl s 1)), (V.inl Zf (gl s 2)), (V.int .i64 (gi s 3)), (V.inl Zd (gl s 4)), (V.inl Ze (gl s 5))]))
  else Option.bind (ZcP (V.agg [(V.int .i64 (IntKind.i64.wrap ((gi s 0) + 1))), (V.inl Zg (gl s 1)), (V.inl Zf (gl s 2)), (V.int .i64 (gi s 3)), (V.inl Zd (gl s 4)), (V.inl Ze (gl s 5))]) (gi c 0)) fun r343 =>
  bif r343.2 then
    bif (Zm r343.1 ((gl s 5).length)) then
      bif (decide ((gi (rd (gl s 5) (0 + r343.1.toNat)) 1) = (gi c 1))) then
        bif (Zm r343.1 ((gl s 5).length)) then
          some ((V.agg [(V.int .i64 (gi (rd (gl s 5) (0 + r343.1.toNat)) 2)), (V.int .i64 (gi (rd (gl s 5) (0 + r343.1.toNat)) 3))]), (V.agg [(V.int .i64 (IntKind.i64.wrap ((gi s 0) + 1))), (V.inl Zg (gl s 1)), (V.inl Zf (gl s 2)), (V.int .i64 (gi s 3)), (V.inl Zd (gl s 4)), (V.inl Ze (gl s 5))]))
        else none
      else bif r343.2 then
        bif (Zm r343.1 ((gl s 5).length)) then
          bif (decide ((gi c 1) < (gi (rd (gl s 5) (0 + r343.1.toNat)) 1))) then
            some ((V.agg [(V.int .i64 5), (V.int .i64 (IntKind.i64.wrap ((gi s 0) + 1)))]), (V.agg [(V.int .i64 (IntKind.i64.wrap ((gi s 0) + 1))), (V.inl Zg (gl s 1)), (V.inl Zf (gl s 2)), (V.int .i64 (gi s 3)), (V.inl Zd (gl s 4)), (V.inl Ze (gl s 5))]))
          else Option.bind (Zbm (V.agg [(V.int .i64 (IntKind.i64.wrap ((gi s 0) + 1))), (V.inl Zg (gl s 1)), (V.inl Zf (gl s 2)), (V.int .i64 (gi s 3)), (V.inl Zd (gl s 4)), (V.inl Ze (gl s 5))]) (V.agg [(V.int .i64 (gi c 2)), (V.inl Zc (gl c 3)), (V.inl Zc (gl c 4)), (V.int .i64 (gi c 5))])) fun r374 =>
          bif r343.2 then
            bif (Zm r343.1 ((gl r374.2 5).length)) then
              some ((V.agg [(V.int .i64 r374.1), (V.int .i64 (IntKind.i64.wrap ((gi s 0) + 1)))]), (V.agg [(V.int .i64 (gi r374.2 0)), (V.inl Zg (gl r374.2 1)), (V.inl Zf (gl r374.2 2)), (V.int .i64 (gi r374.2 3)), (V.inl Zd (gl r374.2 4)), (V.inl Ze ((gl r374.2 5).set (0 + r343.1.toNat) (V.agg [(V.int .i64 (gi c 0)), (V.int .i64 (gi c 1)), (V.int .i64 r374.1), (V.int .i64 (IntKind.i64.wrap ((gi s 0) + 1)))])))]))
            else none
          else Option.bind (insV 32 (gl r374.2 5) r343.1 [(V.agg [(V.int .i64 (gi c 0)), (V.int .i64 (gi c 1)), (V.int .i64 r374.1), (V.int .i64 (IntKind.i64.wrap ((gi s 0) + 1)))])]) fun r375 =>
          some ((V.agg [(V.int .i64 r374.1), (V.int .i64 (IntKind.i64.wrap ((gi s 0) + 1)))]), (V.agg [(V.int .i64 (gi r374.2 0)), (V.inl Zg (gl r374.2 1)), (V.inl Zf (gl r374.2 2)), (V.int .i64 (gi r374.2 3)), (V.inl Zd (gl r374.2 4)), (V.inl Ze r375)]))
        else none
      else Option.bind (Zbm (V.agg [(V.int .i64 (IntKind.i64.wrap ((gi s 0) + 1))), (V.inl Zg (gl s 1)), (V.inl Zf (gl s 2)), (V.int .i64 (gi s 3)), (V.inl Zd (gl s 4)), (V.inl Ze (gl s 5))]) (V.agg [(V.int .i64 (gi c 2)), (V.inl Zc (gl c 3)), (V.inl Zc (gl c 4)), (V.int .i64 (gi c 5))])) fun r376 =>
      bif r343.2 then
        bif (Zm r343.1 ((gl r376.2 5).length)) then
          some ((V.agg [(V.int .i64 r376.1), (V.int .i64 (IntKind.i64.wrap ((gi s 0) + 1)))]), (V.agg [(V.int .i64 (gi r376.2 0)), (V.inl Zg (gl r376.2 1)), (V.inl Zf (gl r376.2 2)), (V.int .i64 (gi r376.2 3)), (V.inl Zd (gl r376.2 4)), (V.inl Ze ((gl r376.2 5).set (0 + r343.1.toNat) (V.agg [(V.int .i64 (gi c 0)), (V.int .i64 (gi c 1)), (V.int .i64 r376.1), (V.int .i64 (IntKind.i64.wrap ((gi s 0) + 1)))])))]))
        else none
      else Option.bind (insV 32 (gl r376.2 5) r343.1 [(V.agg [(V.int .i64 (gi c 0)), (V.int .i64 (gi c 1)), (V.int .i64 r376.1), (V.int .i64 (IntKind.i64.wrap ((gi s 0) + 1)))])]) fun r377 =>
      some ((V.agg [(V.int .i64 r376.1), (V.int .i64 (IntKind.i64.wrap ((gi s 0) + 1)))]), (V.agg [(V.int .i64 (gi r376.2 0)), (V.inl Zg (gl r376.2 1)), (V.inl Zf (gl r376.2 2)), (V.int .i64 (gi r376.2 3)), (V.inl Zd (gl r376.2 4)), (V.inl Ze r377)]))
    else none
  else bif r343.2 then
    bif (Zm r343.1 ((gl s 5).length)) then
      bif (decide ((gi c 1) < (gi (rd (gl s 5) (0 + r343.1.toNat)) 1))) then
        some ((V.agg [(V.int .i64 5), (V.int .i64 (IntKind.i64.wrap ((gi s 0) + 1)))]), (V.agg [(V.int .i64 (IntKind.i64.wrap ((gi s 0) + 1))), (V.inl Zg (gl s 1)), (V.inl Zf (gl s 2)), (V.int .i64 (gi s 3)), (V.inl Zd (gl s 4)), (V.inl Ze (gl s 5))]))
      else Option.bind (Zbm (V.agg [(V.int .i64 (IntKind.i64.wrap ((gi s 0) + 1))), (V.inl Zg (gl s 1)), (V.inl Zf (gl s 2)), (V.int .i64 (gi s 3)), (V.inl Zd (gl s 4)), (V.inl Ze (gl s 5))]) (V.agg [(V.int .i64 (gi c 2)), (V.inl Zc (gl c 3)), (V.inl Zc (gl c 4)), (V.int .i64 (gi c 5))])) fun r378 =>
      bif r343.2 then
        bif (Zm r343.1 ((gl r378.2 5).length)) then
          some ((V.agg [(V.int .i64 r378.1), (V.int .i64 (IntKind.i64.wrap ((gi s 0) + 1)))]), (V.agg [(V.int .i64 (gi r378.2 0)), (V.inl Zg (gl r378.2 1)), (V.inl Zf (gl r378.2 2)), (V.int .i64 (gi r378.2 3)), (V.inl Zd (gl r378.2 4)), (V.inl Ze ((gl r378.2 5).set (0 + r343.1.toNat) (V.agg [(V.int .i64 (gi c 0)), (V.int .i64 (gi c 1)), (V.int .i64 r378.1), (V.int .i64 (IntKind.i64.wrap ((gi s 0) + 1)))])))]))
        else none
      else Option.bind (insV 32 (gl r378.2 5) r343.1 [(V.agg [(V.int .i64 (gi c 0)), (V.int .i64 (gi c 1)), (V.int .i64 r378.1), (V.int .i64 (IntKind.i64.wrap ((gi s 0) + 1)))])]) fun r379 =>
      some ((V.agg [(V.int .i64 r378.1), (V.int .i64 (IntKind.i64.wrap ((gi s 0) + 1)))]), (V.agg [(V.int .i64 (gi r378.2 0)), (V.inl Zg (gl r378.2 1)), (V.inl Zf (gl r378.2 2)), (V.int .i64 (gi r378.2 3)), (V.inl Zd (gl r378.2 4)), (V.inl Ze r379)]))
    else none
  else Option.bind (Zbm (V.agg [(V.int .i64 (IntKind.i64.wrap ((gi s 0) + 1))), (V.inl Zg (gl s 1)), (V.inl Zf (gl s 2)), (V.int .i64 (gi s 3)), (V.inl Zd (gl s 4)), (V.inl Ze (gl s 5))]) (V.agg [(V.int .i64 (gi c 2)), (V.inl Zc (gl c 3)), (V.inl Zc (gl c 4)), (V.int .i64 (gi c 5))])) fun r380 =>
  bif r343.2 then
    bif (Zm r343.1 ((gl r380.2 5).length)) then
      some ((V.agg [(V.int .i64 r380.1), (V.int .i64 (IntKind.i64.wrap ((gi s 0) + 1)))]), (V.agg [(V.int .i64 (gi r380.2 0)), (V.inl Zg (gl r380.2 1)), (V.inl Zf (gl r380.2 2)), (V.int .i64 (gi r380.2 3)), (V.inl Zd (gl r380.2 4)), (V.inl Ze ((gl r380.2 5).set (0 + r343.1.toNat) (V.agg [(V.int .i64 (gi c 0)), (V.int .i64 (gi c 1)), (V.int .i64 r380.1), (V.int .i64 (IntKind.i64.wrap ((gi s 0) + 1)))])))]))
    else none
  else Option.bind (insV 32 (gl r380.2 5) r343.1 [(V.agg [(V.int .i64 (gi c 0)), (V.int .i64 (gi c 1)), (V.int .i64 r380.1), (V.int .i64 (IntKind.i64.wrap ((gi s 0) + 1)))])]) fun r381 =>
  some ((V.agg [(V.int .i64 r380.1), (V.int .i64 (IntKind.i64.wrap ((gi s 0) + 1)))]), (V.agg [(V.int .i64 (gi r380.2 0)), (V.inl Zg (gl r380.2 1)), (V.inl Zf (gl r380.2 2)), (V.int .i64 (gi r380.2 3)), (V.inl Zd (gl r380.2 4)), (V.inl Ze r381)]))
def Zch (s : V) (c : V) : Option (V × V) :=
  Option.bind (Zbi (Za s)) fun r319 =>
  bif (!r319) then
    some ((V.agg [(V.int .i64 0), (V.inl Zg []), (V.inl Zf []), (V.int .i64 0), (V.inl Zd []), (V.inl Ze [])]), (V.agg [(V.int .i64 0), (V.int .i64 0)]))
  else Option.bind (Zc5 (Zn c)) fun r326 =>
  bif (!r326) then
    some ((V.agg [(V.int .i64 0), (V.inl Zg []), (V.inl Zf []), (V.int .i64 0), (V.inl Zd []), (V.inl Ze [])]), (V.agg [(V.int .i64 0), (V.int .i64 0)]))
  else bif (decide ((gi s 0) = 1000000)) then
    some ((V.agg [(V.int .i64 0), (V.inl Zg []), (V.inl Zf []), (V.int .i64 0), (V.inl Zd []), (V.inl Ze [])]), (V.agg [(V.int .i64 0), (V.int .i64 0)]))
  else Option.bind (Zcy (Za s)) fun r340 =>
  Option.bind (ZcG (Za r340) (Zn c)) fun r382 =>
  some ((Za r382.2), (Zw r382.1))
def Zcz (n : Int) : Bool :=
  bif (decide ((0 : Int) ≤ n)) then
    (decide (n ≤ 1000000))
  else false
def Zba : Nat → List V → Int → Option (Nat × Bool)
  | 0, _, _ => none
  | k_ + 1, b0, i3 =>
    bif (decide (i3 < ((b0.length : Nat) : Int))) then
      bif (Zm i3 b0.length) then
        bif (decide ((gi (rd b0 i3.toNat) 0) < 97)) then
          bif (Zm i3 b0.length) then
            bif (!(decide ((gi (rd b0 i3.toNat) 0) = 47))) then
              some (0, false)
            else Zba k_ b0 (IntKind.i64.wrap (i3 + 1))
          else none
        else bif (Zm i3 b0.length) then
          bif (decide ((122 : Int) < (gi (rd b0 i3.toNat) 0))) then
            bif (Zm i3 b0.length) then
              bif (!(decide ((gi (rd b0 i3.toNat) 0) = 47))) then
                some (0, false)
              else Zba k_ b0 (IntKind.i64.wrap (i3 + 1))
            else none
          else Zba k_ b0 (IntKind.i64.wrap (i3 + 1))
        else none
      else none
    else some (1, false)
def ZbC (b : List V) : Option (Bool) :=
  bif (decide (((b.length : Nat) : Int) < 1)) then
    some false
  else bif (decide ((20 : Int) < ((b.length : Nat) : Int))) then
    some false
  else Option.bind (Zba ((((b.length : Nat) : Int) - 0).toNat + 1) b 0) fun r386 =>
  bif (Nat.beq r386.1 0) then
    some r386.2
  else some true
def ZdD (b : List V) : Bool :=
  (decide (((b.length : Nat) : Int) ≤ 20))
def Zat : Nat → Int → V → Option (Nat × Bool × V)
  | 0, _, _ => none
  | k_ + 1, i3, b0 =>
    bif (decide (i3 < (((gl b0 1).length : Nat) : Int))) then
      bif (Zm i3 ((gl b0 1).length)) then
        Option.bind (ZbC (gl (rd (gl b0 1) i3.toNat) 0)) fun r387 =>
        bif (!r387) then
          some (0, false, (Za b0))
        else bif (!(ZdD (gl (rd (gl b0 1) i3.toNat) 1))) then
          some (0, false, (Za b0))
        else bif (decide ((gi (rd (gl b0 1) i3.toNat) 2) < 1)) then
          some (0, false, (Za b0))
        else bif (decide ((gi b0 0) < (gi (rd (gl b0 1) i3.toNat) 2))) then
          some (0, false, (Za b0))
        else bif (!(decide ((gi (rd (gl b0 1) i3.toNat) 3) = 0))) then
          Option.bind (Zbg (Za b0) (gi (rd (gl b0 1) i3.toNat) 3)) fun r388 =>
          bif (decide (r388 < 0)) then
            some (0, false, (Za b0))
          else bif (decide ((0 : Int) < i3)) then
            bif (Zm (IntKind.i64.wrap (i3 - 1)) ((gl b0 1).length)) then
              bif (!(ZbM ((gl (rd (gl b0 1) ((IntKind.i64.wrap (i3 - 1)).toNat)) 0).map Zan) ((gl (rd (gl b0 1) i3.toNat) 0).map Zan))) then
                some (0, false, (Za b0))
              else Zat k_ (IntKind.i64.wrap (i3 + 1)) (Za b0)
            else none
          else Zat k_ (IntKind.i64.wrap (i3 + 1)) (Za b0)
        else bif (decide ((0 : Int) < i3)) then
          bif (Zm (IntKind.i64.wrap (i3 - 1)) ((gl b0 1).length)) then
            bif (!(ZbM ((gl (rd (gl b0 1) ((IntKind.i64.wrap (i3 - 1)).toNat)) 0).map Zan) ((gl (rd (gl b0 1) i3.toNat) 0).map Zan))) then
              some (0, false, (Za b0))
            else Zat k_ (IntKind.i64.wrap (i3 + 1)) (Za b0)
          else none
        else Zat k_ (IntKind.i64.wrap (i3 + 1)) (Za b0)
      else none
    else some (1, false, (Za b0))
def ZaM : Nat → Int → V → Option (Nat × Bool × V)
  | 0, _, _ => none
  | k_ + 1, i5, b0 =>
    bif (decide (i5 < (((gl b0 2).length : Nat) : Int))) then
      bif (Zm i5 ((gl b0 2).length)) then
        Option.bind (ZbC (gl (rd (gl b0 2) i5.toNat) 0)) fun r390 =>
        bif (!r390) then
          some (0, false, (Za b0))
        else Option.bind (ZaT (Za b0) (gl (rd (gl b0 2) i5.toNat) 0)) fun r391 =>
        bif (decide ((0 : Int) ≤ r391)) then
          some (0, false, (Za b0))
        else Option.bind (ZcN (Za b0) (gl (rd (gl b0 2) i5.toNat) 0)) fun r392 =>
        bif (!(decide (r392 = i5))) then
          some (0, false, (Za b0))
        else bif (decide ((gi (rd (gl b0 2) i5.toNat) 1) < 1)) then
          some (0, false, (Za b0))
        else bif (decide ((gi b0 0) < (gi (rd (gl b0 2) i5.toNat) 1))) then
          some (0, false, (Za b0))
        else bif (decide ((gi (rd (gl b0 2) i5.toNat) 1) < (gi b0 3))) then
          some (0, false, (Za b0))
        else bif (decide ((0 : Int) < i5)) then
          bif (Zm (IntKind.i64.wrap (i5 - 1)) ((gl b0 2).length)) then
            bif (decide ((gi (rd (gl b0 2) i5.toNat) 1) < (gi (rd (gl b0 2) ((IntKind.i64.wrap (i5 - 1)).toNat)) 1))) then
              some (0, false, (Za b0))
            else ZaM k_ (IntKind.i64.wrap (i5 + 1)) (Za b0)
          else none
        else ZaM k_ (IntKind.i64.wrap (i5 + 1)) (Za b0)
      else none
    else some (1, false, (Za b0))
def ZaN : Nat → Int → V → Option (Nat × Bool × V)
  | 0, _, _ => none
  | k_ + 1, i7, b0 =>
    bif (decide (i7 < (((gl b0 4).length : Nat) : Int))) then
      bif (Zm i7 ((gl b0 4).length)) then
        bif (decide ((gi (rd (gl b0 4) i7.toNat) 0) < 1)) then
          some (0, false, (Za b0))
        else bif (Zm i7 ((gl b0 4).length)) then
          bif (decide ((gi b0 0) < (gi (rd (gl b0 4) i7.toNat) 0))) then
            some (0, false, (Za b0))
          else bif (decide ((0 : Int) < i7)) then
            bif (Zm (IntKind.i64.wrap (i7 - 1)) ((gl b0 4).length)) then
              bif (Zm i7 ((gl b0 4).length)) then
                bif (decide ((gi (rd (gl b0 4) i7.toNat) 0) ≤ (gi (rd (gl b0 4) ((IntKind.i64.wrap (i7 - 1)).toNat)) 0))) then
                  some (0, false, (Za b0))
                else ZaN k_ (IntKind.i64.wrap (i7 + 1)) (Za b0)
              else none
            else none
          else ZaN k_ (IntKind.i64.wrap (i7 + 1)) (Za b0)
        else none
      else none
    else some (1, false, (Za b0))
def ZaO : Nat → Int → V → Option (Nat × Bool)
  | 0, _, _ => none
  | k_ + 1, i8, b0 =>
    bif (decide (i8 < (((gl b0 5).length : Nat) : Int))) then
      bif (Zm i8 ((gl b0 5).length)) then
        bif (decide ((gi (rd (gl b0 5) i8.toNat) 0) < 0)) then
          some (0, false)
        else bif (decide ((4 : Int) ≤ (gi (rd (gl b0 5) i8.toNat) 0))) then
          some (0, false)
        else bif (decide ((gi (rd (gl b0 5) i8.toNat) 1) < 1)) then
          some (0, false)
        else bif (decide ((1000000 : Int) < (gi (rd (gl b0 5) i8.toNat) 1))) then
          some (0, false)
        else bif (decide ((gi (rd (gl b0 5) i8.toNat) 2) < 0)) then
          some (0, false)
        else bif (decide ((5 : Int) < (gi (rd (gl b0 5) i8.toNat) 2))) then
          some (0, false)
        else bif (decide ((gi (rd (gl b0 5) i8.toNat) 3) < 1)) then
          some (0, false)
        else bif (decide ((gi b0 0) < (gi (rd (gl b0 5) i8.toNat) 3))) then
          some (0, false)
        else bif (decide ((0 : Int) < i8)) then
          bif (Zm (IntKind.i64.wrap (i8 - 1)) ((gl b0 5).length)) then
            bif (decide ((gi (rd (gl b0 5) i8.toNat) 0) ≤ (gi (rd (gl b0 5) ((IntKind.i64.wrap (i8 - 1)).toNat)) 0))) then
              some (0, false)
            else ZaO k_ (IntKind.i64.wrap (i8 + 1)) (Za b0)
          else none
        else ZaO k_ (IntKind.i64.wrap (i8 + 1)) (Za b0)
      else none
    else some (1, false)
def ZdE (s : V) : Option (Bool) :=
  bif (!(Zcz (gi s 0))) then
    some false
  else bif (decide ((20 : Int) < (((gl s 1).length : Nat) : Int))) then
    some false
  else bif (decide ((10 : Int) < (((gl s 2).length : Nat) : Int))) then
    some false
  else bif (decide ((gi s 3) < 0)) then
    some false
  else bif (decide ((gi s 0) < (gi s 3))) then
    some false
  else bif (decide ((8 : Int) < (((gl s 4).length : Nat) : Int))) then
    some false
  else bif (decide ((4 : Int) < (((gl s 5).length : Nat) : Int))) then
    some false
  else Option.bind (Zat (((((gl (Za s) 1).length : Nat) : Int) - 0).toNat + 1) 0 (Za s)) fun r389 =>
  bif (Nat.beq r389.1 0) then
    some r389.2.1
  else Option.bind (ZaM (((((gl (Za r389.2.2) 2).length : Nat) : Int) - 0).toNat + 1) 0 (Za r389.2.2)) fun r393 =>
  bif (Nat.beq r393.1 0) then
    some r393.2.1
  else Option.bind (ZaN (((((gl (Za r393.2.2) 4).length : Nat) : Int) - 0).toNat + 1) 0 (Za r393.2.2)) fun r394 =>
  bif (Nat.beq r394.1 0) then
    some r394.2.1
  else Option.bind (ZaO (((((gl (Za r394.2.2) 5).length : Nat) : Int) - 0).toNat + 1) 0 (Za r394.2.2)) fun r395 =>
  bif (Nat.beq r395.1 0) then
    some r395.2
  else some true
def spec_OpOk (o : V) : Option (Bool) :=
  bif (decide ((gi o 0) < 0)) then
    some false
  else bif (decide ((7 : Int) < (gi o 0))) then
    some false
  else bif (!(ZdD (gl o 2))) then
    some false
  else bif (!(Zcz (gi o 3))) then
    some false
  else bif (decide ((gi o 0) = 1)) then
    Option.bind (ZbC (gl o 1)) fun r398 =>
    bif (!r398) then
      some false
    else bif (decide ((gi o 0) = 1)) then
      bif (decide ((gi o 0) = 0)) then
        some (decide ((gi o 3) = 0))
      else bif (decide ((gi o 0) = 1)) then
        some (decide ((gi o 3) = 0))
      else bif (decide ((gi o 0) = 3)) then
        some (decide ((gi o 3) = 0))
      else bif (decide ((gi o 0) = 4)) then
        some (decide ((gi o 3) ≤ 1))
      else bif (decide ((gi o 0) = 2)) then
        some true
      else some (decide ((1 : Int) ≤ (gi o 3)))
    else bif (decide ((gi o 0) = 2)) then
      bif (decide ((gi o 0) = 0)) then
        some (decide ((gi o 3) = 0))
      else bif (decide ((gi o 0) = 1)) then
        some (decide ((gi o 3) = 0))
      else bif (decide ((gi o 0) = 3)) then
        some (decide ((gi o 3) = 0))
      else bif (decide ((gi o 0) = 4)) then
        some (decide ((gi o 3) ≤ 1))
      else bif (decide ((gi o 0) = 2)) then
        some true
      else some (decide ((1 : Int) ≤ (gi o 3)))
    else bif (!(decide ((gi o 0) = 6))) then
      bif (decide ((0 : Int) < (((gl o 2).length : Nat) : Int))) then
        some false
      else bif (decide ((gi o 0) = 0)) then
        some (decide ((gi o 3) = 0))
      else bif (decide ((gi o 0) = 1)) then
        some (decide ((gi o 3) = 0))
      else bif (decide ((gi o 0) = 3)) then
        some (decide ((gi o 3) = 0))
      else bif (decide ((gi o 0) = 4)) then
        some (decide ((gi o 3) ≤ 1))
      else bif (decide ((gi o 0) = 2)) then
        some true
      else some (decide ((1 : Int) ≤ (gi o 3)))
    else bif (decide ((gi o 0) = 0)) then
      some (decide ((gi o 3) = 0))
    else bif (decide ((gi o 0) = 1)) then
      some (decide ((gi o 3) = 0))
    else bif (decide ((gi o 0) = 3)) then
      some (decide ((gi o 3) = 0))
    else bif (decide ((gi o 0) = 4)) then
      some (decide ((gi o 3) ≤ 1))
    else bif (decide ((gi o 0) = 2)) then
      some true
    else some (decide ((1 : Int) ≤ (gi o 3)))
  else bif (decide ((gi o 0) = 2)) then
    Option.bind (ZbC (gl o 1)) fun r399 =>
    bif (!r399) then
      some false
    else bif (decide ((gi o 0) = 1)) then
      bif (decide ((gi o 0) = 0)) then
        some (decide ((gi o 3) = 0))
      else bif (decide ((gi o 0) = 1)) then
        some (decide ((gi o 3) = 0))
      else bif (decide ((gi o 0) = 3)) then
        some (decide ((gi o 3) = 0))
      else bif (decide ((gi o 0) = 4)) then
        some (decide ((gi o 3) ≤ 1))
      else bif (decide ((gi o 0) = 2)) then
        some true
      else some (decide ((1 : Int) ≤ (gi o 3)))
    else bif (decide ((gi o 0) = 2)) then
      bif (decide ((gi o 0) = 0)) then
        some (decide ((gi o 3) = 0))
      else bif (decide ((gi o 0) = 1)) then
        some (decide ((gi o 3) = 0))
      else bif (decide ((gi o 0) = 3)) then
        some (decide ((gi o 3) = 0))
      else bif (decide ((gi o 0) = 4)) then
        some (decide ((gi o 3) ≤ 1))
      else bif (decide ((gi o 0) = 2)) then
        some true
      else some (decide ((1 : Int) ≤ (gi o 3)))
    else bif (!(decide ((gi o 0) = 6))) then
      bif (decide ((0 : Int) < (((gl o 2).length : Nat) : Int))) then
        some false
      else bif (decide ((gi o 0) = 0)) then
        some (decide ((gi o 3) = 0))
      else bif (decide ((gi o 0) = 1)) then
        some (decide ((gi o 3) = 0))
      else bif (decide ((gi o 0) = 3)) then
        some (decide ((gi o 3) = 0))
      else bif (decide ((gi o 0) = 4)) then
        some (decide ((gi o 3) ≤ 1))
      else bif (decide ((gi o 0) = 2)) then
        some true
      else some (decide ((1 : Int) ≤ (gi o 3)))
    else bif (decide ((gi o 0) = 0)) then
      some (decide ((gi o 3) = 0))
    else bif (decide ((gi o 0) = 1)) then
      some (decide ((gi o 3) = 0))
    else bif (decide ((gi o 0) = 3)) then
      some (decide ((gi o 3) = 0))
    else bif (decide ((gi o 0) = 4)) then
      some (decide ((gi o 3) ≤ 1))
    else bif (decide ((gi o 0) = 2)) then
      some true
    else some (decide ((1 : Int) ≤ (gi o 3)))
  else bif (decide ((gi o 0) = 3)) then
    Option.bind (ZbC (gl o 1)) fun r400 =>
    bif (!r400) then
      some false
    else bif (decide ((gi o 0) = 1)) then
      bif (decide ((gi o 0) = 0)) then
        some (decide ((gi o 3) = 0))
      else bif (decide ((gi o 0) = 1)) then
        some (decide ((gi o 3) = 0))
      else bif (decide ((gi o 0) = 3)) then
        some (decide ((gi o 3) = 0))
      else bif (decide ((gi o 0) = 4)) then
        some (decide ((gi o 3) ≤ 1))
      else bif (decide ((gi o 0) = 2)) then
        some true
      else some (decide ((1 : Int) ≤ (gi o 3)))
    else bif (decide ((gi o 0) = 2)) then
      bif (decide ((gi o 0) = 0)) then
        some (decide ((gi o 3) = 0))
      else bif (decide ((gi o 0) = 1)) then
        some (decide ((gi o 3) = 0))
      else bif (decide ((gi o 0) = 3)) then
        some (decide ((gi o 3) = 0))
      else bif (decide ((gi o 0) = 4)) then
        some (decide ((gi o 3) ≤ 1))
      else bif (decide ((gi o 0) = 2)) then
        some true
      else some (decide ((1 : Int) ≤ (gi o 3)))
    else bif (!(decide ((gi o 0) = 6))) then
      bif (decide ((0 : Int) < (((gl o 2).length : Nat) : Int))) then
        some false
      else bif (decide ((gi o 0) = 0)) then
        some (decide ((gi o 3) = 0))
      else bif (decide ((gi o 0) = 1)) then
        some (decide ((gi o 3) = 0))
      else bif (decide ((gi o 0) = 3)) then
        some (decide ((gi o 3) = 0))
      else bif (decide ((gi o 0) = 4)) then
        some (decide ((gi o 3) ≤ 1))
      else bif (decide ((gi o 0) = 2)) then
        some true
      else some (decide ((1 : Int) ≤ (gi o 3)))
    else bif (decide ((gi o 0) = 0)) then
      some (decide ((gi o 3) = 0))
    else bif (decide ((gi o 0) = 1)) then
      some (decide ((gi o 3) = 0))
    else bif (decide ((gi o 0) = 3)) then
      some (decide ((gi o 3) = 0))
    else bif (decide ((gi o 0) = 4)) then
      some (decide ((gi o 3) ≤ 1))
    else bif (decide ((gi o 0) = 2)) then
      some true
    else some (decide ((1 : Int) ≤ (gi o 3)))
  else bif (decide ((gi o 0) = 6)) then
    Option.bind (ZbC (gl o 1)) fun r401 =>
    bif (!r401) then
      some false
    else bif (decide ((gi o 0) = 1)) then
      bif (decide ((gi o 0) = 0)) then
        some (decide ((gi o 3) = 0))
      else bif (decide ((gi o 0) = 1)) then
        some (decide ((gi o 3) = 0))
      else bif (decide ((gi o 0) = 3)) then
        some (decide ((gi o 3) = 0))
      else bif (decide ((gi o 0) = 4)) then
        some (decide ((gi o 3) ≤ 1))
      else bif (decide ((gi o 0) = 2)) then
        some true
      else some (decide ((1 : Int) ≤ (gi o 3)))
    else bif (decide ((gi o 0) = 2)) then
      bif (decide ((gi o 0) = 0)) then
        some (decide ((gi o 3) = 0))
      else bif (decide ((gi o 0) = 1)) then
        some (decide ((gi o 3) = 0))
      else bif (decide ((gi o 0) = 3)) then
        some (decide ((gi o 3) = 0))
      else bif (decide ((gi o 0) = 4)) then
        some (decide ((gi o 3) ≤ 1))
      else bif (decide ((gi o 0) = 2)) then
        some true
      else some (decide ((1 : Int) ≤ (gi o 3)))
    else bif (!(decide ((gi o 0) = 6))) then
      bif (decide ((0 : Int) < (((gl o 2).length : Nat) : Int))) then
        some false
      else bif (decide ((gi o 0) = 0)) then
        some (decide ((gi o 3) = 0))
      else bif (decide ((gi o 0) = 1)) then
        some (decide ((gi o 3) = 0))
      else bif (decide ((gi o 0) = 3)) then
        some (decide ((gi o 3) = 0))
      else bif (decide ((gi o 0) = 4)) then
        some (decide ((gi o 3) ≤ 1))
      else bif (decide ((gi o 0) = 2)) then
        some true
      else some (decide ((1 : Int) ≤ (gi o 3)))
    else bif (decide ((gi o 0) = 0)) then
      some (decide ((gi o 3) = 0))
    else bif (decide ((gi o 0) = 1)) then
      some (decide ((gi o 3) = 0))
    else bif (decide ((gi o 0) = 3)) then
      some (decide ((gi o 3) = 0))
    else bif (decide ((gi o 0) = 4)) then
      some (decide ((gi o 3) ≤ 1))
    else bif (decide ((gi o 0) = 2)) then
      some true
    else some (decide ((1 : Int) ≤ (gi o 3)))
  else bif (decide ((gi o 0) = 7)) then
    Option.bind (ZbC (gl o 1)) fun r402 =>
    bif (!r402) then
      some false
    else bif (!(decide ((gi o 0) = 7))) then
      bif (decide ((0 : Int) < (((gl o 1).length : Nat) : Int))) then
        some false
      else bif (decide ((gi o 0) = 1)) then
        bif (decide ((gi o 0) = 0)) then
          some (decide ((gi o 3) = 0))
        else bif (decide ((gi o 0) = 1)) then
          some (decide ((gi o 3) = 0))
        else bif (decide ((gi o 0) = 3)) then
          some (decide ((gi o 3) = 0))
        else bif (decide ((gi o 0) = 4)) then
          some (decide ((gi o 3) ≤ 1))
        else bif (decide ((gi o 0) = 2)) then
          some true
        else some (decide ((1 : Int) ≤ (gi o 3)))
      else bif (decide ((gi o 0) = 2)) then
        bif (decide ((gi o 0) = 0)) then
          some (decide ((gi o 3) = 0))
        else bif (decide ((gi o 0) = 1)) then
          some (decide ((gi o 3) = 0))
        else bif (decide ((gi o 0) = 3)) then
          some (decide ((gi o 3) = 0))
        else bif (decide ((gi o 0) = 4)) then
          some (decide ((gi o 3) ≤ 1))
        else bif (decide ((gi o 0) = 2)) then
          some true
        else some (decide ((1 : Int) ≤ (gi o 3)))
      else bif (!(decide ((gi o 0) = 6))) then
        bif (decide ((0 : Int) < (((gl o 2).length : Nat) : Int))) then
          some false
        else bif (decide ((gi o 0) = 0)) then
          some (decide ((gi o 3) = 0))
        else bif (decide ((gi o 0) = 1)) then
          some (decide ((gi o 3) = 0))
        else bif (decide ((gi o 0) = 3)) then
          some (decide ((gi o 3) = 0))
        else bif (decide ((gi o 0) = 4)) then
          some (decide ((gi o 3) ≤ 1))
        else bif (decide ((gi o 0) = 2)) then
          some true
        else some (decide ((1 : Int) ≤ (gi o 3)))
      else bif (decide ((gi o 0) = 0)) then
        some (decide ((gi o 3) = 0))
      else bif (decide ((gi o 0) = 1)) then
        some (decide ((gi o 3) = 0))
      else bif (decide ((gi o 0) = 3)) then
        some (decide ((gi o 3) = 0))
      else bif (decide ((gi o 0) = 4)) then
        some (decide ((gi o 3) ≤ 1))
      else bif (decide ((gi o 0) = 2)) then
        some true
      else some (decide ((1 : Int) ≤ (gi o 3)))
    else bif (decide ((gi o 0) = 1)) then
      bif (decide ((gi o 0) = 0)) then
        some (decide ((gi o 3) = 0))
      else bif (decide ((gi o 0) = 1)) then
        some (decide ((gi o 3) = 0))
      else bif (decide ((gi o 0) = 3)) then
        some (decide ((gi o 3) = 0))
      else bif (decide ((gi o 0) = 4)) then
        some (decide ((gi o 3) ≤ 1))
      else bif (decide ((gi o 0) = 2)) then
        some true
      else some (decide ((1 : Int) ≤ (gi o 3)))
    else bif (decide ((gi o 0) = 2)) then
      bif (decide ((gi o 0) = 0)) then
        some (decide ((gi o 3) = 0))
      else bif (decide ((gi o 0) = 1)) then
        some (decide ((gi o 3) = 0))
      else bif (decide ((gi o 0) = 3)) then
        some (decide ((gi o 3) = 0))
      else bif (decide ((gi o 0) = 4)) then
        some (decide ((gi o 3) ≤ 1))
      else bif (decide ((gi o 0) = 2)) then
        some true
      else some (decide ((1 : Int) ≤ (gi o 3)))
    else bif (!(decide ((gi o 0) = 6))) then
      bif (decide ((0 : Int) < (((gl o 2).length : Nat) : Int))) then
        some false
      else bif (decide ((gi o 0) = 0)) then
        some (decide ((gi o 3) = 0))
      else bif (decide ((gi o 0) = 1)) then
        some (decide ((gi o 3) = 0))
      else bif (decide ((gi o 0) = 3)) then
        some (decide ((gi o 3) = 0))
      else bif (decide ((gi o 0) = 4)) then
        some (decide ((gi o 3) ≤ 1))
      else bif (decide ((gi o 0) = 2)) then
        some true
      else some (decide ((1 : Int) ≤ (gi o 3)))
    else bif (decide ((gi o 0) = 0)) then
      some (decide ((gi o 3) = 0))
    else bif (decide ((gi o 0) = 1)) then
      some (decide ((gi o 3) = 0))
    else bif (decide ((gi o 0) = 3)) then
      some (decide ((gi o 3) = 0))
    else bif (decide ((gi o 0) = 4)) then
      some (decide ((gi o 3) ≤ 1))
    else bif (decide ((gi o 0) = 2)) then
      some true
    else some (decide ((1 : Int) ≤ (gi o 3)))
  else bif (!(decide ((gi o 0) = 7))) then
    bif (decide ((0 : Int) < (((gl o 1).length : Nat) : Int))) then
      some false
    else bif (decide ((gi o 0) = 1)) then
      bif (decide ((gi o 0) = 0)) then
        some (decide ((gi o 3) = 0))
      else bif (decide ((gi o 0) = 1)) then
        some (decide ((gi o 3) = 0))
      else bif (decide ((gi o 0) = 3)) then
        some (decide ((gi o 3) = 0))
      else bif (decide ((gi o 0) = 4)) then
        some (decide ((gi o 3) ≤ 1))
      else bif (decide ((gi o 0) = 2)) then
        some true
      else some (decide ((1 : Int) ≤ (gi o 3)))
    else bif (decide ((gi o 0) = 2)) then
      bif (decide ((gi o 0) = 0)) then
        some (decide ((gi o 3) = 0))
      else bif (decide ((gi o 0) = 1)) then
        some (decide ((gi o 3) = 0))
      else bif (decide ((gi o 0) = 3)) then
        some (decide ((gi o 3) = 0))
      else bif (decide ((gi o 0) = 4)) then
        some (decide ((gi o 3) ≤ 1))
      else bif (decide ((gi o 0) = 2)) then
        some true
      else some (decide ((1 : Int) ≤ (gi o 3)))
    else bif (!(decide ((gi o 0) = 6))) then
      bif (decide ((0 : Int) < (((gl o 2).length : Nat) : Int))) then
        some false
      else bif (decide ((gi o 0) = 0)) then
        some (decide ((gi o 3) = 0))
      else bif (decide ((gi o 0) = 1)) then
        some (decide ((gi o 3) = 0))
      else bif (decide ((gi o 0) = 3)) then
        some (decide ((gi o 3) = 0))
      else bif (decide ((gi o 0) = 4)) then
        some (decide ((gi o 3) ≤ 1))
      else bif (decide ((gi o 0) = 2)) then
        some true
      else some (decide ((1 : Int) ≤ (gi o 3)))
    else bif (decide ((gi o 0) = 0)) then
      some (decide ((gi o 3) = 0))
    else bif (decide ((gi o 0) = 1)) then
      some (decide ((gi o 3) = 0))
    else bif (decide ((gi o 0) = 3)) then
      some (decide ((gi o 3) = 0))
    else bif (decide ((gi o 0) = 4)) then
      some (decide ((gi o 3) ≤ 1))
    else bif (decide ((gi o 0) = 2)) then
      some true
    else some (decide ((1 : Int) ≤ (gi o 3)))
  else bif (decide ((gi o 0) = 1)) then
    bif (decide ((gi o 0) = 0)) then
      some (decide ((gi o 3) = 0))
    else bif (decide ((gi o 0) = 1)) then
      some (decide ((gi o 3) = 0))
    else bif (decide ((gi o 0) = 3)) then
      some (decide ((gi o 3) = 0))
    else bif (decide ((gi o 0) = 4)) then
      some (decide ((gi o 3) ≤ 1))
    else bif (decide ((gi o 0) = 2)) then
      some true
    else some (decide ((1 : Int) ≤ (gi o 3)))
  else bif (decide ((gi o 0) = 2)) then
    bif (decide ((gi o 0) = 0)) then
      some (decide ((gi o 3) = 0))
    else bif (decide ((gi o 0) = 1)) then
      some (decide ((gi o 3) = 0))
    else bif (decide ((gi o 0) = 3)) then
      some (decide ((gi o 3) = 0))
    else bif (decide ((gi o 0) = 4)) then
      some (decide ((gi o 3) ≤ 1))
    else bif (decide ((gi o 0) = 2)) then
      some true
    else some (decide ((1 : Int) ≤ (gi o 3)))
  else bif (!(decide ((gi o 0) = 6))) then
    bif (decide ((0 : Int) < (((gl o 2).length : Nat) : Int))) then
      some false
    else bif (decide ((gi o 0) = 0)) then
      some (decide ((gi o 3) = 0))
    else bif (decide ((gi o 0) = 1)) then
      some (decide ((gi o 3) = 0))
    else bif (decide ((gi o 0) = 3)) then
      some (decide ((gi o 3) = 0))
    else bif (decide ((gi o 0) = 4)) then
      some (decide ((gi o 3) ≤ 1))
    else bif (decide ((gi o 0) = 2)) then
      some true
    else some (decide ((1 : Int) ≤ (gi o 3)))
  else bif (decide ((gi o 0) = 0)) then
    some (decide ((gi o 3) = 0))
  else bif (decide ((gi o 0) = 1)) then
    some (decide ((gi o 3) = 0))
  else bif (decide ((gi o 0) = 3)) then
    some (decide ((gi o 3) = 0))
  else bif (decide ((gi o 0) = 4)) then
    some (decide ((gi o 3) ≤ 1))
  else bif (decide ((gi o 0) = 2)) then
    some true
  else some (decide ((1 : Int) ≤ (gi o 3)))
def Zc6 (c : V) : Option (Bool) :=
  bif (decide ((gi c 0) = (-1))) then
    bif (decide ((gi c 1) = 0)) then
      bif (decide ((gi c 2) = 0)) then
        Option.bind (spec_OpOk (V.agg [(V.int .i64 (gi c 2)), (V.inl Zc (gl c 3)), (V.inl Zc (gl c 4)), (V.int .i64 (gi c 5))])) fun r403 =>
        some r403
      else some false
    else some false
  else bif (decide ((0 : Int) ≤ (gi c 0))) then
    bif (decide ((gi c 0) < 4)) then
      bif (decide ((1 : Int) ≤ (gi c 1))) then
        bif (decide ((gi c 1) ≤ 1000000)) then
          Option.bind (spec_OpOk (V.agg [(V.int .i64 (gi c 2)), (V.inl Zc (gl c 3)), (V.inl Zc (gl c 4)), (V.int .i64 (gi c 5))])) fun r404 =>
          some r404
        else some false
      else some false
    else some false
  else some false
def ZbV (a : List V) (b : List V) : Bool :=
  (Zbb (a.map Zan) (b.map Zan))
def Zal : Nat → Int → V → V → Option (Nat × Bool × V × V)
  | 0, _, _, _ => none
  | k_ + 1, i5, b0, b1 =>
    bif (decide (i5 < (((gl b0 1).length : Nat) : Int))) then
      bif (Zm i5 ((gl b0 1).length)) then
        bif (Zm i5 ((gl b1 1).length)) then
          bif (!(ZbV (gl (rd (gl b0 1) i5.toNat) 0) (gl (rd (gl b1 1) i5.toNat) 0))) then
            some (0, false, (Za b0), (Za b1))
          else bif (!(ZbV (gl (rd (gl b0 1) i5.toNat) 1) (gl (rd (gl b1 1) i5.toNat) 1))) then
            some (0, false, (Za b0), (Za b1))
          else bif (!(decide ((gi (rd (gl b0 1) i5.toNat) 2) = (gi (rd (gl b1 1) i5.toNat) 2)))) then
            some (0, false, (Za b0), (Za b1))
          else bif (!(decide ((gi (rd (gl b0 1) i5.toNat) 3) = (gi (rd (gl b1 1) i5.toNat) 3)))) then
            some (0, false, (Za b0), (Za b1))
          else Zal k_ (IntKind.i64.wrap (i5 + 1)) (Za b0) (Za b1)
        else none
      else none
    else some (1, false, (Za b0), (Za b1))
def Zab : Nat → Int → V → V → Option (Nat × Bool × V × V)
  | 0, _, _, _ => none
  | k_ + 1, i8, b0, b1 =>
    bif (decide (i8 < (((gl b0 2).length : Nat) : Int))) then
      bif (Zm i8 ((gl b0 2).length)) then
        bif (Zm i8 ((gl b1 2).length)) then
          bif (!(ZbV (gl (rd (gl b0 2) i8.toNat) 0) (gl (rd (gl b1 2) i8.toNat) 0))) then
            some (0, false, (Za b0), (Za b1))
          else bif (Zm i8 ((gl b0 2).length)) then
            bif (Zm i8 ((gl b1 2).length)) then
              bif (!(decide ((gi (rd (gl b0 2) i8.toNat) 1) = (gi (rd (gl b1 2) i8.toNat) 1)))) then
                some (0, false, (Za b0), (Za b1))
              else Zab k_ (IntKind.i64.wrap (i8 + 1)) (Za b0) (Za b1)
            else none
          else none
        else none
      else none
    else some (1, false, (Za b0), (Za b1))
def Zac : Nat → Int → V → V → Option (Nat × Bool × V × V)
  | 0, _, _, _ => none
  | k_ + 1, i9, b0, b1 =>
    bif (decide (i9 < (((gl b0 4).length : Nat) : Int))) then
      bif (Zm i9 ((gl b0 4).length)) then
        bif (Zm i9 ((gl b1 4).length)) then
          bif (!((decide ((gi (rd (gl b0 4) i9.toNat) 0) = (gi (rd (gl b1 4) i9.toNat) 0))) && ((gb (rd (gl b0 4) i9.toNat) 1) == (gb (rd (gl b1 4) i9.toNat) 1)))) then
            some (0, false, (Za b0), (Za b1))
          else Zac k_ (IntKind.i64.wrap (i9 + 1)) (Za b0) (Za b1)
        else none
      else none
    else some (1, false, (Za b0), (Za b1))
def Zad : Nat → Int → V → V → Option (Nat × Bool)
  | 0, _, _, _ => none
  | k_ + 1, i10, b0, b1 =>
    bif (decide (i10 < (((gl b0 5).length : Nat) : Int))) then
      bif (Zm i10 ((gl b0 5).length)) then
        bif (Zm i10 ((gl b1 5).length)) then
          bif (!((decide ((gi (rd (gl b0 5) i10.toNat) 0) = (gi (rd (gl b1 5) i10.toNat) 0))) && ((decide ((gi (rd (gl b0 5) i10.toNat) 1) = (gi (rd (gl b1 5) i10.toNat) 1))) && ((decide ((gi (rd (gl b0 5) i10.toNat) 2) = (gi (rd (gl b1 5) i10.toNat) 2))) && (decide ((gi (rd (gl b0 5) i10.toNat) 3) = (gi (rd (gl b1 5) i10.toNat) 3))))))) then
            some (0, false)
          else Zad k_ (IntKind.i64.wrap (i10 + 1)) (Za b0) (Za b1)
        else none
      else none
    else some (1, false)
def Zc7 (a : V) (b : V) : Option (Bool) :=
  bif (!(decide ((gi a 0) = (gi b 0)))) then
    some false
  else bif (!(decide ((gi a 3) = (gi b 3)))) then
    some false
  else bif (!(decide ((((gl a 1).length : Nat) : Int) = (((gl b 1).length : Nat) : Int)))) then
    some false
  else bif (!(decide ((((gl a 2).length : Nat) : Int) = (((gl b 2).length : Nat) : Int)))) then
    some false
  else bif (!(decide ((((gl a 4).length : Nat) : Int) = (((gl b 4).length : Nat) : Int)))) then
    some false
  else bif (!(decide ((((gl a 5).length : Nat) : Int) = (((gl b 5).length : Nat) : Int)))) then
    some false
  else Option.bind (Zal (((((gl (Za a) 1).length : Nat) : Int) - 0).toNat + 1) 0 (Za a) (Za b)) fun r409 =>
  bif (Nat.beq r409.1 0) then
    some r409.2.1
  else Option.bind (Zab (((((gl (Za r409.2.2.1) 2).length : Nat) : Int) - 0).toNat + 1) 0 (Za r409.2.2.1) (Za r409.2.2.2)) fun r410 =>
  bif (Nat.beq r410.1 0) then
    some r410.2.1
  else Option.bind (Zac (((((gl (Za r410.2.2.1) 4).length : Nat) : Int) - 0).toNat + 1) 0 (Za r410.2.2.1) (Za r410.2.2.2)) fun r411 =>
  bif (Nat.beq r411.1 0) then
    some r411.2.1
  else Option.bind (Zad (((((gl (Za r411.2.2.1) 5).length : Nat) : Int) - 0).toNat + 1) 0 (Za r411.2.2.1) (Za r411.2.2.2)) fun r412 =>
  bif (Nat.beq r412.1 0) then
    some r412.2
  else some true
def Zcb (a : V) (b : V) : Option (Bool) :=
  Option.bind (Zc7 (Za a) (V.agg [(V.int .i64 (gi a 0)), (V.inl Zg (gl b 1)), (V.inl Zf (gl b 2)), (V.int .i64 (gi b 3)), (V.inl Zd (gl b 4)), (V.inl Ze (gl a 5))])) fun r413 =>
  some r413
def ZbW (code : List V) : Option (Bool) :=
  Option.bind (Zc4 code) fun r384 =>
  Option.bind (Zch (Za r384.1) (Zn r384.2)) fun r385 =>
  Option.bind (ZdE (Za r384.1)) fun r396 =>
  bif (!r396) then
    bif (decide ((gi r385.2 1) = 0)) then
      bif (decide ((((gl r385.1 1).length : Nat) : Int) = 0)) then
        Option.bind (Zbi (V.agg [(V.int .i64 0), (V.inl Zg []), (V.inl Zf []), (V.int .i64 0), (V.inl Zd []), (V.inl Ze [])])) fun r397 =>
        some r397
      else some false
    else some false
  else Option.bind (Zc6 (Zn r384.2)) fun r405 =>
  bif (!r405) then
    bif (decide ((gi r385.2 1) = 0)) then
      bif (decide ((((gl r385.1 1).length : Nat) : Int) = 0)) then
        Option.bind (Zbi (V.agg [(V.int .i64 0), (V.inl Zg []), (V.inl Zf []), (V.int .i64 0), (V.inl Zd []), (V.inl Ze [])])) fun r406 =>
        some r406
      else some false
    else some false
  else bif (decide ((1000000 : Int) ≤ (gi r384.1 0))) then
    bif (decide ((gi r385.2 1) = 0)) then
      bif (decide ((((gl r385.1 1).length : Nat) : Int) = 0)) then
        Option.bind (Zbi (V.agg [(V.int .i64 0), (V.inl Zg []), (V.inl Zf []), (V.int .i64 0), (V.inl Zd []), (V.inl Ze [])])) fun r407 =>
        some r407
      else some false
    else some false
  else Option.bind (Zbi (Za r385.1)) fun r408 =>
  bif (!r408) then
    some false
  else bif (!(decide ((gi r385.1 0) = (IntKind.i64.wrap ((gi r384.1 0) + 1))))) then
    some false
  else bif (decide ((gi r385.1 0) < (gi r385.2 1))) then
    some false
  else bif (decide ((gi r385.2 1) < 1)) then
    some false
  else bif (decide ((gi r385.2 0) = 0)) then
    bif (decide ((gi r385.2 1) = (gi r385.1 0))) then
      some true
    else Option.bind (Zcb (Za r384.1) (Za r385.1)) fun r414 =>
    some r414
  else Option.bind (Zcb (Za r384.1) (Za r385.1)) fun r415 =>
  some r415
end Go.Eng.R
open Go Go.Eng Go.Proofs
namespace Go.Eng.R
theorem tab_ok : Zx Try.prog tab := tabB_spec (by kernel_rfl)
theorem mixed : Try.prog.follows .mixedOrders = true := by kernel_rfl
theorem base : Base Try.prog tab := ⟨tab_ok, mixed⟩
def l0 (x : V) : List V := [(V.inl Zc (gl x 0)), (V.int .i64 (gi x 1)), (V.int .i64 (gi x 2))]
def h1 (x : V) : V := V.agg [(V.int .i64 (gi x 0)), (V.rr Zc true (gl x 1)), (V.inl Zc (gl x 2)), (V.int .i64 (gi x 3))]
def q2 : List S1 := [(.int .i64), (.inl Zg), (.inl Zf), (.int .i64), (.inl Zd), (.inl Ze)]
def l3 (x : V) : List V := [(V.int .i64 (gi x 0)), (V.sl 1 Zg 0 none), (V.sl 2 Zf 0 none), (V.int .i64 (gi x 3)), (V.sl 3 Zd 0 none), (V.sl 4 Ze 0 none)]
def q4 : List S1 := [(.int .i64), (.sl 1 Zg), (.sl 2 Zf), (.int .i64), (.sl 3 Zd), (.sl 4 Ze)]
def q5 : List S1 := [(.int .i64), (.rr Zg false), (.rr Zf false), (.int .i64), (.rr Zd true), (.rr Ze true)]
def l6 (x : V) : List V := [(V.int .i64 (gi x 0)), (V.rr Zg false (gl x 1)), (V.rr Zf false (gl x 2)), (V.int .i64 (gi x 3)), (V.rr Zd true (gl x 4)), (V.rr Ze true (gl x 5))]
def q7 : List S1 := [.dead, (.rr Zg false), (.rr Zf false), .dead, (.rr Zd true), (.rr Ze true)]
def q8 : List S1 := [(.int .i64), (.sl 2 Zg), (.sl 3 Zf), (.int .i64), (.sl 4 Zd), (.sl 5 Ze)]
def q9 : List S1 := [(.int .i64), (.inl Zc), (.inl Zc), (.int .i64)]
def l10 (x : V) : List V := [(V.int .i64 (gi x 0)), (V.sl 4 Zg 0 none), (V.sl 5 Zf 0 none), (V.int .i64 (gi x 3)), (V.sl 6 Zd 0 none), (V.sl 7 Ze 0 none)]
def l11 (x : V) : List V := [(V.int .i64 (gi x 0)), (V.int .i64 (gi x 1)), (V.int .i64 (gi x 2)), (V.inl Zc (gl x 3)), (V.inl Zc (gl x 4)), (V.int .i64 (gi x 5))]
def l12 (x : V) : List V := [(V.int .i64 (gi x 0)), (V.int .i64 (gi x 1))]
def q13 : List S1 := [(.int .i64), (.sl 4 Zg), (.sl 5 Zf), (.int .i64), (.sl 6 Zd), (.sl 7 Ze)]
def q14 : List S1 := [(.int .i64), (.int .i64), (.int .i64), (.inl Zc), (.inl Zc), (.int .i64)]
def l15 (x : V) : List V := [(V.int .i64 (gi x 0)), (V.sl 3 Zg 0 none), (V.sl 4 Zf 0 none), (V.int .i64 (gi x 3)), (V.sl 5 Zd 0 none), (V.sl 6 Ze 0 none)]
def l16 (x : V) : List V := [(V.int .i64 (gi x 0)), (V.sl 7 Zg 0 none), (V.sl 8 Zf 0 none), (V.int .i64 (gi x 3)), (V.sl 9 Zd 0 none), (V.sl 10 Ze 0 none)]
def q17 : List S1 := [(.int .i64), (.sl 3 Zg), (.sl 4 Zf), (.int .i64), (.sl 5 Zd), (.sl 6 Ze)]
def q18 : List S1 := [(.int .i64), (.sl 7 Zg), (.sl 8 Zf), (.int .i64), (.sl 9 Zd), (.sl 10 Ze)]
def h19 (x : V) : V := V.agg [(V.int .i64 (gi x 0)), (V.rr Zg false (gl x 1)), (V.rr Zf false (gl x 2)), (V.int .i64 (gi x 3)), (V.rr Zd true (gl x 4)), (V.rr Ze true (gl x 5))]
def h20 (x : V) : V := V.agg [(V.int .i64 (gi x 0)), (V.int .i64 (gi x 1)), (V.int .i64 (gi x 2)), (V.rr Zc true (gl x 3)), (V.inl Zc (gl x 4)), (V.int .i64 (gi x 5))]
def q21 : List S1 := [.dead, .dead, .dead, (.rr Zc true), (.inl Zc)]
def q22 : List S1 := [(.inl Zc), (.inl Zc), (.int .i64), (.int .i64)]
def l23 (x : V) : List V := [(V.int .i64 (gi x 0)), (V.inl Zg (gl x 1)), (V.inl Zf (gl x 2)), (V.int .i64 (gi x 3)), (V.inl Zd (gl x 4)), (V.inl Ze (gl x 5))]
def h24 (x : V) : V := V.agg [(V.int .i64 (gi x 0)), (V.int .i64 (gi x 1)), (V.int .i64 (gi x 2)), (V.rr Zc true (gl x 3)), (V.rr Zc true (gl x 4)), (V.int .i64 (gi x 5))]
def q25 : List S1 := [.dead, .dead, .dead, (.rr Zc true), (.rr Zc true)]
def l26 (x : V) : List V := [(V.int .i64 (gi x 0)), (V.sl 2 Zg 0 none), (V.sl 3 Zf 0 none), (V.int .i64 (gi x 3)), (V.sl 4 Zd 0 none), (V.sl 5 Ze 0 none)]
def l27 (x : V) : List V := [(V.int .i64 (gi x 0)), (V.sl 6 Zg 0 none), (V.sl 7 Zf 0 none), (V.int .i64 (gi x 3)), (V.sl 8 Zd 0 none), (V.sl 9 Ze 0 none)]
def q28 : List S1 := [(.int .i64), (.sl 6 Zg), (.sl 7 Zf), (.int .i64), (.sl 8 Zd), (.sl 9 Ze)]
def q29 : List S1 := [(.int .i64), (.sl 3 Zg), (.sl 2 Zf), (.int .i64), (.sl 4 Zd), (.sl 5 Ze)]
def q30 : List S1 := [(.int .i64), (.int .i64), (.int .i64), (.int .i64)]
end Go.Eng.R
open Go Go.Eng Go.Proofs
namespace Go.Eng.R
set_option maxHeartbeats 4000000 in
set_option maxRecDepth 1000000 in
theorem cmp29 : CmpOk Try.prog 29 := by
  intro v1 v2 c w h
  have hcall : (callFunc 51 #[v1, v2]).run Try.prog w = .ok (.value (.int .i64 c)) w := by
    rw [run_callFunc_extern Try.func51 (by kernel_rfl) (by kernel_rfl) (by kernel_rfl) (e := Extern.BytealgCompare.compare) (by kernel_rfl), h]
    rfl
  clear h
  go_enter Try.func29, Try.ntmps29
  go_wp2_with (simp only [hcall])
  all_goals (go_ret; exact ⟨rfl, .refl _ _⟩)
theorem inf55 : (Try.prog.info? 55).map (·.size) = some 4 := by kernel_rfl
theorem sz55 : ∀ w, (Go.sizeOf 55).run Try.prog w = .ok 4 w := fun w => by kernel_rfl
theorem zv55 : ∀ w, (zeroValue 55).run Try.prog w = .ok (Value.agg #[.slice none 0 0, .slice none 0 0, .int .i64 0, .int .i64 0]) w := fun w => by kernel_rfl
theorem info55 : (Try.prog.info? 55).map (fun i => (i.zero, i.size, i.bytes)) = some (some (Value.agg #[.slice none 0 0, .slice none 0 0, .int .i64 0, .int .i64 0]), 4, 64) := by kernel_rfl
set_option maxHeartbeats 4000000 in
set_option maxRecDepth 1000000 in
theorem ins70_room (w : World) (g n cap i h caph : Nat) (cur curh : Array Value) (hg : w.heap[g]? = some (.cells cur 55 (0, 0))) (hs : cur.size = cap * 4) (hcm : cap ≤ maxLen) (h1 : OneL (cur.toList.take (n * 4)))
    (hh : w.heap[h]? = some (.cells curh 55 (0, 0))) (hhs : curh.size = caph * 4) (hc1 : 1 ≤ caph) (hne : h ≠ g) (h1h : OneL (curh.toList.take 4)) (hi : i < n) (hroom : n + 1 ≤ cap) :
    Calls Try.prog 70 #[.slice (some ⟨g, 0, none⟩) n cap, .int .i64 i, .slice (some ⟨h, 0, none⟩) 1 caph] w fun e w' => e = .returned (.slice (some ⟨g, 0, none⟩) (n + 1) cap) ∧
      ∃ cur' : Array Value, w'.heap[g]? = some (.cells cur' 55 (0, 0)) ∧ cur'.size = cap * 4 ∧ cur'.toList.take ((n + 1) * 4) = (cur.toList.take (n * 4)).take (i * 4) ++ curh.toList.take 4 ++ (cur.toList.take (n * 4)).drop (i * 4) ∧ KeptBut [g] w w' := by
  have hcmx : cap ≤ 9223372036854775807 := hcm
  have hz2 : ¬ ((i : Int) = (n : Int)) := by omega
  have hov : ∀ lb cb, (callFunc 78 #[.slice (some ⟨h, 0, none⟩) 1 caph, .slice (some ⟨g, (i + 1) * 4, none⟩) lb cb]).run Try.prog w = .ok (.value (.bool false)) w := fun lb cb => by
    rw [run_callFunc_extern Try.func78 (by kernel_rfl) (by kernel_rfl) (by kernel_rfl) (e := Extern.SlicesOverlaps.overlaps #[23, 23] #[4]) (by kernel_rfl),
      Lib.run_overlaps_apart w 23 4 55 Try.underlying23 4 sz55 ⟨h, 0, none⟩ ⟨g, (i + 1) * 4, none⟩ 1 caph lb cb hne 55 55 curh.size cur.size (by simp [World.shape?, hh]) (by simp [World.shape?, hg]) (by omega) (by simp [World.frozen?, hh]) (by simp [World.frozen?, hh])]
    rfl
  obtain ⟨tl, htl⟩ : ∃ tl, tl = (cur.toList.drop (i * 4)).take ((n - i) * 4) := ⟨_, rfl⟩
  have htll : tl.length = (n - i) * 4 := by rw [htl]; simp; omega
  have htl1 : ∀ v ∈ tl, v.oneCell' = true := fun v hv => h1 v (by
    rw [htl, show (cur.toList.drop (i * 4)).take ((n - i) * 4) = (cur.toList.take (n * 4)).drop (i * 4) from by rw [List.drop_take]; congr 1; omega] at hv
    exact List.mem_of_mem_drop hv)
  obtain ⟨c1, hc1'⟩ : ∃ c1, c1 = (cur.toList.take ((i + 1) * 4) ++ tl ++ cur.toList.drop ((i + 1) * 4 + tl.length)).toArray := ⟨_, rfl⟩
  have hc1s : c1.size = cap * 4 := by rw [hc1']; simp; omega
  have hcp1 : ∀ ty dc sc, (Builtin.copy_ #[23, 23] ty #[.slice (some ⟨g, (i + 1) * 4, none⟩) (n + 1 - (i + 1)) dc, .slice (some ⟨g, i * 4, none⟩) (n + 1 - i) sc]).run Try.prog w.drew = .ok (goInt (Nat.min (n + 1 - i) (n + 1 - (i + 1)))) (w.drew.setRow g c1) := fun ty dc sc => by
    rw [hc1']
    exact Zce w.drew 23 23 ty 55 4 g ((i + 1) * 4) (n + 1 - (i + 1)) dc ⟨g, i * 4, none⟩ (n + 1 - i) sc cur 55 tl Try.underlying23 inf55 hg (by rw [htll]; simp only [Nat.min_def]; split <;> omega) (by rw [htl]; exact ZaX (w := w.drew) hg (by omega)) (by rw [htll]; omega) htl1
  obtain ⟨W1, hW1⟩ : ∃ W1, W1 = w.drew.setRow g c1 := ⟨_, rfl⟩
  rw [← hW1] at hcp1
  have hg1 : W1.heap[g]? = some (.cells c1 55 (0, 0)) := by rw [hW1]; exact setRow_heap _ g cur _ 55 _ hg
  have hh1 : W1.heap[h]? = some (.cells curh 55 (0, 0)) := by
    rw [hW1, ← hh]
    exact (KeptBut.setRow (w := w.drew) (F := [g]) (by simp) c1).block h (by have := (Array.getElem?_eq_some_iff.1 hh).1; exact this) (by simp [hne])
  obtain ⟨c2, hc2⟩ : ∃ c2, c2 = (c1.toList.take (i * 4) ++ curh.toList.take 4 ++ c1.toList.drop (i * 4 + (curh.toList.take 4).length)).toArray := ⟨_, rfl⟩
  have hyl : (curh.toList.take 4).length = 4 := by simp; omega
  have hcp2 : ∀ ty dc, (Builtin.copy_ #[23, 23] ty #[.slice (some ⟨g, i * 4, none⟩) (n + 1 - i) dc, .slice (some ⟨h, 0, none⟩) 1 caph]).run Try.prog W1 = .ok (goInt (Nat.min 1 (n + 1 - i))) (W1.setRow g c2) := fun ty dc => by
    rw [hc2]
    exact Zce W1 23 23 ty 55 4 g (i * 4) (n + 1 - i) dc ⟨h, 0, none⟩ 1 caph c1 55 (curh.toList.take 4) Try.underlying23 inf55 hg1 (by rw [hyl]; simp only [Nat.min_def]; split <;> omega) (by have := ZaX (o := 0) (m := 4) hh1 (by omega); simpa using this) (by rw [hyl]; omega) h1h
  have hpost : ∃ cur' : Array Value, (W1.setRow g c2).heap[g]? = some (.cells cur' 55 (0, 0)) ∧ cur'.size = cap * 4 ∧ cur'.toList.take ((n + 1) * 4) = (cur.toList.take (n * 4)).take (i * 4) ++ curh.toList.take 4 ++ (cur.toList.take (n * 4)).drop (i * 4) ∧ KeptBut [g] w (W1.setRow g c2) := by
    refine ⟨c2, setRow_heap W1 g c1 _ 55 _ hg1, ?_, ?_, ?_⟩
    · rw [hc2]; simp; omega
    · have q := ins_list (cur := cur.toList) (y := curh.toList.take 4) (tl := tl) (c1 := c1.toList) (c2 := c2.toList) (a := i * 4) (s := 4) (by simp; omega) hyl (by rw [hc1', show i * 4 + 4 = (i + 1) * 4 from by omega]) (by rw [hc2, hyl])
      rw [show (n + 1) * 4 = i * 4 + 4 + tl.length from by rw [htll]; omega, q, htl, show (n - i) * 4 = n * 4 - i * 4 from by omega, mid_eq, List.take_take, Nat.min_eq_left (by omega)]
    · rw [hW1]; exact ((KeptBut.refl _ w).drew.trans (KeptBut.setRow (by simp) _)).trans (KeptBut.setRow (by simp) _)
  have hw1 : IntKind.i64.wrap ((i : Int) + 1) = (i : Int) + 1 := by rw [IntKind.wrap_i64]; omega
  have hw2 : IntKind.i64.wrap ((n : Int) + 1) = (n : Int) + 1 := by rw [IntKind.wrap_i64]; omega
  have hb1 : ¬ ((cap : Int) < (n : Int) + 1) := by omega
  have hb2 : ¬ (cap = i + 1) := by omega
  have hb3 : (i : Int) ≤ (n : Int) := by omega
  have hb4 : ¬ (cap = i) := by omega
  have hb5 : (i : Int) ≤ (n : Int) + 1 := by omega
  have hb6 : (i : Int) + 1 ≤ (n : Int) + 1 := by omega
  have hb7 : (n : Int) + 1 ≤ (cap : Int) := by omega
  have hb8 : (0 : Int) ≤ (i : Int) + 1 := by omega
  have hb9 : (0 : Int) ≤ (n : Int) + 1 := by omega
  have ht1 : ((i : Int) + 1).toNat = i + 1 := by omega
  have ht2 : ((n : Int) + 1).toNat = n + 1 := by omega
  clear hc2 hW1 hc1' htl h1 h1h
  go_enter Try.func70, Try.ntmps70
  go_wp2_with (simp only [hov])
  go_region_law (refine ZdK rfl _ _ 23 23 rfl (.slice (some ⟨g, (i + 1) * 4, none⟩) (n + 1 - (i + 1)) (cap - (i + 1))) (.slice (some ⟨g, i * 4, none⟩) (n + 1 - i) (cap - i)) (by simp [Act.eval, Act.put]) (by simp [Act.eval, Act.put]) (hcp1 _ _ _) ?_)
  go_wp2_with (at_builtin; refine Zde rfl _ _ 23 23 rfl _ _ rfl rfl (hcp2 _ _) ?_)
  go_ret
  exact ⟨rfl, hpost⟩
set_option maxHeartbeats 4000000 in
set_option maxRecDepth 1000000 in
theorem ins70_grow (w : World) (g n cap i h caph : Nat) (cur curh : Array Value) (hg : w.heap[g]? = some (.cells cur 55 (0, 0))) (hs : cur.size = cap * 4) (hcm : cap ≤ maxLen) (h1 : OneL (cur.toList.take (n * 4)))
    (hh : w.heap[h]? = some (.cells curh 55 (0, 0))) (hhs : curh.size = caph * 4) (hc1 : 1 ≤ caph) (h1h : OneL (curh.toList.take 4)) (hi : i < n) (hn : n ≤ cap) (hroom : cap < n + 1) (hbig : (n + 1) * 64 ≤ 140737488355328) :
    Calls Try.prog 70 #[.slice (some ⟨g, 0, none⟩) n cap, .int .i64 i, .slice (some ⟨h, 0, none⟩) 1 caph] w fun e w' => ∃ cap', e = .returned (.slice (some ⟨w.heap.size, 0, none⟩) (n + 1) cap') ∧ n + 1 ≤ cap' ∧ cap' ≤ maxLen ∧
      ∃ cur' : Array Value, w'.heap[w.heap.size]? = some (.cells cur' 55 (0, 0)) ∧ cur'.size = cap' * 4 ∧ cur'.toList.take ((n + 1) * 4) = (cur.toList.take (n * 4)).take (i * 4) ++ curh.toList.take 4 ++ (cur.toList.take (n * 4)).drop (i * 4) ∧ KeptBut [] w w' := by
  have hcmx : cap ≤ 9223372036854775807 := hcm
  have hz2 : ¬ ((i : Int) = (n : Int)) := by omega
  have hgw : g < w.heap.size := (Array.getElem?_eq_some_iff.1 hg).1
  have hhw : h < w.heap.size := (Array.getElem?_eq_some_iff.1 hh).1
  obtain ⟨i0, hi0, hz0, hzs, hzb⟩ := info_parts info55
  have hkk : (n : Int) + 1 - (i : Int) = ((n + 1 - i : Nat) : Int) := by omega
  have hik : i + (n + 1 - i) = n + 1 := by omega
  obtain ⟨olds, hol⟩ : ∃ olds, olds = cur.toList.take (i * 4) := ⟨_, rfl⟩
  have holl : olds.length = i * 4 := by rw [hol]; simp; omega
  have hold : (Builtin.firstCells i0.size i (.slice (some ⟨g, 0, none⟩) i cap)).run Try.prog w.drew = .ok olds.toArray w.drew := by
    rw [hzs]
    refine run_firstCells_some w.drew 4 i ⟨g, 0, none⟩ i cap olds holl fun j v hj => ?_
    have := ZaX (o := 0) (m := i * 4) (w := w.drew) hg (by omega) j v (by rw [List.drop_zero, ← hol]; exact hj)
    exact this
  obtain ⟨G, hG⟩ : ∃ G, G = grownCap w (n + 1) cap 55 := ⟨_, rfl⟩
  obtain ⟨ROW, hROW⟩ : ∃ ROW : Array Value, ROW = olds.toArray ++ Builtin.zeroCells (Value.agg #[.slice none 0 0, .slice none 0 0, .int .i64 0, .int .i64 0]).cells (n + 1 - i) ++ Builtin.zeroCells (Value.agg #[.slice none 0 0, .slice none 0 0, .int .i64 0, .int .i64 0]).cells (G - (n + 1)) := ⟨_, rfl⟩
  have hrz : ∀ ty, (Builtin.append_ #[23, 3] ty #[.slice (some ⟨g, 0, none⟩) i cap, .int .i64 ((n : Int) + 1 - (i : Int))]).run Try.prog w =
      .ok (.slice (some ⟨w.heap.size, 0, none⟩) (n + 1) G) (w.drew.alloc (.cells ROW 55)) := fun ty => by
    have h := Lib.run_append_grow_zeros w 23 3 ty 55 i0 _ .i64 .i64 Try.underlying23 Try.underlying3 hi0 hz0 (some ⟨g, 0, none⟩) i cap olds hold (n + 1 - i) (by omega) (by omega) (by omega) (by omega) (by rw [hzb]; omega) (by rw [hzb, hik]; exact growslice_fits hroom hbig)
    rw [hik, ← hG, ← hROW] at h
    rw [hkk]
    exact h
  have hGn : n + 1 ≤ G := by rw [hG]; exact grownCap_ge w _ _ _
  have hGm : G ≤ maxLen := by rw [hG]; exact grownCap_le_maxLen w (n + 1) cap 55 (by unfold maxLen; omega)
  have hG63 : G ≤ 9223372036854775807 := hGm
  have hRs : ROW.size = G * 4 := by
    rw [hROW]; simp only [Array.size_append, List.size_toArray, size_zeroCells, holl]
    rw [show (Value.agg #[.slice none 0 0, .slice none 0 0, .int .i64 0, .int .i64 0]).cells.size = 4 from rfl]; omega
  obtain ⟨W1, hW1⟩ : ∃ W1, W1 = w.drew.alloc (.cells ROW 55) := ⟨_, rfl⟩
  rw [← hW1] at hrz
  have hN1 : W1.heap[w.heap.size]? = some (.cells ROW 55 (0, 0)) := by rw [hW1]; exact heap_alloc_new w.drew _
  have hk1 : KeptBut [] w W1 := by rw [hW1]; exact (KeptBut.refl _ w).drew.alloc _
  have hyl : (curh.toList.take 4).length = 4 := by simp; omega
  obtain ⟨c2, hc2⟩ : ∃ c2, c2 = (ROW.toList.take (i * 4) ++ curh.toList.take 4 ++ ROW.toList.drop (i * 4 + (curh.toList.take 4).length)).toArray := ⟨_, rfl⟩
  have hc2s : c2.size = G * 4 := by rw [hc2]; simp; omega
  have hcpA : ∀ (W : World), W.heap = W1.heap → ∀ ty dc, (Builtin.copy_ #[23, 23] ty #[.slice (some ⟨w.heap.size, i * 4, none⟩) (n + 1 - i) dc, .slice (some ⟨h, 0, none⟩) 1 caph]).run Try.prog W = .ok (goInt (Nat.min 1 (n + 1 - i))) (W.setRow w.heap.size c2) := fun W hW ty dc => by
    rw [hc2]
    exact Zce W 23 23 ty 55 4 w.heap.size (i * 4) (n + 1 - i) dc ⟨h, 0, none⟩ 1 caph ROW 55 (curh.toList.take 4) Try.underlying23 inf55 (by rw [hW]; exact hN1) (by rw [hyl]; simp only [Nat.min_def]; split <;> omega)
      (by have := ZaX (w := W) (o := 0) (m := 4) (cur := curh) (T := 55) (g := h) (by rw [hW, hk1.block h hhw (by simp)]; exact hh) (by omega); simpa using this) (by rw [hyl]; omega) h1h
  obtain ⟨tl, htl⟩ : ∃ tl, tl = (cur.toList.drop (i * 4)).take ((n - i) * 4) := ⟨_, rfl⟩
  have htll : tl.length = (n - i) * 4 := by rw [htl]; simp; omega
  have htl1 : ∀ v ∈ tl, v.oneCell' = true := fun v hv => h1 v (by
    rw [htl, show (cur.toList.drop (i * 4)).take ((n - i) * 4) = (cur.toList.take (n * 4)).drop (i * 4) from by rw [List.drop_take]; congr 1; omega] at hv
    exact List.mem_of_mem_drop hv)
  obtain ⟨W2, hW2⟩ : ∃ W2, W2 = W1.setRow w.heap.size c2 := ⟨_, rfl⟩
  have hN2 : W2.heap[w.heap.size]? = some (.cells c2 55 (0, 0)) := by rw [hW2]; exact setRow_heap _ _ ROW _ 55 _ hN1
  have hk2 : KeptBut [w.heap.size] w W2 := by rw [hW2]; exact (hk1.mono (by simp)).trans (KeptBut.setRow (by simp) _)
  obtain ⟨c3, hc3⟩ : ∃ c3, c3 = (c2.toList.take ((i + 1) * 4) ++ tl ++ c2.toList.drop ((i + 1) * 4 + tl.length)).toArray := ⟨_, rfl⟩
  have hcpB : ∀ (W : World), W.heap = W2.heap → ∀ ty dc sc, (Builtin.copy_ #[23, 23] ty #[.slice (some ⟨w.heap.size, (i + 1) * 4, none⟩) (n + 1 - (i + 1)) dc, .slice (some ⟨g, i * 4, none⟩) (n - i) sc]).run Try.prog W = .ok (goInt (Nat.min (n - i) (n + 1 - (i + 1)))) (W.setRow w.heap.size c3) := fun W hW ty dc sc => by
    rw [hc3]
    exact Zce W 23 23 ty 55 4 w.heap.size ((i + 1) * 4) (n + 1 - (i + 1)) dc ⟨g, i * 4, none⟩ (n - i) sc c2 55 tl Try.underlying23 inf55 (by rw [hW]; exact hN2) (by rw [htll]; simp only [Nat.min_def]; split <;> omega)
      (by rw [htl]; exact ZaX (w := W) (T := 55) (by rw [hW, hk2.block g hgw (by simp; omega)]; exact hg) (by omega)) (by rw [htll]; omega) htl1
  have hpost : ∀ W, W.heap = W2.heap → KeptBut [w.heap.size] w W → ∃ cur' : Array Value, (W.setRow w.heap.size c3).heap[w.heap.size]? = some (.cells cur' 55 (0, 0)) ∧ cur'.size = G * 4 ∧ cur'.toList.take ((n + 1) * 4) = (cur.toList.take (n * 4)).take (i * 4) ++ curh.toList.take 4 ++ (cur.toList.take (n * 4)).drop (i * 4) ∧ KeptBut [] w (W.setRow w.heap.size c3) := by
    intro W hW hk
    refine ⟨c3, setRow_heap W _ c2 _ 55 _ (by rw [hW]; exact hN2), ?_, ?_, (hk.trans (KeptBut.setRow (by simp) _)).fresh (by simp)⟩
    · rw [hc3]; simp; omega
    · have q := ins_list2 (row := ROW.toList) (y := curh.toList.take 4) (tl := tl) (c2 := c2.toList) (c3 := c3.toList) (a := i * 4) (s := 4) (by simp; omega) hyl (by rw [hc2, hyl]) (by rw [hc3, show i * 4 + 4 = (i + 1) * 4 from by omega])
      rw [show (n + 1) * 4 = i * 4 + 4 + tl.length from by rw [htll]; omega, q, htl, show (n - i) * 4 = n * 4 - i * 4 from by omega, mid_eq, List.take_take, Nat.min_eq_left (by omega), hROW]
      congr 2
      simp only [Array.toList_append, List.append_assoc]
      exact (List.take_left' holl).trans hol
  have hw1 : IntKind.i64.wrap ((i : Int) + 1) = (i : Int) + 1 := by rw [IntKind.wrap_i64]; omega
  have hw2 : IntKind.i64.wrap ((n : Int) + 1) = (n : Int) + 1 := by rw [IntKind.wrap_i64]; omega
  have hw3 : IntKind.i64.wrap ((n : Int) + 1 - (i : Int)) = (n : Int) + 1 - (i : Int) := by rw [IntKind.wrap_i64]; omega
  have hz3 : (cap : Int) < (n : Int) + 1 := by omega
  have hGi : ¬ (G = i) := by omega
  have hGi1 : ¬ (G = i + 1) := by omega
  have hci : ¬ (cap = i) := by omega
  have hb3 : (i : Int) ≤ (n : Int) := by omega
  have hb5 : (i : Int) ≤ (n : Int) + 1 := by omega
  have hb6 : (i : Int) + 1 ≤ (n : Int) + 1 := by omega
  have hb8 : (0 : Int) ≤ (i : Int) + 1 := by omega
  have ht1 : ((i : Int) + 1).toNat = i + 1 := by omega
  have hb9 : i ≤ cap := by omega
  have hb10 : (i : Int) ≤ (cap : Int) := by omega
  clear hkk hik hold hROW hG hc2 hc3 htl hol h1 h1h
  go_enter Try.func70, Try.ntmps70
  go_wp2_with (first
    | (at_builtin; refine Lib.wpList_append_run _ rfl _ _ _ _ rfl _ _ rfl rfl _ _ (hrz _) ?_)
    | (at_builtin; refine Zde rfl _ _ 23 23 rfl _ _ rfl rfl (hcpA _ rfl _ _) ?_))
  go_region_law (refine ZdK rfl _ _ 23 23 rfl (.slice (some ⟨w.heap.size, (i + 1) * 4, none⟩) (n + 1 - (i + 1)) (G - (i + 1))) (.slice (some ⟨g, i * 4, none⟩) (n - i) (cap - i)) (by simp [Act.eval, Act.put]) (by simp [Act.eval, Act.put]) (hcpB _ (by rw [hW2, hW1]; rfl) _ _ _) ?_)
  go_wp2
  go_ret
  exact ⟨G, rfl, hGn, hGm, hpost _ (by rw [hW2, hW1]; rfl) (by rw [hW2, hW1] at hk2; exact ⟨hk2.os, hk2.tape, hk2.output, hk2.size, hk2.block⟩)⟩
set_option maxHeartbeats 4000000 in
set_option maxRecDepth 1000000 in
theorem insEnd70 : InsEnd Try.prog 70 55 4 64 := by
  intro w v v2 n xs ys hr hr2 h1 hbig h63
  rcases hr2.2 with ⟨a, rfl, h0⟩ | ⟨h, caph, curh, rfl, hch, hh, hn2, hm2, hs2, hx2⟩
  · omega
  obtain ⟨a, cap, rfl, hnc, hcm⟩ := hr.slice
  have hh := hh.zero (show 55 ≠ 5 by decide)
  have hhw : h < w.heap.size := (Array.getElem?_eq_some_iff.1 hh).1
  have hyl : ys.length = 1 * 4 := hr2.1
  obtain ⟨v', w', hrun, k1, k2, k3⟩ := append_run (P := Try.prog) (tab := tab) (w := w) (t := 23) (t2 := 23) (e := 55) (ot := 23) Try.underlying23 (base.tab 55 _ rfl) (.inl ⟨55, Try.underlying23⟩) (n := n) hr (Nat.le_refl n) (xv := .slice (some ⟨h, 0, none⟩) 1 caph) (news := ys) (m := 1) hyl h1
    (fun w' => by simp [Builtin.lenOf]) (fun w' hw' => run_firstCells_some w' 4 1 ⟨h, 0, none⟩ 1 caph ys hyl fun j v hj => by
      have := ZaX (o := 0) (m := 1 * 4) (w := w') (by rw [hw' h hhw]; exact hh) (by omega) j v (by rw [List.drop_zero, hx2]; exact hj)
      exact this) h63 hbig
  have hxl : xs.take (n * 4) = xs := List.take_of_length_le (by rw [hr.1]; exact Nat.le_refl _)
  have k1' : RowIs w' 55 4 (n + 1) v' (xs ++ ys) := by
    have k1 : RowIs w' 55 4 (n + 1) v' (xs.take (n * 4) ++ ys) := k1
    rw [hxl] at k1; exact k1
  clear k1
  cases a with
  | none =>
    go_enter Try.func70, Try.ntmps70
    go_wp2_with (at_builtin; refine Lib.wpList_append_run _ rfl _ _ _ _ rfl _ _ rfl rfl _ _ hrun ?_)
    all_goals (go_ret; first | exact ⟨v', rfl, k1', k2, k3⟩ | (subst_vars; exact ⟨v', rfl, k1', k2, k3⟩))
  | some a =>
    obtain ⟨ab, ao, asp⟩ := a
    go_enter Try.func70, Try.ntmps70
    go_wp2_with (at_builtin; refine Lib.wpList_append_run _ rfl _ _ _ _ rfl _ _ rfl rfl _ _ hrun ?_)
    all_goals (go_ret; first | exact ⟨v', rfl, k1', k2, k3⟩ | (subst_vars; exact ⟨v', rfl, k1', k2, k3⟩))
theorem ins70 : InsOk Try.prog 70 55 4 64 := ins_ok
  (fun w g n cap i h caph cur curh h1 h2 h3 h4 h5 h6 h7 h8 h9 h10 h11 => ins70_room w g n cap i h caph cur curh h1 h2 h3 h4 h5 h6 h7 h8 h9 h10 h11)
  (fun w g n cap i h caph cur curh h1 h2 h3 h4 h5 h6 h7 h8 h9 h10 h11 h12 => ins70_grow w g n cap i h caph cur curh h1 h2 h3 h4 h5 h6 h7 h8 h9 h10 h11 h12)
  insEnd70
theorem inf58 : (Try.prog.info? 58).map (·.size) = some 2 := by kernel_rfl
theorem zv58 : ∀ w, (zeroValue 58).run Try.prog w = .ok (Value.agg #[.slice none 0 0, .int .i64 0]) w := fun w => by kernel_rfl
set_option maxHeartbeats 4000000 in
set_option maxRecDepth 1000000 in
theorem delSame71 : DelSame Try.prog 71 := by
  intro a n cap i w hin hn hcm
  go_enter Try.func71, Try.ntmps71
  go_wp2
  all_goals (go_ret; exact ⟨rfl, .refl _ _⟩)
set_option maxHeartbeats 4000000 in
set_option maxRecDepth 1000000 in
theorem del71 : DelOk Try.prog 71 58 2 := by
  intro g n cap i j cur w hg hs hn hcm h1 hij hj
  have hne : ¬ ((i : Int) = (j : Int)) := by omega
  have hb1 : (i : Int) ≤ (j : Int) := by omega
  have hb2 : (j : Int) ≤ (n : Int) := by omega
  have hb3 : (i : Int) ≤ (n : Int) := by omega
  have hb4 : i ≤ cap := by omega
  have hb5 : j ≤ cap := by omega
  obtain ⟨news, hnews⟩ : ∃ news, news = (cur.toList.drop (j * 2)).take ((n - j) * 2) := ⟨_, rfl⟩
  have hnl : news.length = (n - j) * 2 := by rw [hnews]; simp; omega
  have hsrc : ∀ k v, news[k]? = some v → w.cell? ((⟨g, j * 2, none⟩ : Addr).add k) = some v := by
    rw [hnews]; exact ZaX hg (by omega)
  have hone : ∀ v ∈ news, v.oneCell' = true := fun v hv => h1 v (by
    rw [hnews] at hv
    have : (cur.toList.drop (j * 2)).take ((n - j) * 2) = (cur.toList.take (n * 2)).drop (j * 2) := by
      rw [List.drop_take]; congr 1; omega
    rw [this] at hv
    exact List.mem_of_mem_drop hv)
  obtain ⟨c1, hc1⟩ : ∃ c1, c1 = (cur.toList.take (i * 2) ++ news ++ cur.toList.drop (i * 2 + news.length)).toArray := ⟨_, rfl⟩
  have hap : ∀ (W : World) (a : Addr) (m sc : Nat) (ty : TypeId), W.heap[g]? = w.heap[g]? → m = n - j → (m = 0 ∨ a = ⟨g, j * 2, none⟩) →
      (Builtin.append_ #[24, 24] ty #[.slice (some ⟨g, 0, none⟩) i cap, .slice (some a) m sc]).run Try.prog W = .ok (.slice (some ⟨g, 0, none⟩) (i + m) cap) (W.setRow g c1) := by
    intro W a m sc ty hW hm ha
    rw [hm] at ha ⊢
    have hst := run_storeCells_at Try.prog g (i * 2) 58 news 0 cur W (hW.trans hg) (by rw [hnl]; omega) hone
    simp only [Nat.add_zero] at hst
    rw [← hc1] at hst
    have hfc : (Builtin.firstCells 2 (n - j) (.slice (some a) (n - j) sc)).run Try.prog W = .ok news.toArray W := by
      refine run_firstCells_some (P := Try.prog) W 2 (n - j) a (n - j) sc news hnl fun k v hk => ?_
      rcases ha with h | rfl
      · have := (List.getElem?_eq_some_iff.1 hk).1
        rw [hnl] at this; omega
      · have := hsrc k v hk
        rw [← this]
        simp [World.cell?, hW, Addr.add_none]
    have hr : i + (n - j) ≤ cap := by omega
    cases hq : Try.prog.info? 58 with
    | none => have := inf58; rw [hq] at this; simp at this
    | some i0 =>
      have hi : i0.size = 2 := by have := inf58; rw [hq] at this; simpa using this
      simp [Builtin.append_, run_underlying Try.underlying24, sizeOf, typeInfo, hq, hi, Builtin.lenOf, hr, hfc, Addr.add_none, hst]
  have hc1s : c1.size = cap * 2 := by rw [hc1]; simp; omega
  have hc1t : c1.toList.take ((i + (n - j)) * 2) = (cur.toList.take (n * 2)).take (i * 2) ++ (cur.toList.take (n * 2)).drop (j * 2) := by
    rw [hc1]
    simp only [List.append_assoc]
    rw [← List.append_assoc, show (i + (n - j)) * 2 = (cur.toList.take (i * 2) ++ news).length from by simp [hnl]; omega, List.take_left, hnews, List.take_take, Nat.min_eq_left (by omega), List.drop_take]
    congr 2
    omega
  have hsub : n - (j - i) = i + (n - j) := by omega
  have hz : (Value.agg #[.slice none 0 0, .int .i64 0]).cells.size = 2 := rfl
  have hz1 : ∀ v ∈ (Value.agg #[.slice none 0 0, .int .i64 0]).cells, v.oneCell' = true := by decide
  rw [hsub]
  have hcn : ¬ (cap = i + (n - j)) := by omega
  have hlt : ((i + (n - j) : Nat) : Int) ≤ (n : Int) := by omega
  have hfin : ∀ (W1 : World) (d : Array Value), W1.heap[g]? = some (.cells d 58 (0, 0)) → d.size = cap * 2 → d.toList.take ((i + (n - j)) * 2) = (cur.toList.take (n * 2)).take (i * 2) ++ (cur.toList.take (n * 2)).drop (j * 2) → KeptBut [g] w W1 →
      ∃ W2, (∀ sc, (Builtin.clear_ #[24] 0 #[.slice (some ⟨g, (i + (n - j)) * 2, none⟩) (n - (i + (n - j))) sc]).run Try.prog W1 = .ok (.tuple #[]) W2) ∧
        ∃ cur' : Array Value, W2.heap[g]? = some (.cells cur' 58 (0, 0)) ∧ cur'.size = cap * 2 ∧ cur'.toList.take ((i + (n - j)) * 2) = (cur.toList.take (n * 2)).take (i * 2) ++ (cur.toList.take (n * 2)).drop (j * 2) ∧ KeptBut [g] w W2 := by
    intro W1 d e1 e2 e3 e4
    obtain ⟨tl, t1, t2⟩ := run_clear_k (P := Try.prog) W1 24 58 0 _ 2 Try.underlying24 zv58 hz hz1 (by omega) g ((i + (n - j)) * 2) (n - (i + (n - j))) (by omega) d 58 e1 (by omega)
    refine ⟨W1.setRow g (d.toList.take ((i + (n - j)) * 2) ++ tl ++ d.toList.drop ((i + (n - j)) * 2 + tl.length)).toArray, t2, (d.toList.take ((i + (n - j)) * 2) ++ tl ++ d.toList.drop ((i + (n - j)) * 2 + tl.length)).toArray, setRow_heap W1 g d _ 58 _ e1, ?_, ?_, e4.trans (KeptBut.setRow (by simp) _)⟩
    · simp; omega
    · rw [← e3, List.append_assoc]
      simp only
      rw [show (i + (n - j)) * 2 = (d.toList.take ((i + (n - j)) * 2)).length from by simp; omega]
      simp
  clear hc1 hnews hz hz1 hnl hsrc hone h1
  by_cases hjn : j = n
  · have hk : cur.toList.take ((i + (n - j)) * 2) = (cur.toList.take (n * 2)).take (i * 2) ++ (cur.toList.take (n * 2)).drop (j * 2) := by
      subst hjn
      rw [Nat.sub_self, Nat.add_zero, List.take_take, Nat.min_eq_left (by omega), List.drop_of_length_le (by simp; omega), List.append_nil]
    obtain ⟨W2, hcl, hpost⟩ := hfin w.drew cur hg hs hk (KeptBut.refl _ w).drew
    have e0 : i + (n - j) = i := by omega
    rw [e0] at hcl hpost hcn ⊢
    clear hfin hc1t hap hk hsub hlt e0
    subst hjn
    by_cases hcj : cap = j
    · subst hcj
      go_enter Try.func71, Try.ntmps71
      go_wp2
      go_region
      go_wp2_with (at_builtin; refine Za0 rfl _ 24 rfl _ rfl (hcl _) ?_)
      go_ret
      exact ⟨rfl, hpost⟩
    · go_enter Try.func71, Try.ntmps71
      go_wp2
      go_region
      go_wp2_with (at_builtin; refine Za0 rfl _ 24 rfl _ rfl (hcl _) ?_)
      go_ret
      exact ⟨rfl, hpost⟩
  · have hcj : ¬ (cap = j) := by omega
    obtain ⟨W2, hcl, hpost⟩ := hfin (w.drew.setRow g c1) c1 (setRow_heap _ g cur _ 58 _ hg) hc1s hc1t ((KeptBut.refl _ w).drew.trans (KeptBut.setRow (by simp) _))
    clear hfin hc1t
    go_enter Try.func71, Try.ntmps71
    go_wp2
    go_region_law (refine ZdP rfl _ _ 24 24 rfl _ _ (by simp [Act.eval, Act.put]) (by simp [Act.eval, Act.put]) (hap w.drew ⟨g, j * 2, none⟩ (n - j) (cap - j) 24 rfl rfl (Or.inr rfl)) ?_)
    go_wp2_with (at_builtin; refine Za0 rfl _ 24 rfl _ rfl (hcl _) ?_)
    go_ret
    exact ⟨rfl, hpost⟩
set_option maxHeartbeats 4000000 in
set_option maxRecDepth 1000000 in
theorem delSame72 : DelSame Try.prog 72 := by
  intro a n cap i w hin hn hcm
  go_enter Try.func72, Try.ntmps72
  go_wp2
  all_goals (go_ret; exact ⟨rfl, .refl _ _⟩)
set_option maxHeartbeats 4000000 in
set_option maxRecDepth 1000000 in
theorem del72 : DelOk Try.prog 72 55 4 := by
  intro g n cap i j cur w hg hs hn hcm h1 hij hj
  have hne : ¬ ((i : Int) = (j : Int)) := by omega
  have hb1 : (i : Int) ≤ (j : Int) := by omega
  have hb2 : (j : Int) ≤ (n : Int) := by omega
  have hb3 : (i : Int) ≤ (n : Int) := by omega
  have hb4 : i ≤ cap := by omega
  have hb5 : j ≤ cap := by omega
  obtain ⟨news, hnews⟩ : ∃ news, news = (cur.toList.drop (j * 4)).take ((n - j) * 4) := ⟨_, rfl⟩
  have hnl : news.length = (n - j) * 4 := by rw [hnews]; simp; omega
  have hsrc : ∀ k v, news[k]? = some v → w.cell? ((⟨g, j * 4, none⟩ : Addr).add k) = some v := by
    rw [hnews]; exact ZaX hg (by omega)
  have hone : ∀ v ∈ news, v.oneCell' = true := fun v hv => h1 v (by
    rw [hnews] at hv
    have : (cur.toList.drop (j * 4)).take ((n - j) * 4) = (cur.toList.take (n * 4)).drop (j * 4) := by
      rw [List.drop_take]; congr 1; omega
    rw [this] at hv
    exact List.mem_of_mem_drop hv)
  obtain ⟨c1, hc1⟩ : ∃ c1, c1 = (cur.toList.take (i * 4) ++ news ++ cur.toList.drop (i * 4 + news.length)).toArray := ⟨_, rfl⟩
  have hap : ∀ (W : World) (a : Addr) (m sc : Nat) (ty : TypeId), W.heap[g]? = w.heap[g]? → m = n - j → (m = 0 ∨ a = ⟨g, j * 4, none⟩) →
      (Builtin.append_ #[23, 23] ty #[.slice (some ⟨g, 0, none⟩) i cap, .slice (some a) m sc]).run Try.prog W = .ok (.slice (some ⟨g, 0, none⟩) (i + m) cap) (W.setRow g c1) := by
    intro W a m sc ty hW hm ha
    rw [hm] at ha ⊢
    have hst := run_storeCells_at Try.prog g (i * 4) 55 news 0 cur W (hW.trans hg) (by rw [hnl]; omega) hone
    simp only [Nat.add_zero] at hst
    rw [← hc1] at hst
    have hfc : (Builtin.firstCells 4 (n - j) (.slice (some a) (n - j) sc)).run Try.prog W = .ok news.toArray W := by
      refine run_firstCells_some (P := Try.prog) W 4 (n - j) a (n - j) sc news hnl fun k v hk => ?_
      rcases ha with h | rfl
      · have := (List.getElem?_eq_some_iff.1 hk).1
        rw [hnl] at this; omega
      · have := hsrc k v hk
        rw [← this]
        simp [World.cell?, hW, Addr.add_none]
    have hr : i + (n - j) ≤ cap := by omega
    cases hq : Try.prog.info? 55 with
    | none => have := inf55; rw [hq] at this; simp at this
    | some i0 =>
      have hi : i0.size = 4 := by have := inf55; rw [hq] at this; simpa using this
      simp [Builtin.append_, run_underlying Try.underlying23, sizeOf, typeInfo, hq, hi, Builtin.lenOf, hr, hfc, Addr.add_none, hst]
  have hc1s : c1.size = cap * 4 := by rw [hc1]; simp; omega
  have hc1t : c1.toList.take ((i + (n - j)) * 4) = (cur.toList.take (n * 4)).take (i * 4) ++ (cur.toList.take (n * 4)).drop (j * 4) := by
    rw [hc1]
    simp only [List.append_assoc]
    rw [← List.append_assoc, show (i + (n - j)) * 4 = (cur.toList.take (i * 4) ++ news).length from by simp [hnl]; omega, List.take_left, hnews, List.take_take, Nat.min_eq_left (by omega), List.drop_take]
    congr 2
    omega
  have hsub : n - (j - i) = i + (n - j) := by omega
  have hz : (Value.agg #[.slice none 0 0, .slice none 0 0, .int .i64 0, .int .i64 0]).cells.size = 4 := rfl
  have hz1 : ∀ v ∈ (Value.agg #[.slice none 0 0, .slice none 0 0, .int .i64 0, .int .i64 0]).cells, v.oneCell' = true := by decide
  rw [hsub]
  have hcn : ¬ (cap = i + (n - j)) := by omega
  have hlt : ((i + (n - j) : Nat) : Int) ≤ (n : Int) := by omega
  have hfin : ∀ (W1 : World) (d : Array Value), W1.heap[g]? = some (.cells d 55 (0, 0)) → d.size = cap * 4 → d.toList.take ((i + (n - j)) * 4) = (cur.toList.take (n * 4)).take (i * 4) ++ (cur.toList.take (n * 4)).drop (j * 4) → KeptBut [g] w W1 →
      ∃ W2, (∀ sc, (Builtin.clear_ #[23] 0 #[.slice (some ⟨g, (i + (n - j)) * 4, none⟩) (n - (i + (n - j))) sc]).run Try.prog W1 = .ok (.tuple #[]) W2) ∧
        ∃ cur' : Array Value, W2.heap[g]? = some (.cells cur' 55 (0, 0)) ∧ cur'.size = cap * 4 ∧ cur'.toList.take ((i + (n - j)) * 4) = (cur.toList.take (n * 4)).take (i * 4) ++ (cur.toList.take (n * 4)).drop (j * 4) ∧ KeptBut [g] w W2 := by
    intro W1 d e1 e2 e3 e4
    obtain ⟨tl, t1, t2⟩ := run_clear_k (P := Try.prog) W1 23 55 0 _ 4 Try.underlying23 zv55 hz hz1 (by omega) g ((i + (n - j)) * 4) (n - (i + (n - j))) (by omega) d 55 e1 (by omega)
    refine ⟨W1.setRow g (d.toList.take ((i + (n - j)) * 4) ++ tl ++ d.toList.drop ((i + (n - j)) * 4 + tl.length)).toArray, t2, (d.toList.take ((i + (n - j)) * 4) ++ tl ++ d.toList.drop ((i + (n - j)) * 4 + tl.length)).toArray, setRow_heap W1 g d _ 55 _ e1, ?_, ?_, e4.trans (KeptBut.setRow (by simp) _)⟩
    · simp; omega
    · rw [← e3, List.append_assoc]
      simp only
      rw [show (i + (n - j)) * 4 = (d.toList.take ((i + (n - j)) * 4)).length from by simp; omega]
      simp
  clear hc1 hnews hz hz1 hnl hsrc hone h1
  by_cases hjn : j = n
  · have hk : cur.toList.take ((i + (n - j)) * 4) = (cur.toList.take (n * 4)).take (i * 4) ++ (cur.toList.take (n * 4)).drop (j * 4) := by
      subst hjn
      rw [Nat.sub_self, Nat.add_zero, List.take_take, Nat.min_eq_left (by omega), List.drop_of_length_le (by simp; omega), List.append_nil]
    obtain ⟨W2, hcl, hpost⟩ := hfin w.drew cur hg hs hk (KeptBut.refl _ w).drew
    have e0 : i + (n - j) = i := by omega
    rw [e0] at hcl hpost hcn ⊢
    clear hfin hc1t hap hk hsub hlt e0
    subst hjn
    by_cases hcj : cap = j
    · subst hcj
      go_enter Try.func72, Try.ntmps72
      go_wp2
      go_region
      go_wp2_with (at_builtin; refine Za0 rfl _ 23 rfl _ rfl (hcl _) ?_)
      go_ret
      exact ⟨rfl, hpost⟩
    · go_enter Try.func72, Try.ntmps72
      go_wp2
      go_region
      go_wp2_with (at_builtin; refine Za0 rfl _ 23 rfl _ rfl (hcl _) ?_)
      go_ret
      exact ⟨rfl, hpost⟩
  · have hcj : ¬ (cap = j) := by omega
    obtain ⟨W2, hcl, hpost⟩ := hfin (w.drew.setRow g c1) c1 (setRow_heap _ g cur _ 55 _ hg) hc1s hc1t ((KeptBut.refl _ w).drew.trans (KeptBut.setRow (by simp) _))
    clear hfin hc1t
    go_enter Try.func72, Try.ntmps72
    go_wp2
    go_region_law (refine ZdP rfl _ _ 23 23 rfl _ _ (by simp [Act.eval, Act.put]) (by simp [Act.eval, Act.put]) (hap w.drew ⟨g, j * 4, none⟩ (n - j) (cap - j) 23 rfl rfl (Or.inr rfl)) ?_)
    go_wp2_with (at_builtin; refine Za0 rfl _ 23 rfl _ rfl (hcl _) ?_)
    go_ret
    exact ⟨rfl, hpost⟩
theorem inf49 : (Try.prog.info? 49).map (·.size) = some 2 := by kernel_rfl
theorem zv49 : ∀ w, (zeroValue 49).run Try.prog w = .ok (Value.agg #[.int .i64 0, .bool false]) w := fun w => by kernel_rfl
set_option maxHeartbeats 4000000 in
set_option maxRecDepth 1000000 in
theorem delSame73 : DelSame Try.prog 73 := by
  intro a n cap i w hin hn hcm
  go_enter Try.func73, Try.ntmps73
  go_wp2
  all_goals (go_ret; exact ⟨rfl, .refl _ _⟩)
set_option maxHeartbeats 4000000 in
set_option maxRecDepth 1000000 in
theorem del73 : DelOk Try.prog 73 49 2 := by
  intro g n cap i j cur w hg hs hn hcm h1 hij hj
  have hne : ¬ ((i : Int) = (j : Int)) := by omega
  have hb1 : (i : Int) ≤ (j : Int) := by omega
  have hb2 : (j : Int) ≤ (n : Int) := by omega
  have hb3 : (i : Int) ≤ (n : Int) := by omega
  have hb4 : i ≤ cap := by omega
  have hb5 : j ≤ cap := by omega
  obtain ⟨news, hnews⟩ : ∃ news, news = (cur.toList.drop (j * 2)).take ((n - j) * 2) := ⟨_, rfl⟩
  have hnl : news.length = (n - j) * 2 := by rw [hnews]; simp; omega
  have hsrc : ∀ k v, news[k]? = some v → w.cell? ((⟨g, j * 2, none⟩ : Addr).add k) = some v := by
    rw [hnews]; exact ZaX hg (by omega)
  have hone : ∀ v ∈ news, v.oneCell' = true := fun v hv => h1 v (by
    rw [hnews] at hv
    have : (cur.toList.drop (j * 2)).take ((n - j) * 2) = (cur.toList.take (n * 2)).drop (j * 2) := by
      rw [List.drop_take]; congr 1; omega
    rw [this] at hv
    exact List.mem_of_mem_drop hv)
  obtain ⟨c1, hc1⟩ : ∃ c1, c1 = (cur.toList.take (i * 2) ++ news ++ cur.toList.drop (i * 2 + news.length)).toArray := ⟨_, rfl⟩
  have hap : ∀ (W : World) (a : Addr) (m sc : Nat) (ty : TypeId), W.heap[g]? = w.heap[g]? → m = n - j → (m = 0 ∨ a = ⟨g, j * 2, none⟩) →
      (Builtin.append_ #[25, 25] ty #[.slice (some ⟨g, 0, none⟩) i cap, .slice (some a) m sc]).run Try.prog W = .ok (.slice (some ⟨g, 0, none⟩) (i + m) cap) (W.setRow g c1) := by
    intro W a m sc ty hW hm ha
    rw [hm] at ha ⊢
    have hst := run_storeCells_at Try.prog g (i * 2) 49 news 0 cur W (hW.trans hg) (by rw [hnl]; omega) hone
    simp only [Nat.add_zero] at hst
    rw [← hc1] at hst
    have hfc : (Builtin.firstCells 2 (n - j) (.slice (some a) (n - j) sc)).run Try.prog W = .ok news.toArray W := by
      refine run_firstCells_some (P := Try.prog) W 2 (n - j) a (n - j) sc news hnl fun k v hk => ?_
      rcases ha with h | rfl
      · have := (List.getElem?_eq_some_iff.1 hk).1
        rw [hnl] at this; omega
      · have := hsrc k v hk
        rw [← this]
        simp [World.cell?, hW, Addr.add_none]
    have hr : i + (n - j) ≤ cap := by omega
    cases hq : Try.prog.info? 49 with
    | none => have := inf49; rw [hq] at this; simp at this
    | some i0 =>
      have hi : i0.size = 2 := by have := inf49; rw [hq] at this; simpa using this
      simp [Builtin.append_, run_underlying Try.underlying25, sizeOf, typeInfo, hq, hi, Builtin.lenOf, hr, hfc, Addr.add_none, hst]
  have hc1s : c1.size = cap * 2 := by rw [hc1]; simp; omega
  have hc1t : c1.toList.take ((i + (n - j)) * 2) = (cur.toList.take (n * 2)).take (i * 2) ++ (cur.toList.take (n * 2)).drop (j * 2) := by
    rw [hc1]
    simp only [List.append_assoc]
    rw [← List.append_assoc, show (i + (n - j)) * 2 = (cur.toList.take (i * 2) ++ news).length from by simp [hnl]; omega, List.take_left, hnews, List.take_take, Nat.min_eq_left (by omega), List.drop_take]
    congr 2
    omega
  have hsub : n - (j - i) = i + (n - j) := by omega
  have hz : (Value.agg #[.int .i64 0, .bool false]).cells.size = 2 := rfl
  have hz1 : ∀ v ∈ (Value.agg #[.int .i64 0, .bool false]).cells, v.oneCell' = true := by decide
  rw [hsub]
  have hcn : ¬ (cap = i + (n - j)) := by omega
  have hlt : ((i + (n - j) : Nat) : Int) ≤ (n : Int) := by omega
  have hfin : ∀ (W1 : World) (d : Array Value), W1.heap[g]? = some (.cells d 49 (0, 0)) → d.size = cap * 2 → d.toList.take ((i + (n - j)) * 2) = (cur.toList.take (n * 2)).take (i * 2) ++ (cur.toList.take (n * 2)).drop (j * 2) → KeptBut [g] w W1 →
      ∃ W2, (∀ sc, (Builtin.clear_ #[25] 0 #[.slice (some ⟨g, (i + (n - j)) * 2, none⟩) (n - (i + (n - j))) sc]).run Try.prog W1 = .ok (.tuple #[]) W2) ∧
        ∃ cur' : Array Value, W2.heap[g]? = some (.cells cur' 49 (0, 0)) ∧ cur'.size = cap * 2 ∧ cur'.toList.take ((i + (n - j)) * 2) = (cur.toList.take (n * 2)).take (i * 2) ++ (cur.toList.take (n * 2)).drop (j * 2) ∧ KeptBut [g] w W2 := by
    intro W1 d e1 e2 e3 e4
    obtain ⟨tl, t1, t2⟩ := run_clear_k (P := Try.prog) W1 25 49 0 _ 2 Try.underlying25 zv49 hz hz1 (by omega) g ((i + (n - j)) * 2) (n - (i + (n - j))) (by omega) d 49 e1 (by omega)
    refine ⟨W1.setRow g (d.toList.take ((i + (n - j)) * 2) ++ tl ++ d.toList.drop ((i + (n - j)) * 2 + tl.length)).toArray, t2, (d.toList.take ((i + (n - j)) * 2) ++ tl ++ d.toList.drop ((i + (n - j)) * 2 + tl.length)).toArray, setRow_heap W1 g d _ 49 _ e1, ?_, ?_, e4.trans (KeptBut.setRow (by simp) _)⟩
    · simp; omega
    · rw [← e3, List.append_assoc]
      simp only
      rw [show (i + (n - j)) * 2 = (d.toList.take ((i + (n - j)) * 2)).length from by simp; omega]
      simp
  clear hc1 hnews hz hz1 hnl hsrc hone h1
  by_cases hjn : j = n
  · have hk : cur.toList.take ((i + (n - j)) * 2) = (cur.toList.take (n * 2)).take (i * 2) ++ (cur.toList.take (n * 2)).drop (j * 2) := by
      subst hjn
      rw [Nat.sub_self, Nat.add_zero, List.take_take, Nat.min_eq_left (by omega), List.drop_of_length_le (by simp; omega), List.append_nil]
    obtain ⟨W2, hcl, hpost⟩ := hfin w.drew cur hg hs hk (KeptBut.refl _ w).drew
    have e0 : i + (n - j) = i := by omega
    rw [e0] at hcl hpost hcn ⊢
    clear hfin hc1t hap hk hsub hlt e0
    subst hjn
    by_cases hcj : cap = j
    · subst hcj
      go_enter Try.func73, Try.ntmps73
      go_wp2
      go_region
      go_wp2_with (at_builtin; refine Za0 rfl _ 25 rfl _ rfl (hcl _) ?_)
      go_ret
      exact ⟨rfl, hpost⟩
    · go_enter Try.func73, Try.ntmps73
      go_wp2
      go_region
      go_wp2_with (at_builtin; refine Za0 rfl _ 25 rfl _ rfl (hcl _) ?_)
      go_ret
      exact ⟨rfl, hpost⟩
  · have hcj : ¬ (cap = j) := by omega
    obtain ⟨W2, hcl, hpost⟩ := hfin (w.drew.setRow g c1) c1 (setRow_heap _ g cur _ 49 _ hg) hc1s hc1t ((KeptBut.refl _ w).drew.trans (KeptBut.setRow (by simp) _))
    clear hfin hc1t
    go_enter Try.func73, Try.ntmps73
    go_wp2
    go_region_law (refine ZdP rfl _ _ 25 25 rfl _ _ (by simp [Act.eval, Act.put]) (by simp [Act.eval, Act.put]) (hap w.drew ⟨g, j * 2, none⟩ (n - j) (cap - j) 25 rfl rfl (Or.inr rfl)) ?_)
    go_wp2_with (at_builtin; refine Za0 rfl _ 25 rfl _ rfl (hcl _) ?_)
    go_ret
    exact ⟨rfl, hpost⟩
theorem inf61 : (Try.prog.info? 61).map (·.size) = some 4 := by kernel_rfl
theorem sz61 : ∀ w, (Go.sizeOf 61).run Try.prog w = .ok 4 w := fun w => by kernel_rfl
theorem info61 : (Try.prog.info? 61).map (fun i => (i.zero, i.size, i.bytes)) = some (some (Value.agg #[.int .i64 0, .int .i64 0, .int .i64 0, .int .i64 0]), 4, 32) := by kernel_rfl
set_option maxHeartbeats 4000000 in
set_option maxRecDepth 1000000 in
theorem ins48_room (w : World) (g n cap i h caph : Nat) (cur curh : Array Value) (hg : w.heap[g]? = some (.cells cur 61 (0, 0))) (hs : cur.size = cap * 4) (hcm : cap ≤ maxLen) (h1 : OneL (cur.toList.take (n * 4)))
    (hh : w.heap[h]? = some (.cells curh 61 (0, 0))) (hhs : curh.size = caph * 4) (hc1 : 1 ≤ caph) (hne : h ≠ g) (h1h : OneL (curh.toList.take 4)) (hi : i < n) (hroom : n + 1 ≤ cap) :
    Calls Try.prog 48 #[.slice (some ⟨g, 0, none⟩) n cap, .int .i64 i, .slice (some ⟨h, 0, none⟩) 1 caph] w fun e w' => e = .returned (.slice (some ⟨g, 0, none⟩) (n + 1) cap) ∧
      ∃ cur' : Array Value, w'.heap[g]? = some (.cells cur' 61 (0, 0)) ∧ cur'.size = cap * 4 ∧ cur'.toList.take ((n + 1) * 4) = (cur.toList.take (n * 4)).take (i * 4) ++ curh.toList.take 4 ++ (cur.toList.take (n * 4)).drop (i * 4) ∧ KeptBut [g] w w' := by
  have hcmx : cap ≤ 9223372036854775807 := hcm
  have hz2 : ¬ ((i : Int) = (n : Int)) := by omega
  have hov : ∀ lb cb, (callFunc 66 #[.slice (some ⟨h, 0, none⟩) 1 caph, .slice (some ⟨g, (i + 1) * 4, none⟩) lb cb]).run Try.prog w = .ok (.value (.bool false)) w := fun lb cb => by
    rw [run_callFunc_extern Try.func66 (by kernel_rfl) (by kernel_rfl) (by kernel_rfl) (e := Extern.SlicesOverlaps.overlaps #[26, 26] #[4]) (by kernel_rfl),
      Lib.run_overlaps_apart w 26 4 61 Try.underlying26 4 sz61 ⟨h, 0, none⟩ ⟨g, (i + 1) * 4, none⟩ 1 caph lb cb hne 61 61 curh.size cur.size (by simp [World.shape?, hh]) (by simp [World.shape?, hg]) (by omega) (by simp [World.frozen?, hh]) (by simp [World.frozen?, hh])]
    rfl
  obtain ⟨tl, htl⟩ : ∃ tl, tl = (cur.toList.drop (i * 4)).take ((n - i) * 4) := ⟨_, rfl⟩
  have htll : tl.length = (n - i) * 4 := by rw [htl]; simp; omega
  have htl1 : ∀ v ∈ tl, v.oneCell' = true := fun v hv => h1 v (by
    rw [htl, show (cur.toList.drop (i * 4)).take ((n - i) * 4) = (cur.toList.take (n * 4)).drop (i * 4) from by rw [List.drop_take]; congr 1; omega] at hv
    exact List.mem_of_mem_drop hv)
  obtain ⟨c1, hc1'⟩ : ∃ c1, c1 = (cur.toList.take ((i + 1) * 4) ++ tl ++ cur.toList.drop ((i + 1) * 4 + tl.length)).toArray := ⟨_, rfl⟩
  have hc1s : c1.size = cap * 4 := by rw [hc1']; simp; omega
  have hcp1 : ∀ ty dc sc, (Builtin.copy_ #[26, 26] ty #[.slice (some ⟨g, (i + 1) * 4, none⟩) (n + 1 - (i + 1)) dc, .slice (some ⟨g, i * 4, none⟩) (n + 1 - i) sc]).run Try.prog w.drew = .ok (goInt (Nat.min (n + 1 - i) (n + 1 - (i + 1)))) (w.drew.setRow g c1) := fun ty dc sc => by
    rw [hc1']
    exact Zce w.drew 26 26 ty 61 4 g ((i + 1) * 4) (n + 1 - (i + 1)) dc ⟨g, i * 4, none⟩ (n + 1 - i) sc cur 61 tl Try.underlying26 inf61 hg (by rw [htll]; simp only [Nat.min_def]; split <;> omega) (by rw [htl]; exact ZaX (w := w.drew) hg (by omega)) (by rw [htll]; omega) htl1
  obtain ⟨W1, hW1⟩ : ∃ W1, W1 = w.drew.setRow g c1 := ⟨_, rfl⟩
  rw [← hW1] at hcp1
  have hg1 : W1.heap[g]? = some (.cells c1 61 (0, 0)) := by rw [hW1]; exact setRow_heap _ g cur _ 61 _ hg
  have hh1 : W1.heap[h]? = some (.cells curh 61 (0, 0)) := by
    rw [hW1, ← hh]
    exact (KeptBut.setRow (w := w.drew) (F := [g]) (by simp) c1).block h (by have := (Array.getElem?_eq_some_iff.1 hh).1; exact this) (by simp [hne])
  obtain ⟨c2, hc2⟩ : ∃ c2, c2 = (c1.toList.take (i * 4) ++ curh.toList.take 4 ++ c1.toList.drop (i * 4 + (curh.toList.take 4).length)).toArray := ⟨_, rfl⟩
  have hyl : (curh.toList.take 4).length = 4 := by simp; omega
  have hcp2 : ∀ ty dc, (Builtin.copy_ #[26, 26] ty #[.slice (some ⟨g, i * 4, none⟩) (n + 1 - i) dc, .slice (some ⟨h, 0, none⟩) 1 caph]).run Try.prog W1 = .ok (goInt (Nat.min 1 (n + 1 - i))) (W1.setRow g c2) := fun ty dc => by
    rw [hc2]
    exact Zce W1 26 26 ty 61 4 g (i * 4) (n + 1 - i) dc ⟨h, 0, none⟩ 1 caph c1 61 (curh.toList.take 4) Try.underlying26 inf61 hg1 (by rw [hyl]; simp only [Nat.min_def]; split <;> omega) (by have := ZaX (o := 0) (m := 4) hh1 (by omega); simpa using this) (by rw [hyl]; omega) h1h
  have hpost : ∃ cur' : Array Value, (W1.setRow g c2).heap[g]? = some (.cells cur' 61 (0, 0)) ∧ cur'.size = cap * 4 ∧ cur'.toList.take ((n + 1) * 4) = (cur.toList.take (n * 4)).take (i * 4) ++ curh.toList.take 4 ++ (cur.toList.take (n * 4)).drop (i * 4) ∧ KeptBut [g] w (W1.setRow g c2) := by
    refine ⟨c2, setRow_heap W1 g c1 _ 61 _ hg1, ?_, ?_, ?_⟩
    · rw [hc2]; simp; omega
    · have q := ins_list (cur := cur.toList) (y := curh.toList.take 4) (tl := tl) (c1 := c1.toList) (c2 := c2.toList) (a := i * 4) (s := 4) (by simp; omega) hyl (by rw [hc1', show i * 4 + 4 = (i + 1) * 4 from by omega]) (by rw [hc2, hyl])
      rw [show (n + 1) * 4 = i * 4 + 4 + tl.length from by rw [htll]; omega, q, htl, show (n - i) * 4 = n * 4 - i * 4 from by omega, mid_eq, List.take_take, Nat.min_eq_left (by omega)]
    · rw [hW1]; exact ((KeptBut.refl _ w).drew.trans (KeptBut.setRow (by simp) _)).trans (KeptBut.setRow (by simp) _)
  have hw1 : IntKind.i64.wrap ((i : Int) + 1) = (i : Int) + 1 := by rw [IntKind.wrap_i64]; omega
  have hw2 : IntKind.i64.wrap ((n : Int) + 1) = (n : Int) + 1 := by rw [IntKind.wrap_i64]; omega
  have hb1 : ¬ ((cap : Int) < (n : Int) + 1) := by omega
  have hb2 : ¬ (cap = i + 1) := by omega
  have hb3 : (i : Int) ≤ (n : Int) := by omega
  have hb4 : ¬ (cap = i) := by omega
  have hb5 : (i : Int) ≤ (n : Int) + 1 := by omega
  have hb6 : (i : Int) + 1 ≤ (n : Int) + 1 := by omega
  have hb7 : (n : Int) + 1 ≤ (cap : Int) := by omega
  have hb8 : (0 : Int) ≤ (i : Int) + 1 := by omega
  have hb9 : (0 : Int) ≤ (n : Int) + 1 := by omega
  have ht1 : ((i : Int) + 1).toNat = i + 1 := by omega
  have ht2 : ((n : Int) + 1).toNat = n + 1 := by omega
  clear hc2 hW1 hc1' htl h1 h1h
  go_enter Try.func48, Try.ntmps48
  go_wp2_with (simp only [hov])
  go_region_law (refine ZdK rfl _ _ 26 26 rfl (.slice (some ⟨g, (i + 1) * 4, none⟩) (n + 1 - (i + 1)) (cap - (i + 1))) (.slice (some ⟨g, i * 4, none⟩) (n + 1 - i) (cap - i)) (by simp [Act.eval, Act.put]) (by simp [Act.eval, Act.put]) (hcp1 _ _ _) ?_)
  go_wp2_with (at_builtin; refine Zde rfl _ _ 26 26 rfl _ _ rfl rfl (hcp2 _ _) ?_)
  go_ret
  exact ⟨rfl, hpost⟩
set_option maxHeartbeats 4000000 in
set_option maxRecDepth 1000000 in
theorem ins48_grow (w : World) (g n cap i h caph : Nat) (cur curh : Array Value) (hg : w.heap[g]? = some (.cells cur 61 (0, 0))) (hs : cur.size = cap * 4) (hcm : cap ≤ maxLen) (h1 : OneL (cur.toList.take (n * 4)))
    (hh : w.heap[h]? = some (.cells curh 61 (0, 0))) (hhs : curh.size = caph * 4) (hc1 : 1 ≤ caph) (h1h : OneL (curh.toList.take 4)) (hi : i < n) (hn : n ≤ cap) (hroom : cap < n + 1) (hbig : (n + 1) * 32 ≤ 140737488355328) :
    Calls Try.prog 48 #[.slice (some ⟨g, 0, none⟩) n cap, .int .i64 i, .slice (some ⟨h, 0, none⟩) 1 caph] w fun e w' => ∃ cap', e = .returned (.slice (some ⟨w.heap.size, 0, none⟩) (n + 1) cap') ∧ n + 1 ≤ cap' ∧ cap' ≤ maxLen ∧
      ∃ cur' : Array Value, w'.heap[w.heap.size]? = some (.cells cur' 61 (0, 0)) ∧ cur'.size = cap' * 4 ∧ cur'.toList.take ((n + 1) * 4) = (cur.toList.take (n * 4)).take (i * 4) ++ curh.toList.take 4 ++ (cur.toList.take (n * 4)).drop (i * 4) ∧ KeptBut [] w w' := by
  have hcmx : cap ≤ 9223372036854775807 := hcm
  have hz2 : ¬ ((i : Int) = (n : Int)) := by omega
  have hgw : g < w.heap.size := (Array.getElem?_eq_some_iff.1 hg).1
  have hhw : h < w.heap.size := (Array.getElem?_eq_some_iff.1 hh).1
  obtain ⟨i0, hi0, hz0, hzs, hzb⟩ := info_parts info61
  have hkk : (n : Int) + 1 - (i : Int) = ((n + 1 - i : Nat) : Int) := by omega
  have hik : i + (n + 1 - i) = n + 1 := by omega
  obtain ⟨olds, hol⟩ : ∃ olds, olds = cur.toList.take (i * 4) := ⟨_, rfl⟩
  have holl : olds.length = i * 4 := by rw [hol]; simp; omega
  have hold : (Builtin.firstCells i0.size i (.slice (some ⟨g, 0, none⟩) i cap)).run Try.prog w.drew = .ok olds.toArray w.drew := by
    rw [hzs]
    refine run_firstCells_some w.drew 4 i ⟨g, 0, none⟩ i cap olds holl fun j v hj => ?_
    have := ZaX (o := 0) (m := i * 4) (w := w.drew) hg (by omega) j v (by rw [List.drop_zero, ← hol]; exact hj)
    exact this
  obtain ⟨G, hG⟩ : ∃ G, G = grownCap w (n + 1) cap 61 := ⟨_, rfl⟩
  obtain ⟨ROW, hROW⟩ : ∃ ROW : Array Value, ROW = olds.toArray ++ Builtin.zeroCells (Value.agg #[.int .i64 0, .int .i64 0, .int .i64 0, .int .i64 0]).cells (n + 1 - i) ++ Builtin.zeroCells (Value.agg #[.int .i64 0, .int .i64 0, .int .i64 0, .int .i64 0]).cells (G - (n + 1)) := ⟨_, rfl⟩
  have hrz : ∀ ty, (Builtin.append_ #[26, 3] ty #[.slice (some ⟨g, 0, none⟩) i cap, .int .i64 ((n : Int) + 1 - (i : Int))]).run Try.prog w =
      .ok (.slice (some ⟨w.heap.size, 0, none⟩) (n + 1) G) (w.drew.alloc (.cells ROW 61)) := fun ty => by
    have h := Lib.run_append_grow_zeros w 26 3 ty 61 i0 _ .i64 .i64 Try.underlying26 Try.underlying3 hi0 hz0 (some ⟨g, 0, none⟩) i cap olds hold (n + 1 - i) (by omega) (by omega) (by omega) (by omega) (by rw [hzb]; omega) (by rw [hzb, hik]; exact growslice_fits hroom hbig)
    rw [hik, ← hG, ← hROW] at h
    rw [hkk]
    exact h
  have hGn : n + 1 ≤ G := by rw [hG]; exact grownCap_ge w _ _ _
  have hGm : G ≤ maxLen := by rw [hG]; exact grownCap_le_maxLen w (n + 1) cap 61 (by unfold maxLen; omega)
  have hG63 : G ≤ 9223372036854775807 := hGm
  have hRs : ROW.size = G * 4 := by
    rw [hROW]; simp only [Array.size_append, List.size_toArray, size_zeroCells, holl]
    rw [show (Value.agg #[.int .i64 0, .int .i64 0, .int .i64 0, .int .i64 0]).cells.size = 4 from rfl]; omega
  obtain ⟨W1, hW1⟩ : ∃ W1, W1 = w.drew.alloc (.cells ROW 61) := ⟨_, rfl⟩
  rw [← hW1] at hrz
  have hN1 : W1.heap[w.heap.size]? = some (.cells ROW 61 (0, 0)) := by rw [hW1]; exact heap_alloc_new w.drew _
  have hk1 : KeptBut [] w W1 := by rw [hW1]; exact (KeptBut.refl _ w).drew.alloc _
  have hyl : (curh.toList.take 4).length = 4 := by simp; omega
  obtain ⟨c2, hc2⟩ : ∃ c2, c2 = (ROW.toList.take (i * 4) ++ curh.toList.take 4 ++ ROW.toList.drop (i * 4 + (curh.toList.take 4).length)).toArray := ⟨_, rfl⟩
  have hc2s : c2.size = G * 4 := by rw [hc2]; simp; omega
  have hcpA : ∀ (W : World), W.heap = W1.heap → ∀ ty dc, (Builtin.copy_ #[26, 26] ty #[.slice (some ⟨w.heap.size, i * 4, none⟩) (n + 1 - i) dc, .slice (some ⟨h, 0, none⟩) 1 caph]).run Try.prog W = .ok (goInt (Nat.min 1 (n + 1 - i))) (W.setRow w.heap.size c2) := fun W hW ty dc => by
    rw [hc2]
    exact Zce W 26 26 ty 61 4 w.heap.size (i * 4) (n + 1 - i) dc ⟨h, 0, none⟩ 1 caph ROW 61 (curh.toList.take 4) Try.underlying26 inf61 (by rw [hW]; exact hN1) (by rw [hyl]; simp only [Nat.min_def]; split <;> omega)
      (by have := ZaX (w := W) (o := 0) (m := 4) (cur := curh) (T := 61) (g := h) (by rw [hW, hk1.block h hhw (by simp)]; exact hh) (by omega); simpa using this) (by rw [hyl]; omega) h1h
  obtain ⟨tl, htl⟩ : ∃ tl, tl = (cur.toList.drop (i * 4)).take ((n - i) * 4) := ⟨_, rfl⟩
  have htll : tl.length = (n - i) * 4 := by rw [htl]; simp; omega
  have htl1 : ∀ v ∈ tl, v.oneCell' = true := fun v hv => h1 v (by
    rw [htl, show (cur.toList.drop (i * 4)).take ((n - i) * 4) = (cur.toList.take (n * 4)).drop (i * 4) from by rw [List.drop_take]; congr 1; omega] at hv
    exact List.mem_of_mem_drop hv)
  obtain ⟨W2, hW2⟩ : ∃ W2, W2 = W1.setRow w.heap.size c2 := ⟨_, rfl⟩
  have hN2 : W2.heap[w.heap.size]? = some (.cells c2 61 (0, 0)) := by rw [hW2]; exact setRow_heap _ _ ROW _ 61 _ hN1
  have hk2 : KeptBut [w.heap.size] w W2 := by rw [hW2]; exact (hk1.mono (by simp)).trans (KeptBut.setRow (by simp) _)
  obtain ⟨c3, hc3⟩ : ∃ c3, c3 = (c2.toList.take ((i + 1) * 4) ++ tl ++ c2.toList.drop ((i + 1) * 4 + tl.length)).toArray := ⟨_, rfl⟩
  have hcpB : ∀ (W : World), W.heap = W2.heap → ∀ ty dc sc, (Builtin.copy_ #[26, 26] ty #[.slice (some ⟨w.heap.size, (i + 1) * 4, none⟩) (n + 1 - (i + 1)) dc, .slice (some ⟨g, i * 4, none⟩) (n - i) sc]).run Try.prog W = .ok (goInt (Nat.min (n - i) (n + 1 - (i + 1)))) (W.setRow w.heap.size c3) := fun W hW ty dc sc => by
    rw [hc3]
    exact Zce W 26 26 ty 61 4 w.heap.size ((i + 1) * 4) (n + 1 - (i + 1)) dc ⟨g, i * 4, none⟩ (n - i) sc c2 61 tl Try.underlying26 inf61 (by rw [hW]; exact hN2) (by rw [htll]; simp only [Nat.min_def]; split <;> omega)
      (by rw [htl]; exact ZaX (w := W) (T := 61) (by rw [hW, hk2.block g hgw (by simp; omega)]; exact hg) (by omega)) (by rw [htll]; omega) htl1
  have hpost : ∀ W, W.heap = W2.heap → KeptBut [w.heap.size] w W → ∃ cur' : Array Value, (W.setRow w.heap.size c3).heap[w.heap.size]? = some (.cells cur' 61 (0, 0)) ∧ cur'.size = G * 4 ∧ cur'.toList.take ((n + 1) * 4) = (cur.toList.take (n * 4)).take (i * 4) ++ curh.toList.take 4 ++ (cur.toList.take (n * 4)).drop (i * 4) ∧ KeptBut [] w (W.setRow w.heap.size c3) := by
    intro W hW hk
    refine ⟨c3, setRow_heap W _ c2 _ 61 _ (by rw [hW]; exact hN2), ?_, ?_, (hk.trans (KeptBut.setRow (by simp) _)).fresh (by simp)⟩
    · rw [hc3]; simp; omega
    · have q := ins_list2 (row := ROW.toList) (y := curh.toList.take 4) (tl := tl) (c2 := c2.toList) (c3 := c3.toList) (a := i * 4) (s := 4) (by simp; omega) hyl (by rw [hc2, hyl]) (by rw [hc3, show i * 4 + 4 = (i + 1) * 4 from by omega])
      rw [show (n + 1) * 4 = i * 4 + 4 + tl.length from by rw [htll]; omega, q, htl, show (n - i) * 4 = n * 4 - i * 4 from by omega, mid_eq, List.take_take, Nat.min_eq_left (by omega), hROW]
      congr 2
      simp only [Array.toList_append, List.append_assoc]
      exact (List.take_left' holl).trans hol
  have hw1 : IntKind.i64.wrap ((i : Int) + 1) = (i : Int) + 1 := by rw [IntKind.wrap_i64]; omega
  have hw2 : IntKind.i64.wrap ((n : Int) + 1) = (n : Int) + 1 := by rw [IntKind.wrap_i64]; omega
  have hw3 : IntKind.i64.wrap ((n : Int) + 1 - (i : Int)) = (n : Int) + 1 - (i : Int) := by rw [IntKind.wrap_i64]; omega
  have hz3 : (cap : Int) < (n : Int) + 1 := by omega
  have hGi : ¬ (G = i) := by omega
  have hGi1 : ¬ (G = i + 1) := by omega
  have hci : ¬ (cap = i) := by omega
  have hb3 : (i : Int) ≤ (n : Int) := by omega
  have hb5 : (i : Int) ≤ (n : Int) + 1 := by omega
  have hb6 : (i : Int) + 1 ≤ (n : Int) + 1 := by omega
  have hb8 : (0 : Int) ≤ (i : Int) + 1 := by omega
  have ht1 : ((i : Int) + 1).toNat = i + 1 := by omega
  have hb9 : i ≤ cap := by omega
  have hb10 : (i : Int) ≤ (cap : Int) := by omega
  clear hkk hik hold hROW hG hc2 hc3 htl hol h1 h1h
  go_enter Try.func48, Try.ntmps48
  go_wp2_with (first
    | (at_builtin; refine Lib.wpList_append_run _ rfl _ _ _ _ rfl _ _ rfl rfl _ _ (hrz _) ?_)
    | (at_builtin; refine Zde rfl _ _ 26 26 rfl _ _ rfl rfl (hcpA _ rfl _ _) ?_))
  go_region_law (refine ZdK rfl _ _ 26 26 rfl (.slice (some ⟨w.heap.size, (i + 1) * 4, none⟩) (n + 1 - (i + 1)) (G - (i + 1))) (.slice (some ⟨g, i * 4, none⟩) (n - i) (cap - i)) (by simp [Act.eval, Act.put]) (by simp [Act.eval, Act.put]) (hcpB _ (by rw [hW2, hW1]; rfl) _ _ _) ?_)
  go_wp2
  go_ret
  exact ⟨G, rfl, hGn, hGm, hpost _ (by rw [hW2, hW1]; rfl) (by rw [hW2, hW1] at hk2; exact ⟨hk2.os, hk2.tape, hk2.output, hk2.size, hk2.block⟩)⟩
set_option maxHeartbeats 4000000 in
set_option maxRecDepth 1000000 in
theorem insEnd48 : InsEnd Try.prog 48 61 4 32 := by
  intro w v v2 n xs ys hr hr2 h1 hbig h63
  rcases hr2.2 with ⟨a, rfl, h0⟩ | ⟨h, caph, curh, rfl, hch, hh, hn2, hm2, hs2, hx2⟩
  · omega
  obtain ⟨a, cap, rfl, hnc, hcm⟩ := hr.slice
  have hh := hh.zero (show 61 ≠ 5 by decide)
  have hhw : h < w.heap.size := (Array.getElem?_eq_some_iff.1 hh).1
  have hyl : ys.length = 1 * 4 := hr2.1
  obtain ⟨v', w', hrun, k1, k2, k3⟩ := append_run (P := Try.prog) (tab := tab) (w := w) (t := 26) (t2 := 26) (e := 61) (ot := 26) Try.underlying26 (base.tab 61 _ rfl) (.inl ⟨61, Try.underlying26⟩) (n := n) hr (Nat.le_refl n) (xv := .slice (some ⟨h, 0, none⟩) 1 caph) (news := ys) (m := 1) hyl h1
    (fun w' => by simp [Builtin.lenOf]) (fun w' hw' => run_firstCells_some w' 4 1 ⟨h, 0, none⟩ 1 caph ys hyl fun j v hj => by
      have := ZaX (o := 0) (m := 1 * 4) (w := w') (by rw [hw' h hhw]; exact hh) (by omega) j v (by rw [List.drop_zero, hx2]; exact hj)
      exact this) h63 hbig
  have hxl : xs.take (n * 4) = xs := List.take_of_length_le (by rw [hr.1]; exact Nat.le_refl _)
  have k1' : RowIs w' 61 4 (n + 1) v' (xs ++ ys) := by
    have k1 : RowIs w' 61 4 (n + 1) v' (xs.take (n * 4) ++ ys) := k1
    rw [hxl] at k1; exact k1
  clear k1
  cases a with
  | none =>
    go_enter Try.func48, Try.ntmps48
    go_wp2_with (at_builtin; refine Lib.wpList_append_run _ rfl _ _ _ _ rfl _ _ rfl rfl _ _ hrun ?_)
    all_goals (go_ret; first | exact ⟨v', rfl, k1', k2, k3⟩ | (subst_vars; exact ⟨v', rfl, k1', k2, k3⟩))
  | some a =>
    obtain ⟨ab, ao, asp⟩ := a
    go_enter Try.func48, Try.ntmps48
    go_wp2_with (at_builtin; refine Lib.wpList_append_run _ rfl _ _ _ _ rfl _ _ rfl rfl _ _ hrun ?_)
    all_goals (go_ret; first | exact ⟨v', rfl, k1', k2, k3⟩ | (subst_vars; exact ⟨v', rfl, k1', k2, k3⟩))
theorem ins48 : InsOk Try.prog 48 61 4 32 := ins_ok
  (fun w g n cap i h caph cur curh h1 h2 h3 h4 h5 h6 h7 h8 h9 h10 h11 => ins48_room w g n cap i h caph cur curh h1 h2 h3 h4 h5 h6 h7 h8 h9 h10 h11)
  (fun w g n cap i h caph cur curh h1 h2 h3 h4 h5 h6 h7 h8 h9 h10 h11 h12 => ins48_grow w g n cap i h caph cur curh h1 h2 h3 h4 h5 h6 h7 h8 h9 h10 h11 h12)
  insEnd48
end Go.Eng.R
