/- An own evaluator of the program's form, proved sound, and what it says of this law's functions: part 9. -/
import Derived.Test.YtpcbeplajmkgpaaGreatE8
set_option linter.unusedVariables false
open Go Go.Eng
namespace Go.Eng.R
set_option maxRecDepth 100000
theorem Eqv.rfl' (a : SD) : Eqv a a := ⟨rfl, rfl, rfl, rfl, ⟨rfl, fun _ _ => ⟨rfl, rfl, rfl, rfl⟩⟩, ⟨rfl, fun _ _ => ⟨rfl, rfl⟩⟩⟩
theorem Zko {a : SD} (h : VS 0 a) : Zbs a.v a.v = some true := by
  have n1 := h.nr; have n2 := h.nt; have n3 := h.ns; have n4 := h.nl
  exact Zl6 (Eqv.rfl' a) ⟨by omega, by omega, by omega, by omega⟩
theorem fol_l12 {l : List V} {s x : SD} {R Q : List (Int × Int)} {n : Nat} (hQ : n ≤ Q.length) (hR : n ≤ R.length) (hl : R.length ≤ 1000) (he : ∀ i (h1 : i < Q.length) (h2 : i < R.length), i < n → Q[i] = R[i]) :
    ZM (n + 1) l (n : Int) 0 (s.b 4 5 6 7) (R.map ZbN) (x.b 8 9 10 11) (Q.map ZbN) s.rows s.tombs s.sess s.lasts x.rows x.tombs x.sess x.lasts =
      some (1, false, l, (n : Int), s.b 3 4 5 6, R.map ZbN, x.b 7 8 9 10, s.rows, s.tombs, s.sess, s.lasts, x.rows, x.tombs, x.sess, x.lasts) := by
  refine ZeN (F := fun m i => ZM m l (n : Int) i (s.b 4 5 6 7) (R.map ZbN) (x.b 8 9 10 11) (Q.map ZbN) s.rows s.tombs s.sess s.lasts x.rows x.tombs x.sess x.lasts) ?_ ?_
  · intro m i hi
    show ZM (m + 1) l (n : Int) (i : Int) _ _ _ _ _ _ _ _ _ _ _ _ = _
    rw [ZM, List.length_map, List.length_map, ZaD hi, Zp (show i < Q.length by omega), Zp (show i < R.length by omega), Nat.zero_add, Int.toNat_natCast, Zma (show i < Q.length by omega), Zma (show i < R.length by omega), he i (by omega) (by omega) hi, Zax hi (by omega)]
    simp only [cond_true, decide_true, Bool.and_self, Bool.not_true, cond_false]
    rfl
  · intro m
    show ZM (m + 1) l (n : Int) (n : Int) _ _ _ _ _ _ _ _ _ _ _ _ = _
    rw [ZM, Zas]; rfl
theorem fol_l17 {l : List V} (hl : ∀ f ∈ l, Zdg (cmF f)) (hn : l.length ≤ 400) {n : Nat} (hno : n ≤ okN l cmF) {s : SD} :
    ∃ b0 r3 r4 r5 r6, ZT (((((Za6 l).length : Nat) : Int) - (n : Int)).toNat + 1) l (n : Int) (s.b 3 4 5 6) ((Za6 l).map ZbN) ((Zz (l.take n)).b 7 8 9 10) s.rows s.tombs s.sess s.lasts (Zz (l.take n)).rows (Zz (l.take n)).tombs (Zz (l.take n)).sess (Zz (l.take n)).lasts =
      some (1, false, l, b0, (Za6 l).map ZbN, (Zz l).b 7 8 9 10, r3, r4, r5, r6, (Zz l).rows, (Zz l).tombs, (Zz l).sess, (Zz l).lasts) ∧ b0 = s.b 3 4 5 6 ∧ r3 = s.rows ∧ r4 = s.tombs ∧ r5 = s.sess ∧ r6 = s.lasts := by
  have hle := ZeT l cmF
  have hRl := ZgZ l
  refine ⟨s.b 3 4 5 6, s.rows, s.tombs, s.sess, s.lasts, ?_, rfl, rfl, rfl, rfl, rfl⟩
  have key := ZiI (σ := SD) (F := fun m x i => ZT m l i (s.b 3 4 5 6) ((Za6 l).map ZbN) (x.b 7 8 9 10) s.rows s.tombs s.sess s.lasts x.rows x.tombs x.sess x.lasts) (n := okN l cmF)
    (fun i x => x = Zz (l.take i))
    (fun o => o = some (1, false, l, s.b 3 4 5 6, (Za6 l).map ZbN, (Zz l).b 7 8 9 10, s.rows, s.tombs, s.sess, s.lasts, (Zz l).rows, (Zz l).tombs, (Zz l).sess, (Zz l).lasts)) ?_ ?_
    (((((Za6 l).length : Nat) : Int) - (n : Int)).toNat + 1) n (Zz (l.take n)) hno (by rw [hRl]; omega) rfl
  · exact key
  · intro m i x hi hx
    subst hx
    obtain ⟨e1, e2⟩ := ZfA l (n := i) (by omega)
    obtain ⟨e3, e4⟩ := ZfA l (n := i + 1) (by omega)
    have hil : i < l.length := by omega
    obtain ⟨g1, g2, g3⟩ := ZgY hl hn (i := i) (by omega)
    have hst : Zz (l.take i) = runS SD.zero ((l.take i).map cmF) := by unfold Zz; rw [e1, e2]
    have hst1 : Zz (l.take (i + 1)) = ((Zz (l.take i)).apply (cmF (rd l i))).2 := by
      rw [hst]; unfold Zz; rw [e3, e4, ZdS hil, ZkJ]
    rw [← hst] at g1 g2 g3
    have hw := hl _ (ZE hil)
    have hap := Apply_N g1 g2 (show (Zz (l.take i)).idx < 1000000 by omega) hw (Zj3 hi)
    have hRi : (Za6 l)[i]? = some ((Zz (l.take i)).apply (cmF (rd l i))).1 := by
      have e5 := ZkM l (n := i + 1) (by omega)
      have e6 : Za6 (l.take (i + 1)) = Za6 (l.take i) ++ [((Zz (l.take i)).apply (cmF (rd l i))).1] := by
        rw [hst]; unfold Za6; rw [e3, e4, e1, e2, ZdS hil, ZkK]
      have e7 : (Za6 (l.take i)).length = i := by rw [ZgZ, e1]
      rw [e5, e6, List.append_assoc, List.getElem?_append_right (by omega), e7, Nat.sub_self]; rfl
    have hRi' : rd ((Za6 l).map ZbN) i = ZbN ((Zz (l.take i)).apply (cmF (rd l i))).1 := by
      rw [Zma (by omega)]
      rw [List.getElem?_eq_getElem (by omega)] at hRi
      rw [Option.some.inj hRi]
    refine .inl ⟨((Zz (l.take i)).apply (cmF (rd l i))).2, ?_, hst1.symm⟩
    show ZT (m + 1) l (i : Int) _ _ _ _ _ _ _ _ _ _ _ = _
    rw [ZT, List.length_map, ZaD (show i < (Za6 l).length by omega), Zp hil, Zp (show i < (Za6 l).length by omega), Nat.zero_add, Int.toNat_natCast, hRi', Zax hil (by omega)]
    simp only [cond_true]
    refine Eq.trans (congrArg (fun o => Option.bind o _) (show _ = _ from hap)) ?_
    simp only [Option.bind_some, show ∀ r : Int × Int, gi (ZbN r) 0 = r.1 from fun _ => rfl, show ∀ r : Int × Int, gi (ZbN r) 1 = r.2 from fun _ => rfl, show ∀ x y, gi (Zj2 x y) 1 = y from fun _ _ => rfl, show ∀ x y, gi (Zj2 x y) 0 = x from fun _ _ => rfl, decide_true, Bool.and_self, Bool.not_true, cond_false]
    rfl
  · intro m x hx
    subst hx
    have e : l.take (okN l cmF) = l.take (okN l cmF) := rfl
    obtain ⟨e1, e2⟩ := ZfA l (n := okN l cmF) (Nat.le_refl _)
    have hst : Zz (l.take (okN l cmF)) = Zz l := by unfold Zz; rw [e1, e2]
    show ZT (m + 1) l ((okN l cmF : Nat) : Int) _ _ _ _ _ _ _ _ _ _ _ = _
    rw [ZT, List.length_map, hRl, Zas, hst]; rfl
theorem ZmL {code : List V} (h : LW Zal code) : ZbX code = some true := by
  unfold ZbX
  obtain ⟨l, e, hl20, hlb⟩ := Zl9 h
  have hl : ∀ f ∈ l, Zdg (cmF f) := fun f hf => (hlb f hf).W
  have hn : l.length ≤ 400 := by omega
  rw [e]
  simp only [Option.bind_some]
  rw [ZkL hl hn]
  simp only [Option.bind_some]
  have hle := ZeT l cmF
  have hRl := ZgZ l
  obtain ⟨g1, g2, g3⟩ := ZgY hl hn (i := okN l cmF) (Nat.le_refl _)
  have hst : runS SD.zero ((l.take (okN l cmF)).map cmF) = Zz l := rfl
  rw [hst] at g1 g2 g3
  rw [ZfO g1.W, g1.B]
  simp only [Option.bind_some, Bool.not_true, cond_false, List.length_map, hRl, show gi (Zz l).v 0 = (Zz l).idx from rfl, g3, decide_true]
  rw [decide_eq_false (show ¬ ((l.length : Nat) : Int) < ((okN l cmF : Nat) : Int) by omega)]
  obtain ⟨x, ex, x0, x1⟩ := at_O h 3 (by decide)
  rw [ex]
  simp only [Option.bind_some, cond_false]
  obtain ⟨t0, t1⟩ := Zfb (x := x) (n := 5) x0 (by decide)
  have p0 : 0 ≤ ((okN l cmF : Nat) : Int) * (x.tmod 5) := Int.mul_nonneg (by omega) t0
  have p1 : ((okN l cmF : Nat) : Int) * (x.tmod 5) ≤ 20 * 4 := Int.mul_le_mul (by omega) (by omega) t0 (by decide)
  generalize ((okN l cmF : Nat) : Int) * (x.tmod 5) = p at *
  have hq : IntKind.i64.wrap ((IntKind.i64.wrap p).tdiv 4) = p / 4 := by
    rw [ZaK (n := p) (by omega) (by omega), Int.tdiv_eq_ediv_of_nonneg p0, ZaK (by omega) (by omega)]
  rw [hq]
  have hq0 : 0 ≤ p / 4 := by omega
  obtain ⟨q, eq⟩ := Int.eq_ofNat_of_zero_le hq0
  rw [eq]
  have tail : ∀ n : Nat, n ≤ okN l cmF → (Option.bind (Zcy (l.take ((n : Nat) : Int).toNat)) fun r391 =>
      bif (!(decide (((r391.2.length : Nat) : Int) = ((n : Nat) : Int)))) then
        some false
      else bif (!(decide ((gi r391.1 0) = ((n : Nat) : Int)))) then
        some false
      else Option.bind (ZM ((((n : Nat) : Int) - 0).toNat + 1) l ((n : Nat) : Int) 0 ((Zz l).b 4 5 6 7) ((Za6 l).map ZbN) (V.agg [(V.int .i64 (gi r391.1 0)), (V.sl 8 Zg 0 none), (V.sl 9 Zf 0 none), (V.int .i64 (gi r391.1 3)), (V.sl 10 Zd 0 none), (V.sl 11 Ze 0 none)]) r391.2 (Zz l).rows (Zz l).tombs (Zz l).sess (Zz l).lasts (gl r391.1 1) (gl r391.1 2) (gl r391.1 4) (gl r391.1 5)) fun r392 =>
      bif (Nat.beq r392.1 0) then
        some r392.2.1
      else Option.bind (ZT ((((r392.2.2.2.2.2.1.length : Nat) : Int) - r392.2.2.2.1).toNat + 1) r392.2.2.1 r392.2.2.2.1 (V.agg [(V.int .i64 (gi r392.2.2.2.2.1 0)), (V.sl 3 Zg 0 none), (V.sl 4 Zf 0 none), (V.int .i64 (gi r392.2.2.2.2.1 3)), (V.sl 5 Zd 0 none), (V.sl 6 Ze 0 none)]) r392.2.2.2.2.2.1 (V.agg [(V.int .i64 (gi r392.2.2.2.2.2.2.1 0)), (V.sl 7 Zg 0 none), (V.sl 8 Zf 0 none), (V.int .i64 (gi r392.2.2.2.2.2.2.1 3)), (V.sl 9 Zd 0 none), (V.sl 10 Ze 0 none)]) r392.2.2.2.2.2.2.2.1 r392.2.2.2.2.2.2.2.2.1 r392.2.2.2.2.2.2.2.2.2.1 r392.2.2.2.2.2.2.2.2.2.2.1 r392.2.2.2.2.2.2.2.2.2.2.2.1 r392.2.2.2.2.2.2.2.2.2.2.2.2.1 r392.2.2.2.2.2.2.2.2.2.2.2.2.2.1 r392.2.2.2.2.2.2.2.2.2.2.2.2.2.2) fun r394 =>
      bif (Nat.beq r394.1 0) then
        some r394.2.1
      else Option.bind (Zbs (V.agg [(V.int .i64 (gi r394.2.2.2.2.2.1 0)), (V.inl Zg r394.2.2.2.2.2.2.2.2.2.2.1), (V.inl Zf r394.2.2.2.2.2.2.2.2.2.2.2.1), (V.int .i64 (gi r394.2.2.2.2.2.1 3)), (V.inl Zd r394.2.2.2.2.2.2.2.2.2.2.2.2.1), (V.inl Ze r394.2.2.2.2.2.2.2.2.2.2.2.2.2)]) (V.agg [(V.int .i64 (gi r394.2.2.2.1 0)), (V.inl Zg r394.2.2.2.2.2.2.1), (V.inl Zf r394.2.2.2.2.2.2.2.1), (V.int .i64 (gi r394.2.2.2.1 3)), (V.inl Zd r394.2.2.2.2.2.2.2.2.1), (V.inl Ze r394.2.2.2.2.2.2.2.2.2.1)])) fun r399 =>
      bif r399 then
        bif (decide (((r394.2.2.2.2.1.length : Nat) : Int) = ((r394.2.2.1.length : Nat) : Int))) then
          some Zgl
        else bif (Zm ((r394.2.2.2.2.1.length : Nat) : Int) r394.2.2.1.length) then
          Option.bind (Zcm (V.agg [(V.int .i64 (gi (rd r394.2.2.1 (((r394.2.2.2.2.1.length : Nat) : Int).toNat)) 1)), (V.int .i64 (gi (rd r394.2.2.1 (((r394.2.2.2.2.1.length : Nat) : Int).toNat)) 2)), (V.int .i64 (gi (rd r394.2.2.1 (((r394.2.2.2.2.1.length : Nat) : Int).toNat)) 3)), (V.inl Zb (gl (rd r394.2.2.1 (((r394.2.2.2.2.1.length : Nat) : Int).toNat)) 4)), (V.inl Zb (gl (rd r394.2.2.1 (((r394.2.2.2.2.1.length : Nat) : Int).toNat)) 5)), (V.int .i64 (gi (rd r394.2.2.1 (((r394.2.2.2.2.1.length : Nat) : Int).toNat)) 6))])) fun r400 =>
          bif (!r400) then
            some Zgl
          else some false
        else none
      else some false) = some true := fun n hno => by
    have hlt : ∀ f ∈ l.take n, Zdg (cmF f) := fun f hf => hl f (List.mem_of_mem_take hf)
    obtain ⟨e1, e2⟩ := ZfA l hno
    rw [Int.toNat_natCast, ZkL hlt (by rw [List.length_take]; omega)]
    have hQl : (Za6 (l.take n)).length = n := by rw [ZgZ, e1]
    obtain ⟨k1, k2, k3⟩ := ZgY hl hn hno
    have hst2 : Zz (l.take n) = runS SD.zero ((l.take n).map cmF) := by unfold Zz; rw [e1, e2]
    rw [← hst2] at k1 k2 k3
    simp only [Option.bind_some, List.length_map, hQl, decide_true, Bool.not_true, cond_false, show gi (Zz (l.take n)).v 0 = (Zz (l.take n)).idx from rfl, k3, Zbq]
    have h12 := fol_l12 (l := l) (s := Zz l) (x := Zz (l.take n)) (R := Za6 l) (Q := Za6 (l.take n)) (n := n) (by omega) (by omega) (by omega) (fun i h1 h2 hi => by
      have e5 := ZkM l hno
      have e6 : (Za6 l)[i]? = (Za6 (l.take n))[i]? := by rw [e5, List.getElem?_append_left (by omega)]
      rw [List.getElem?_eq_getElem h1, List.getElem?_eq_getElem h2] at e6
      exact (Option.some.inj e6).symm)
    have h12 := Eq.trans (congrArg (fun z_ : Int => ZM (n + 1) l ((n : Nat) : Int) 0 ((Zz l).b 4 5 6 7) ((Za6 l).map ZbN) (V.agg [(V.int .i64 z_), (V.sl 8 Zg 0 none), (V.sl 9 Zf 0 none), (V.int .i64 (gi (Zz (l.take n)).v 3)), (V.sl 10 Zd 0 none), (V.sl 11 Ze 0 none)]) ((Za6 (l.take n)).map ZbN) (Zz l).rows (Zz l).tombs (Zz l).sess (Zz l).lasts (gl (Zz (l.take n)).v 1) (gl (Zz (l.take n)).v 2) (gl (Zz (l.take n)).v 4) (gl (Zz (l.take n)).v 5)) k3.symm) h12
    rw [h12]
    simp only [Option.bind_some, show Nat.beq 1 0 = false from rfl, cond_false]
    obtain ⟨b0, r3, r4, r5, r6, h17, q1, q2, q3, q4, q5⟩ := fol_l17 hl hn hno (s := Zz l)
    subst q1; subst q2; subst q3; subst q4; subst q5
    rw [List.length_map]
    refine Eq.trans (congrArg (fun o => Option.bind o _) (show _ = _ from h17)) ?_
    simp only [Option.bind_some, show Nat.beq 1 0 = false from rfl, cond_false, List.length_map, hRl]
    refine Eq.trans (congrArg (fun o => Option.bind o _) (show _ = _ from Zko g1)) ?_
    simp only [Option.bind_some, cond_true]
    by_cases hc : okN l cmF = l.length
    · rw [decide_eq_true (show ((okN l cmF : Nat) : Int) = ((l.length : Nat) : Int) by omega)]; rfl
    · rw [decide_eq_false (show ¬ ((okN l cmF : Nat) : Int) = ((l.length : Nat) : Int) by omega), Zp (show okN l cmF < l.length by omega), Int.toNat_natCast]
      have hce : Zcm (cmF (rd l (okN l cmF))) = some (Zcz (cmF (rd l (okN l cmF)))) := Zg8 (hl _ (ZE (by omega)))
      rw [Zkn (by omega)] at hce
      simp only [cond_false, cond_true]
      refine Eq.trans (congrArg (fun o => Option.bind o _) (show _ = _ from hce)) ?_
      rfl
  by_cases hc : ((okN l cmF : Nat) : Int) < ((q : Nat) : Int)
  · rw [decide_eq_true hc, decide_eq_true (show (0 : Int) ≤ ((okN l cmF : Nat) : Int) by omega), decide_eq_true (show ((okN l cmF : Nat) : Int) ≤ ((l.length : Nat) : Int) by omega)]
    rw [Bool.and_self, cond_true]; have t0 := tail (okN l cmF) (Nat.le_refl _); unfold SD.b at t0; rw [g3] at t0; exact t0
  · rw [decide_eq_false hc, decide_eq_true (show (0 : Int) ≤ ((q : Nat) : Int) by omega), decide_eq_true (show ((q : Nat) : Int) ≤ ((l.length : Nat) : Int) by omega)]
    rw [Bool.and_self, cond_true]; have t0 := tail q (by omega); unfold SD.b at t0; rw [g3] at t0; exact t0
end Go.Eng.R
open Go Go.Eng
namespace Go.Eng.R
theorem wt_byte {x : V} (h : WtT tab Zb x) : Zal x := wt_u8 (h.cell 0 rfl)
def readable : List TypeId := [5, 31]
end Go.Eng.R
