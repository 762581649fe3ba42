/- An own evaluator of the program's form, proved sound, and what it says of this law's functions: part 3. -/
import Derived.Test.YtkjlebfmaembiaaE2
import Derived.Lib.SlBytesConst
import Derived.Lib.Walk
import Derived.Test.YtkjlebfmaembiaaChecked
import Derived.WalkKit
set_option linter.unusedVariables false
open Go Go.Eng
namespace Go.Eng.R
def laws_szByteS (a : List V) (left : Int) : Int :=
  bif (decide ((IntKind.i64.wrap (left - ((a.length : Nat) : Int))) < 0)) then
    (-1)
  else (IntKind.i64.wrap (left - ((a.length : Nat) : Int)))
def laws_szCheck (a : V) (left : Int) : Int :=
  bif (decide ((laws_szByteS (gl a 0) left) < 0)) then
    (-1)
  else (laws_szByteS (gl a 0) left)
def laws_szCheckS_l5 : Nat → List V → Int → Int → Option (Nat × Int × Int)
  | 0, _, _, _ => none
  | k_ + 1, a0, left1, i5 =>
    bif (decide (i5 < ((a0.length : Nat) : Int))) then
      bif (idxOk i5 a0.length) then
        bif (decide ((laws_szCheck (n_laws_Check (rd a0 i5.toNat)) left1) < 0)) then
          some (0, laws_szCheck (n_laws_Check (rd a0 i5.toNat)) left1, -1)
        else laws_szCheckS_l5 k_ a0 (laws_szCheck (n_laws_Check (rd a0 i5.toNat)) left1) (IntKind.i64.wrap (i5 + 1))
      else none
    else some (1, left1, 0)
def laws_szCheckS (a : List V) (left : Int) : Option (Int) :=
  bif (decide ((IntKind.i64.wrap (left - ((a.length : Nat) : Int))) < 0)) then
    some (-1)
  else Option.bind (laws_szCheckS_l5 ((((a.length : Nat) : Int) - 0).toNat + 1) a (IntKind.i64.wrap (left - ((a.length : Nat) : Int))) 0) fun r1 =>
  bif (Nat.beq r1.1 0) then
    some r1.2.2
  else some r1.2.1
def laws_szService (a : V) (left : Int) : Option (Int) :=
  bif (decide ((laws_szByteS (gl a 0) left) < 0)) then
    some (-1)
  else Option.bind (laws_szCheckS (gl a 1) (laws_szByteS (gl a 0) left)) fun r2 =>
  bif (decide (r2 < 0)) then
    some (-1)
  else some r2
def laws_szServiceS_l5 : Nat → List V → Int → Int → Option (Nat × Int × Int)
  | 0, _, _, _ => none
  | k_ + 1, a0, left1, i5 =>
    bif (decide (i5 < ((a0.length : Nat) : Int))) then
      bif (idxOk i5 a0.length) then
        Option.bind (laws_szService (n_laws_Service (rd a0 i5.toNat)) left1) fun r3 =>
        bif (decide (r3 < 0)) then
          some (0, r3, -1)
        else laws_szServiceS_l5 k_ a0 r3 (IntKind.i64.wrap (i5 + 1))
      else none
    else some (1, left1, 0)
def laws_szServiceS (a : List V) (left : Int) : Option (Int) :=
  bif (decide ((IntKind.i64.wrap (left - ((a.length : Nat) : Int))) < 0)) then
    some (-1)
  else Option.bind (laws_szServiceS_l5 ((((a.length : Nat) : Int) - 0).toNat + 1) a (IntKind.i64.wrap (left - ((a.length : Nat) : Int))) 0) fun r4 =>
  bif (Nat.beq r4.1 0) then
    some r4.2.2
  else some r4.2.1
def laws_szLocal (a : V) (left : Int) : Option (Int) :=
  bif (decide ((laws_szByteS (gl a 0) left) < 0)) then
    some (-1)
  else Option.bind (laws_szServiceS (gl a 1) (laws_szByteS (gl a 0) left)) fun r5 =>
  bif (decide (r5 < 0)) then
    some (-1)
  else some r5
def laws_toByteS_l3 : Nat → List V → Int → List V → Option (List V)
  | 0, _, _, _ => none
  | k_ + 1, a0, i4, r0 =>
    bif (decide (i4 < ((a0.length : Nat) : Int))) then
      bif (idxOk i4 a0.length) then
        bif (idxOk i4 r0.length) then
          laws_toByteS_l3 k_ a0 (IntKind.i64.wrap (i4 + 1)) (r0.set (0 + i4.toNat) (V.int .u8 (gi (rd a0 i4.toNat) 0)))
        else none
      else none
    else some r0
def laws_toByteS (a : List V) : Option (List V) :=
  bif (((decide ((0 : Int) ≤ ((a.length : Nat) : Int))) && decide (((a.length : Nat) : Int) = ((a.length : Nat) : Int))) && (roomy (((a.length : Nat) : Int).toNat) 1)) then
    Option.bind (laws_toByteS_l3 ((((a.length : Nat) : Int) - 0).toNat + 1) a 0 (List.replicate (((a.length : Nat) : Int).toNat) (V.int .u8 0))) fun r7 =>
    some r7
  else none
def laws_toCheck (a : V) : Option (V) :=
  Option.bind (laws_toByteS (gl a 0)) fun r10 =>
  some (V.agg [(V.inl t_byte r10), (V.int .i64 (gi a 1)), (V.int .i64 (gi a 2)), (V.int .i64 (gi a 3)), (V.int .i64 (gi a 4)), (V.int .i64 (gi a 5))])
def laws_toCheckS_l3 : Nat → List V → Int → List V → Option (List V)
  | 0, _, _, _ => none
  | k_ + 1, a0, i4, r0 =>
    bif (decide (i4 < ((a0.length : Nat) : Int))) then
      bif (idxOk i4 a0.length) then
        Option.bind (laws_toCheck (n_laws_Check (rd a0 i4.toNat))) fun r11 =>
        bif (idxOk i4 r0.length) then
          laws_toCheckS_l3 k_ a0 (IntKind.i64.wrap (i4 + 1)) (r0.set (0 + i4.toNat) (n_laws_Check r11))
        else none
      else none
    else some r0
def laws_toCheckS (a : List V) : Option (List V) :=
  bif (((decide ((0 : Int) ≤ ((a.length : Nat) : Int))) && decide (((a.length : Nat) : Int) = ((a.length : Nat) : Int))) && (roomy (((a.length : Nat) : Int).toNat) 64)) then
    Option.bind (laws_toCheckS_l3 ((((a.length : Nat) : Int) - 0).toNat + 1) a 0 (List.replicate (((a.length : Nat) : Int).toNat) (V.agg [(V.inl t_byte []), (V.int .i64 0), (V.int .i64 0), (V.int .i64 0), (V.int .i64 0), (V.int .i64 0)]))) fun r12 =>
    some r12
  else none
def laws_toService (a : V) : Option (V) :=
  Option.bind (laws_toByteS (gl a 0)) fun r9 =>
  Option.bind (laws_toCheckS (gl a 1)) fun r13 =>
  some (V.agg [(V.inl t_byte r9), (V.inl t_impl_Check r13)])
def laws_toServiceS_l3 : Nat → List V → Int → List V → Option (List V)
  | 0, _, _, _ => none
  | k_ + 1, a0, i4, r0 =>
    bif (decide (i4 < ((a0.length : Nat) : Int))) then
      bif (idxOk i4 a0.length) then
        Option.bind (laws_toService (n_laws_Service (rd a0 i4.toNat))) fun r14 =>
        bif (idxOk i4 r0.length) then
          laws_toServiceS_l3 k_ a0 (IntKind.i64.wrap (i4 + 1)) (r0.set (0 + i4.toNat) (n_impl_Service r14))
        else none
      else none
    else some r0
def laws_toServiceS (a : List V) : Option (List V) :=
  bif (((decide ((0 : Int) ≤ ((a.length : Nat) : Int))) && decide (((a.length : Nat) : Int) = ((a.length : Nat) : Int))) && (roomy (((a.length : Nat) : Int).toNat) 48)) then
    Option.bind (laws_toServiceS_l3 ((((a.length : Nat) : Int) - 0).toNat + 1) a 0 (List.replicate (((a.length : Nat) : Int).toNat) (V.agg [(V.inl t_byte []), (V.inl t_impl_Check [])]))) fun r15 =>
    some r15
  else none
def laws_toLocal (a : V) : Option (V) :=
  Option.bind (laws_toByteS (gl a 0)) fun r8 =>
  Option.bind (laws_toServiceS (gl a 1)) fun r16 =>
  some (V.agg [(V.inl t_byte r8), (V.inl t_impl_Service r16)])
def spec_l2key_l4 : Nat → List V → Int → Option (Nat × Bool)
  | 0, _, _ => none
  | k_ + 1, b0, i3 =>
    bif (decide (i3 < ((b0.length : Nat) : Int))) then
      bif (idxOk i3 b0.length) then
        bif (decide ((gi (rd b0 i3.toNat) 0) < 97)) then
          bif (idxOk i3 b0.length) then
            bif (!(decide ((gi (rd b0 i3.toNat) 0) = 47))) then
              some (0, false)
            else spec_l2key_l4 k_ b0 (IntKind.i64.wrap (i3 + 1))
          else none
        else bif (idxOk i3 b0.length) then
          bif (decide ((122 : Int) < (gi (rd b0 i3.toNat) 0))) then
            bif (idxOk i3 b0.length) then
              bif (!(decide ((gi (rd b0 i3.toNat) 0) = 47))) then
                some (0, false)
              else spec_l2key_l4 k_ b0 (IntKind.i64.wrap (i3 + 1))
            else none
          else spec_l2key_l4 k_ b0 (IntKind.i64.wrap (i3 + 1))
        else none
      else none
    else some (1, false)
def spec_l2key (b : List V) : Option (Bool) :=
  bif (decide (((b.length : Nat) : Int) < 1)) then
    some false
  else bif (decide ((20 : Int) < ((b.length : Nat) : Int))) then
    some false
  else Option.bind (spec_l2key_l4 ((((b.length : Nat) : Int) - 0).toNat + 1) b 0) fun r20 =>
  bif (Nat.beq r20.1 0) then
    some r20.2
  else some true
def spec_l14part_l2 : Nat → List V → Int → Option (Nat × List V × Bool)
  | 0, _, _ => none
  | k_ + 1, b0, i3 =>
    bif (decide (i3 < ((b0.length : Nat) : Int))) then
      bif (idxOk i3 b0.length) then
        bif (decide ((gi (rd b0 i3.toNat) 0) = 47)) then
          some (0, b0, false)
        else spec_l14part_l2 k_ b0 (IntKind.i64.wrap (i3 + 1))
      else none
    else some (1, b0, false)
def spec_l14part (b : List V) : Option (Bool) :=
  Option.bind (spec_l14part_l2 ((((b.length : Nat) : Int) - 0).toNat + 1) b 0) fun r19 =>
  bif (Nat.beq r19.1 0) then
    some r19.2.2
  else Option.bind (spec_l2key r19.2.1) fun r21 =>
  some r21
def spec_CheckOk (c : V) : Option (Bool) :=
  Option.bind (spec_l2key (gl c 0)) fun r26 =>
  bif (!r26) then
    some false
  else bif (decide ((gi c 1) < 0)) then
    some false
  else bif (decide ((1000 : Int) < (gi c 1))) then
    some false
  else bif (decide ((gi c 2) < 1)) then
    some false
  else bif (decide ((5 : Int) < (gi c 2))) then
    some false
  else bif (decide ((gi c 3) < 0)) then
    some false
  else bif (decide ((2 : Int) < (gi c 3))) then
    some false
  else bif (decide ((gi c 4) < 0)) then
    some false
  else bif (decide ((1000 : Int) < (gi c 4))) then
    some false
  else bif (decide ((gi c 5) < 0)) then
    some false
  else bif (decide ((gi c 2) < (gi c 5))) then
    some false
  else bif (decide ((0 : Int) < (gi c 1))) then
    bif (decide ((gi c 1) ≤ (gi c 4))) then
      bif (!(decide ((gi c 3) = 2))) then
        some false
      else bif (!(decide ((gi c 3) = 0))) then
        some true
      else some (decide ((gi c 5) = 0))
    else bif (!(decide ((gi c 3) = 0))) then
      some true
    else some (decide ((gi c 5) = 0))
  else bif (!(decide ((gi c 3) = 0))) then
    some true
  else some (decide ((gi c 5) = 0))
def spec_LocalOk_l10 : Nat → Int → Int → V → V → Option (Nat × Bool × Int × V)
  | 0, _, _, _, _ => none
  | k_ + 1, i3, k5, b0, b1 =>
    bif (decide (k5 < (((gl b1 1).length : Nat) : Int))) then
      bif (idxOk k5 ((gl b1 1).length)) then
        Option.bind (spec_CheckOk (n_laws_Check (rd (gl b1 1) k5.toNat))) fun r27 =>
        bif (!r27) then
          some (0, false, i3, (n_impl_Local b0))
        else bif (decide ((0 : Int) < k5)) then
          bif (idxOk (IntKind.i64.wrap (k5 - 1)) ((gl b1 1).length)) then
            bif (idxOk k5 ((gl b1 1).length)) then
              bif (!(ltList ((gl (rd (gl b1 1) ((IntKind.i64.wrap (k5 - 1)).toNat)) 0).map normB) ((gl (rd (gl b1 1) k5.toNat) 0).map normB))) then
                some (0, false, i3, (n_impl_Local b0))
              else spec_LocalOk_l10 k_ i3 (IntKind.i64.wrap (k5 + 1)) (n_impl_Local b0) (n_impl_Service b1)
            else none
          else none
        else spec_LocalOk_l10 k_ i3 (IntKind.i64.wrap (k5 + 1)) (n_impl_Local b0) (n_impl_Service b1)
      else none
    else some (1, false, i3, (n_impl_Local b0))
def spec_LocalOk_l4 : Nat → Int → V → Option (Nat × Bool)
  | 0, _, _ => none
  | k_ + 1, i3, b0 =>
    bif (decide (i3 < (((gl b0 1).length : Nat) : Int))) then
      bif (idxOk i3 ((gl b0 1).length)) then
        Option.bind (spec_l14part (gl (rd (gl b0 1) i3.toNat) 0)) fun r23 =>
        bif (!r23) then
          some (0, false)
        else Option.bind (keyV (gl b0 0) (gl (rd (gl b0 1) i3.toNat) 0)) fun r24 =>
        Option.bind (spec_l2key r24) fun r25 =>
        bif (!r25) then
          some (0, false)
        else bif (decide ((4 : Int) < (((gl (rd (gl b0 1) i3.toNat) 1).length : Nat) : Int))) then
          some (0, false)
        else bif (decide ((0 : Int) < i3)) then
          bif (idxOk (IntKind.i64.wrap (i3 - 1)) ((gl b0 1).length)) then
            bif (!(ltList ((gl (rd (gl b0 1) ((IntKind.i64.wrap (i3 - 1)).toNat)) 0).map normB) ((gl (rd (gl b0 1) i3.toNat) 0).map normB))) then
              some (0, false)
            else Option.bind (spec_LocalOk_l10 (((((gl (n_impl_Service (rd (gl b0 1) i3.toNat)) 1).length : Nat) : Int) - 0).toNat + 1) i3 0 (n_impl_Local b0) (n_impl_Service (rd (gl b0 1) i3.toNat))) fun r28 =>
            bif (Nat.beq r28.1 0) then
              some (0, r28.2.1)
            else spec_LocalOk_l4 k_ (IntKind.i64.wrap (r28.2.2.1 + 1)) (n_impl_Local r28.2.2.2)
          else none
        else Option.bind (spec_LocalOk_l10 (((((gl (n_impl_Service (rd (gl b0 1) i3.toNat)) 1).length : Nat) : Int) - 0).toNat + 1) i3 0 (n_impl_Local b0) (n_impl_Service (rd (gl b0 1) i3.toNat))) fun r29 =>
        bif (Nat.beq r29.1 0) then
          some (0, r29.2.1)
        else spec_LocalOk_l4 k_ (IntKind.i64.wrap (r29.2.2.1 + 1)) (n_impl_Local r29.2.2.2)
      else none
    else some (1, false)
def spec_LocalOk (l : V) : Option (Bool) :=
  Option.bind (spec_l14part (gl l 0)) fun r22 =>
  bif (!r22) then
    some false
  else bif (decide ((6 : Int) < (((gl l 1).length : Nat) : Int))) then
    some false
  else Option.bind (spec_LocalOk_l4 (((((gl (n_impl_Local l) 1).length : Nat) : Int) - 0).toNat + 1) 0 (n_impl_Local l)) fun r30 =>
  bif (Nat.beq r30.1 0) then
    some r30.2
  else some true
def spec_l14find_l2 : Nat → List V → Int → V → Option (Nat × Int)
  | 0, _, _, _ => none
  | k_ + 1, name1, i5, b0 =>
    bif (decide (i5 < (((gl b0 1).length : Nat) : Int))) then
      bif (idxOk i5 ((gl b0 1).length)) then
        bif (eqList ((gl (rd (gl b0 1) i5.toNat) 0).map normB) (name1.map normB)) then
          some (0, i5)
        else spec_l14find_l2 k_ name1 (IntKind.i64.wrap (i5 + 1)) (n_impl_Local b0)
      else none
    else some (1, 0)
def spec_l14find (l : V) (name : List V) : Option (Int) :=
  Option.bind (spec_l14find_l2 (((((gl (n_impl_Local l) 1).length : Nat) : Int) - 0).toNat + 1) name 0 (n_impl_Local l)) fun r32 =>
  bif (Nat.beq r32.1 0) then
    some r32.2
  else some (-1)
def spec_l13own (c : V) : Option (V) :=
  bif ((roomy (0 + ((gl c 0).length)) 1) && true) then
    some (n_laws_Check c)
  else none
def spec_l14own_l7 : Nat → Int → Int → V → List V → List V → List V → List V → List V → List V → Option (Int × V × List V × List V × List V × List V × List V × List V)
  | 0, _, _, _, _, _, _, _, _, _ => none
  | k_ + 1, i4, k6, b0, r4, r5, r6, r7, r8, r9 =>
    bif (idxOk i4 ((gl b0 1).length)) then
      bif (decide (k6 < (((gl (rd (gl b0 1) i4.toNat) 1).length : Nat) : Int))) then
        bif (idxOk i4 ((gl b0 1).length)) then
          bif (idxOk k6 ((gl (rd (gl b0 1) i4.toNat) 1).length)) then
            Option.bind (spec_l13own (n_laws_Check (rd (gl (rd (gl b0 1) i4.toNat) 1) k6.toNat))) fun r34 =>
            bif ((roomy (r9.length + 1) 64) && true) then
              spec_l14own_l7 k_ i4 (IntKind.i64.wrap (k6 + 1)) (n_impl_Local b0) r4 r5 r6 r7 r8 (r9 ++ [(n_laws_Check r34)])
            else none
          else none
        else none
      else some (i4, (n_impl_Local b0), r4, r5, r6, r7, r8, r9)
    else none
def spec_l14own_l3 : Nat → Int → V → List V → List V → List V → List V → Option (List V × List V × List V × List V)
  | 0, _, _, _, _, _, _ => none
  | k_ + 1, i4, b0, r3, r4, r5, r6 =>
    bif (decide (i4 < (((gl b0 1).length : Nat) : Int))) then
      bif (idxOk i4 ((gl b0 1).length)) then
        bif ((roomy (0 + ((gl (rd (gl b0 1) i4.toNat) 0).length)) 1) && true) then
          Option.bind (spec_l14own_l7 ((((gl (rd (gl (n_impl_Local b0) 1) i4.toNat) 1).length : Int) - 0).toNat + 1) i4 0 (n_impl_Local b0) r3 r4 r5 r6 (gl (rd (gl b0 1) i4.toNat) 0) []) fun r35 =>
          bif ((roomy (r35.2.2.2.2.2.1.length + 1) 48) && true) then
            spec_l14own_l3 k_ (IntKind.i64.wrap (r35.1 + 1)) (n_impl_Local r35.2.1) r35.2.2.1 r35.2.2.2.1 r35.2.2.2.2.1 (r35.2.2.2.2.2.1 ++ [(V.agg [(V.inl t_byte r35.2.2.2.2.2.2.1), (V.inl t_impl_Check r35.2.2.2.2.2.2.2)])])
          else none
        else none
      else none
    else some (r3, r4, r5, r6)
def spec_l14own (l : V) : Option (V) :=
  bif ((roomy (0 + ((gl l 0).length)) 1) && true) then
    Option.bind (spec_l14own_l3 (((((gl (n_impl_Local l) 1).length : Nat) : Int) - 0).toNat + 1) 0 (n_impl_Local l) [] [] (gl l 0) []) fun r36 =>
    some (V.agg [(V.inl t_byte r36.2.2.1), (V.inl t_impl_Service r36.2.2.2)])
  else none
def spec_l14done (was : V) (out : V) : Option (V × Bool) :=
  Option.bind (spec_LocalOk (n_impl_Local out)) fun r42 =>
  bif (!r42) then
    Option.bind (spec_l14own (n_impl_Local was)) fun r43 =>
    some ((n_impl_Local r43), false)
  else Option.bind (spec_l14own (n_impl_Local out)) fun r44 =>
  some ((n_impl_Local r44), true)
def spec_LocalAdd_l6 : Nat → List V → Int → V → List V → List V → Option (List V × Int × V × List V × List V)
  | 0, _, _, _, _, _ => none
  | k_ + 1, name1, i6, b0, r2, r3 =>
    bif (decide (i6 < (((gl b0 1).length : Nat) : Int))) then
      bif (idxOk i6 ((gl b0 1).length)) then
        bif (ltList ((gl (rd (gl b0 1) i6.toNat) 0).map normB) (name1.map normB)) then
          spec_LocalAdd_l6 k_ name1 (IntKind.i64.wrap (i6 + 1)) (n_impl_Local b0) r2 r3
        else some (name1, i6, (n_impl_Local b0), r2, r3)
      else none
    else some (name1, i6, (n_impl_Local b0), r2, r3)
def spec_LocalAdd (l : V) (name : List V) : Option (V × Bool) :=
  Option.bind (spec_LocalOk (n_impl_Local l)) fun r38 =>
  bif (!r38) then
    some ((V.agg [(V.inl t_byte []), (V.inl t_impl_Service [])]), false)
  else Option.bind (spec_l14find (n_impl_Local l) name) fun r39 =>
  bif (decide ((0 : Int) ≤ r39)) then
    Option.bind (spec_l14own (n_impl_Local l)) fun r40 =>
    some ((n_impl_Local r40), false)
  else Option.bind (spec_LocalAdd_l6 (((((gl (n_impl_Local l) 1).length : Nat) : Int) - 0).toNat + 1) name 0 (n_impl_Local l) [] []) fun r41 =>
  bif ((decide ((0 : Int) ≤ r41.2.1)) && (decide (r41.2.1 ≤ (((gl r41.2.2.1 1).length : Nat) : Int)))) then
    bif ((roomy (0 + (((gl r41.2.2.1 1).take r41.2.1.toNat).length)) 48) && true) then
      bif ((roomy ((((gl r41.2.2.1 1).take r41.2.1.toNat).length) + 1) 48) && true) then
        bif ((decide ((0 : Int) ≤ r41.2.1)) && (decide (r41.2.1 ≤ (((gl r41.2.2.1 1).length : Nat) : Int)))) then
          bif ((roomy (((((gl r41.2.2.1 1).take r41.2.1.toNat) ++ [(V.agg [(V.inl t_byte r41.1), (V.inl t_impl_Check [])])]).length) + (((gl r41.2.2.1 1).drop r41.2.1.toNat).length)) 48) && true) then
            Option.bind (spec_l14done (n_impl_Local r41.2.2.1) (V.agg [(V.inl t_byte (gl r41.2.2.1 0)), (V.inl t_impl_Service ((((gl r41.2.2.1 1).take r41.2.1.toNat) ++ [(V.agg [(V.inl t_byte r41.1), (V.inl t_impl_Check [])])]) ++ ((gl r41.2.2.1 1).drop r41.2.1.toNat)))])) fun r45 =>
            some ((n_impl_Local r45.1), r45.2)
          else none
        else none
      else none
    else none
  else none
def impl_within (n : Int) (low : Int) (high : Int) : Bool :=
  bif (decide (low ≤ n)) then
    (decide (n ≤ high))
  else false
def impl_KeyOk_l2 : Nat → List V → List V → Int → Int → Option (Nat × List V × Bool)
  | 0, _, _, _, _ => none
  | k_ + 1, b0, v5, v6, v7 =>
    bif (decide (v7 < v6)) then
      bif (idxOk v7 v5.length) then
        bif (decide ((gi (rd v5 v7.toNat) 0) < 97)) then
          bif (!(decide ((gi (rd v5 v7.toNat) 0) = 47))) then
            some (0, b0, false)
          else impl_KeyOk_l2 k_ b0 v5 v6 (IntKind.i64.wrap (v7 + 1))
        else bif (decide ((122 : Int) < (gi (rd v5 v7.toNat) 0))) then
          bif (!(decide ((gi (rd v5 v7.toNat) 0) = 47))) then
            some (0, b0, false)
          else impl_KeyOk_l2 k_ b0 v5 v6 (IntKind.i64.wrap (v7 + 1))
        else impl_KeyOk_l2 k_ b0 v5 v6 (IntKind.i64.wrap (v7 + 1))
      else none
    else some (1, b0, false)
def impl_KeyOk (b : List V) : Option (Bool) :=
  Option.bind (impl_KeyOk_l2 ((((b.length : Nat) : Int) - 0).toNat + 1) b b ((b.length : Nat) : Int) 0) fun r49 =>
  bif (Nat.beq r49.1 0) then
    some r49.2.2
  else some (impl_within ((r49.2.1.length : Nat) : Int) 1 20)
def slices_Index_byte_l2 : Nat → List V → Int → Int → Int → Option (Nat × Int)
  | 0, _, _, _, _ => none
  | k_ + 1, s0, v1, v7, v8 =>
    bif (decide (v8 < v7)) then
      bif (idxOk v8 s0.length) then
        bif (decide (v1 = (gi (rd s0 v8.toNat) 0))) then
          some (0, v8)
        else slices_Index_byte_l2 k_ s0 v1 v7 (IntKind.i64.wrap (v8 + 1))
      else none
    else some (1, 0)
def slices_Index_byte (s : List V) (v : Int) : Option (Int) :=
  Option.bind (slices_Index_byte_l2 ((((s.length : Nat) : Int) - 0).toNat + 1) s v ((s.length : Nat) : Int) 0) fun r51 =>
  bif (Nat.beq r51.1 0) then
    some r51.2
  else some (-1)
def slices_Contains_byte (s : List V) (v : Int) : Option (Bool) :=
  Option.bind (slices_Index_byte s v) fun r52 =>
  some (decide ((0 : Int) ≤ r52))
def impl_isPlain (b : List V) : Option (Bool) :=
  Option.bind (impl_KeyOk b) fun r50 =>
  bif r50 then
    Option.bind (slices_Contains_byte b 47) fun r53 =>
    some (!r53)
  else some false
def slices_Concat_byte_l3 : Nat → List V → Int → List V → Int → Int → Option (List V × Int)
  | 0, _, _, _, _, _ => none
  | k_ + 1, slices0, size3, v9, v10, v11 =>
    bif (decide (v11 < v10)) then
      bif (idxOk v11 v9.length) then
        bif (decide ((IntKind.i64.wrap (size3 + (((gl (rd v9 v11.toNat) 0).length : Nat) : Int))) < 0)) then
          none
        else slices_Concat_byte_l3 k_ slices0 (IntKind.i64.wrap (size3 + (((gl (rd v9 v11.toNat) 0).length : Nat) : Int))) v9 v10 (IntKind.i64.wrap (v11 + 1))
      else none
    else some (slices0, size3)
def slices_Concat_byte_l11 : Nat → List V → Int → Int → List V → Option (List V)
  | 0, _, _, _, _ => none
  | k_ + 1, v25, v26, v27, r0 =>
    bif (decide (v27 < v26)) then
      bif (idxOk v27 v25.length) then
        bif ((roomy (r0.length + ((gl (rd v25 v27.toNat) 0).length)) 1) && true) then
          slices_Concat_byte_l11 k_ v25 v26 (IntKind.i64.wrap (v27 + 1)) (r0 ++ (gl (rd v25 v27.toNat) 0))
        else none
      else none
    else some r0
def slices_Concat_byte (slices : List V) : Option (List V) :=
  Option.bind (slices_Concat_byte_l3 ((((slices.length : Nat) : Int) - 0).toNat + 1) slices 0 slices ((slices.length : Nat) : Int) 0) fun r56 =>
  Option.bind (growV r56.2) fun r57 =>
  Option.bind (slices_Concat_byte_l11 ((((r56.1.length : Nat) : Int) - 0).toNat + 1) r56.1 ((r56.1.length : Nat) : Int) 0 r57) fun r58 =>
  some r58
def impl_Local_ahead (l : V) : Option (List V) :=
  Option.bind (slices_Concat_byte [(V.inl t_byte [(V.int .u8 115), (V.int .u8 118), (V.int .u8 99), (V.int .u8 47)]), (V.inl t_byte (gl l 0)), (V.inl t_byte [(V.int .u8 47)])]) fun r59 =>
  some r59
def impl_Local_catalogKey (l : V) (name : List V) : Option (List V) :=
  Option.bind (impl_Local_ahead (n_impl_Local l)) fun r60 =>
  Option.bind (slices_Concat_byte [(V.inl t_byte r60), (V.inl t_byte name)]) fun r61 =>
  some r61
def impl_Check_late (c : V) : Bool :=
  bif (decide ((0 : Int) < (gi c 1))) then
    (decide ((gi c 1) ≤ (gi c 4)))
  else false
def impl_CheckOk (c : V) : Option (Bool) :=
  Option.bind (impl_KeyOk (gl c 0)) fun r64 =>
  bif r64 then
    bif impl_within (gi c 1) 0 1000 then
      bif impl_within (gi c 4) 0 1000 then
        bif impl_within (gi c 2) 1 5 then
          bif impl_within (gi c 3) 0 2 then
            bif impl_within (gi c 5) 0 (gi c 2) then
              bif (!(impl_Check_late (n_laws_Check c))) then
                bif (!(decide ((gi c 3) = 0))) then
                  some true
                else some (decide ((gi c 5) = 0))
              else bif (decide ((gi c 3) = 2)) then
                bif (!(decide ((gi c 3) = 0))) then
                  some true
                else some (decide ((gi c 5) = 0))
              else some false
            else some false
          else some false
        else some false
      else some false
    else some false
  else some false
def impl_LocalOk_l9 : Nat → List V → Int → Int → List V → Int → Int → V → V → Option (Nat × Bool × List V × Int × Int × V)
  | 0, _, _, _, _, _, _, _, _ => none
  | k_ + 1, v18, v19, v20, v61, v62, v63, b0, b1 =>
    bif (decide (v63 < v62)) then
      bif (idxOk v63 v61.length) then
        Option.bind (impl_CheckOk (n_laws_Check (rd v61 v63.toNat))) fun r65 =>
        bif (!r65) then
          some (0, false, v18, v19, v20, (n_impl_Local b0))
        else bif (decide ((0 : Int) < v63)) then
          bif (idxOk (IntKind.i64.wrap (v63 - 1)) ((gl b1 1).length)) then
            bif (decide ((0 : Int) ≤ (cmpV (gl (rd (gl b1 1) ((IntKind.i64.wrap (v63 - 1)).toNat)) 0) (gl (rd v61 v63.toNat) 0)))) then
              some (0, false, v18, v19, v20, (n_impl_Local b0))
            else impl_LocalOk_l9 k_ v18 v19 v20 v61 v62 (IntKind.i64.wrap (v63 + 1)) (n_impl_Local b0) (n_impl_Service b1)
          else none
        else impl_LocalOk_l9 k_ v18 v19 v20 v61 v62 (IntKind.i64.wrap (v63 + 1)) (n_impl_Local b0) (n_impl_Service b1)
      else none
    else some (1, false, v18, v19, v20, (n_impl_Local b0))
def impl_LocalOk_l4 : Nat → List V → Int → Int → V → Option (Nat × Bool)
  | 0, _, _, _, _ => none
  | k_ + 1, v18, v19, v20, b0 =>
    bif (decide (v20 < v19)) then
      bif (idxOk v20 v18.length) then
        Option.bind (impl_isPlain (gl (rd v18 v20.toNat) 0)) fun r55 =>
        bif (!r55) then
          some (0, false)
        else Option.bind (impl_Local_catalogKey (n_impl_Local b0) (gl (rd v18 v20.toNat) 0)) fun r62 =>
        Option.bind (impl_KeyOk r62) fun r63 =>
        bif (!r63) then
          some (0, false)
        else bif (decide ((4 : Int) < (((gl (rd v18 v20.toNat) 1).length : Nat) : Int))) then
          some (0, false)
        else bif (decide ((0 : Int) < v20)) then
          bif (idxOk (IntKind.i64.wrap (v20 - 1)) ((gl b0 1).length)) then
            bif (decide ((0 : Int) ≤ (cmpV (gl (rd (gl b0 1) ((IntKind.i64.wrap (v20 - 1)).toNat)) 0) (gl (rd v18 v20.toNat) 0)))) then
              some (0, false)
            else Option.bind (impl_LocalOk_l9 (((((gl (rd v18 v20.toNat) 1).length : Nat) : Int) - 0).toNat + 1) v18 v19 v20 (gl (rd v18 v20.toNat) 1) (((gl (rd v18 v20.toNat) 1).length : Nat) : Int) 0 (n_impl_Local b0) (n_impl_Service (rd v18 v20.toNat))) fun r66 =>
            bif (Nat.beq r66.1 0) then
              some (0, r66.2.1)
            else impl_LocalOk_l4 k_ r66.2.2.1 r66.2.2.2.1 (IntKind.i64.wrap (r66.2.2.2.2.1 + 1)) (n_impl_Local r66.2.2.2.2.2)
          else none
        else Option.bind (impl_LocalOk_l9 (((((gl (rd v18 v20.toNat) 1).length : Nat) : Int) - 0).toNat + 1) v18 v19 v20 (gl (rd v18 v20.toNat) 1) (((gl (rd v18 v20.toNat) 1).length : Nat) : Int) 0 (n_impl_Local b0) (n_impl_Service (rd v18 v20.toNat))) fun r67 =>
        bif (Nat.beq r67.1 0) then
          some (0, r67.2.1)
        else impl_LocalOk_l4 k_ r67.2.2.1 r67.2.2.2.1 (IntKind.i64.wrap (r67.2.2.2.2.1 + 1)) (n_impl_Local r67.2.2.2.2.2)
      else none
    else some (1, false)
def impl_LocalOk (l : V) : Option (Bool) :=
  Option.bind (impl_isPlain (gl l 0)) fun r54 =>
  bif (!r54) then
    some false
  else bif (decide ((6 : Int) < (((gl l 1).length : Nat) : Int))) then
    some false
  else Option.bind (impl_LocalOk_l4 (((((gl l 1).length : Nat) : Int) - 0).toNat + 1) (gl l 1) (((gl l 1).length : Nat) : Int) 0 (n_impl_Local l)) fun r68 =>
  bif (Nat.beq r68.1 0) then
    some r68.2
  else some true
def slices_Clone_byte (s : List V) : Option (List V) :=
  bif ((roomy (0 + s.length) 1) && true) then
    some s
  else none
def impl_Check_own (c : V) : Option (V) :=
  Option.bind (slices_Clone_byte (gl c 0)) fun r75 =>
  some (V.agg [(V.inl t_byte r75), (V.int .i64 (gi c 1)), (V.int .i64 (gi c 2)), (V.int .i64 (gi c 3)), (V.int .i64 (gi c 4)), (V.int .i64 (gi c 5))])
def impl_Local_own_l7 : Nat → List V → Int → Int → List V → Int → Int → List V → List V → List V → List V → List V → List V → Option (List V × Int × Int × List V × List V × List V × List V × List V × List V)
  | 0, _, _, _, _, _, _, _, _, _, _, _, _ => none
  | k_ + 1, v14, v15, v16, v25, v26, v27, r3, r4, r5, r6, r7, r8 =>
    bif (decide (v27 < v26)) then
      bif (idxOk v27 v25.length) then
        Option.bind (impl_Check_own (n_laws_Check (rd v25 v27.toNat))) fun r76 =>
        bif ((roomy (r8.length + 1) 64) && true) then
          impl_Local_own_l7 k_ v14 v15 v16 v25 v26 (IntKind.i64.wrap (v27 + 1)) r3 r4 r5 r6 r7 (r8 ++ [(n_laws_Check r76)])
        else none
      else none
    else some (v14, v15, v16, r3, r4, r5, r6, r7, r8)
def impl_Local_own_l3 : Nat → List V → Int → Int → List V → List V → List V → List V → Option (List V × List V × List V × List V)
  | 0, _, _, _, _, _, _, _ => none
  | k_ + 1, v14, v15, v16, r2, r3, r4, r5 =>
    bif (decide (v16 < v15)) then
      bif (idxOk v16 v14.length) then
        Option.bind (slices_Clone_byte (gl (rd v14 v16.toNat) 0)) fun r74 =>
        Option.bind (impl_Local_own_l7 (((((gl (rd v14 v16.toNat) 1).length : Nat) : Int) - 0).toNat + 1) v14 v15 v16 (gl (rd v14 v16.toNat) 1) (((gl (rd v14 v16.toNat) 1).length : Nat) : Int) 0 r2 r3 r4 r5 r74 []) fun r77 =>
        bif ((roomy (r77.2.2.2.2.2.2.1.length + 1) 48) && true) then
          impl_Local_own_l3 k_ r77.1 r77.2.1 (IntKind.i64.wrap (r77.2.2.1 + 1)) r77.2.2.2.1 r77.2.2.2.2.1 r77.2.2.2.2.2.1 (r77.2.2.2.2.2.2.1 ++ [(V.agg [(V.inl t_byte r77.2.2.2.2.2.2.2.1), (V.inl t_impl_Check r77.2.2.2.2.2.2.2.2)])])
        else none
      else none
    else some (r2, r3, r4, r5)
def impl_Local_own (l : V) : Option (V) :=
  Option.bind (slices_Clone_byte (gl l 0)) fun r73 =>
  Option.bind (impl_Local_own_l3 (((((gl l 1).length : Nat) : Int) - 0).toNat + 1) (gl l 1) (((gl l 1).length : Nat) : Int) 0 [] [] r73 []) fun r78 =>
  some (V.agg [(V.inl t_byte r78.2.2.1), (V.inl t_impl_Service r78.2.2.2)])
def impl_Local_service_1 (s : V) (name : List V) : Int :=
  (cmpV (gl s 0) name)
def slices_BinarySearchFunc_byte_l3 : Nat → List V → List V → Int → Int → Int → Option (List V × List V × Int × Int)
  | 0, _, _, _, _, _ => none
  | k_ + 1, x0, target1, n8, i9, j10 =>
    bif (decide (i9 < j10)) then
      bif (idxOk (IntKind.i64.wrap (sShr .u64 (IntKind.u64.wrap (IntKind.i64.wrap (i9 + j10))) 1)) x0.length) then
        bif (decide ((impl_Local_service_1 (n_impl_Service (rd x0 ((IntKind.i64.wrap (sShr .u64 (IntKind.u64.wrap (IntKind.i64.wrap (i9 + j10))) 1)).toNat))) target1) < 0)) then
          slices_BinarySearchFunc_byte_l3 k_ x0 target1 n8 (IntKind.i64.wrap ((IntKind.i64.wrap (sShr .u64 (IntKind.u64.wrap (IntKind.i64.wrap (i9 + j10))) 1)) + 1)) j10
        else slices_BinarySearchFunc_byte_l3 k_ x0 target1 n8 i9 (IntKind.i64.wrap (sShr .u64 (IntKind.u64.wrap (IntKind.i64.wrap (i9 + j10))) 1))
      else none
    else some (x0, target1, n8, i9)
def slices_BinarySearchFunc_byte (x : List V) (target : List V) : Option (Int × Bool) :=
  Option.bind (slices_BinarySearchFunc_byte_l3 ((((x.length : Nat) : Int) - 0).toNat + 1) x target ((x.length : Nat) : Int) 0 ((x.length : Nat) : Int)) fun r80 =>
  bif (decide (r80.2.2.2 < r80.2.2.1)) then
    bif (idxOk r80.2.2.2 r80.1.length) then
      some (r80.2.2.2, (decide ((impl_Local_service_1 (n_impl_Service (rd r80.1 r80.2.2.2.toNat)) r80.2.1) = 0)))
    else none
  else some (r80.2.2.2, false)
def impl_Local_service (l : V) (name : List V) : Option (Int × Bool) :=
  Option.bind (slices_BinarySearchFunc_byte (gl l 1) name) fun r81 =>
  some (r81.1, r81.2)
def impl_LocalAdd_1 (out : V) (a1 : V) : Option (Bool × V) :=
  Option.bind (impl_Local_service (n_impl_Local out) (gl a1 0)) fun r82 =>
  bif (!r82.2) then
    Option.bind (slices_Clone_byte (gl a1 0)) fun r83 =>
    Option.bind (insV 48 (gl out 1) r82.1 [(V.agg [(V.inl t_byte r83), (V.inl t_impl_Check [])])]) fun r84 =>
    some ((!r82.2), (V.agg [(V.inl t_byte (gl out 0)), (V.inl t_impl_Service r84)]))
  else some ((!r82.2), (n_impl_Local out))
def impl_changed_v1 (l : V) (change_0 : V) : Option (V × Bool) :=
  Option.bind (impl_LocalOk (n_impl_Local l)) fun r69 =>
  bif (!r69) then
    some ((V.agg [(V.inl t_byte []), (V.inl t_impl_Service [])]), false)
  else Option.bind (impl_Local_own (n_impl_Local l)) fun r79 =>
  Option.bind (impl_LocalAdd_1 (n_impl_Local r79) (V.agg [(V.inl t_byte (gl change_0 0))])) fun r85 =>
  bif (!r85.1) then
    Option.bind (impl_Local_own (n_impl_Local l)) fun r86 =>
    some ((n_impl_Local r86), false)
  else Option.bind (impl_LocalOk (n_impl_Local r85.2)) fun r87 =>
  bif (!r87) then
    Option.bind (impl_Local_own (n_impl_Local l)) fun r88 =>
    some ((n_impl_Local r88), false)
  else some ((n_impl_Local r85.2), true)
def impl_LocalAdd (l : V) (name : List V) : Option (V × Bool) :=
  Option.bind (impl_changed_v1 (n_impl_Local l) (V.agg [(V.inl t_byte name)])) fun r89 =>
  some ((n_impl_Local r89.1), r89.2)
def laws_eqByteS_l4 : Nat → List V → List V → Int → Option (Nat × Bool)
  | 0, _, _, _ => none
  | k_ + 1, a0, b1, i5 =>
    bif (decide (i5 < ((a0.length : Nat) : Int))) then
      bif (idxOk i5 a0.length) then
        bif (idxOk i5 b1.length) then
          bif (!(decide ((gi (rd a0 i5.toNat) 0) = (gi (rd b1 i5.toNat) 0)))) then
            some (0, false)
          else laws_eqByteS_l4 k_ a0 b1 (IntKind.i64.wrap (i5 + 1))
        else none
      else none
    else some (1, false)
def laws_eqByteS (a : List V) (b : List V) : Option (Bool) :=
  bif (!(decide (((a.length : Nat) : Int) = ((b.length : Nat) : Int)))) then
    some false
  else Option.bind (laws_eqByteS_l4 ((((a.length : Nat) : Int) - 0).toNat + 1) a b 0) fun r91 =>
  bif (Nat.beq r91.1 0) then
    some r91.2
  else some true
def laws_eqCheck (a : V) (b : V) : Option (Bool) :=
  Option.bind (laws_eqByteS (gl a 0) (gl b 0)) fun r94 =>
  bif (!r94) then
    some false
  else bif (!(decide ((gi a 1) = (gi b 1)))) then
    some false
  else bif (!(decide ((gi a 2) = (gi b 2)))) then
    some false
  else bif (!(decide ((gi a 3) = (gi b 3)))) then
    some false
  else bif (!(decide ((gi a 4) = (gi b 4)))) then
    some false
  else bif (!(decide ((gi a 5) = (gi b 5)))) then
    some false
  else some true
def laws_eqCheckS_l4 : Nat → List V → List V → Int → Option (Nat × Bool)
  | 0, _, _, _ => none
  | k_ + 1, a0, b1, i5 =>
    bif (decide (i5 < ((a0.length : Nat) : Int))) then
      bif (idxOk i5 a0.length) then
        bif (idxOk i5 b1.length) then
          Option.bind (laws_eqCheck (n_laws_Check (rd a0 i5.toNat)) (n_laws_Check (rd b1 i5.toNat))) fun r95 =>
          bif (!r95) then
            some (0, false)
          else laws_eqCheckS_l4 k_ a0 b1 (IntKind.i64.wrap (i5 + 1))
        else none
      else none
    else some (1, false)
def laws_eqCheckS (a : List V) (b : List V) : Option (Bool) :=
  bif (!(decide (((a.length : Nat) : Int) = ((b.length : Nat) : Int)))) then
    some false
  else Option.bind (laws_eqCheckS_l4 ((((a.length : Nat) : Int) - 0).toNat + 1) a b 0) fun r96 =>
  bif (Nat.beq r96.1 0) then
    some r96.2
  else some true
def laws_eqService (a : V) (b : V) : Option (Bool) :=
  Option.bind (laws_eqByteS (gl a 0) (gl b 0)) fun r93 =>
  bif (!r93) then
    some false
  else Option.bind (laws_eqCheckS (gl a 1) (gl b 1)) fun r97 =>
  bif (!r97) then
    some false
  else some true
def laws_eqServiceS_l4 : Nat → List V → List V → Int → Option (Nat × Bool)
  | 0, _, _, _ => none
  | k_ + 1, a0, b1, i5 =>
    bif (decide (i5 < ((a0.length : Nat) : Int))) then
      bif (idxOk i5 a0.length) then
        bif (idxOk i5 b1.length) then
          Option.bind (laws_eqService (n_impl_Service (rd a0 i5.toNat)) (n_impl_Service (rd b1 i5.toNat))) fun r98 =>
          bif (!r98) then
            some (0, false)
          else laws_eqServiceS_l4 k_ a0 b1 (IntKind.i64.wrap (i5 + 1))
        else none
      else none
    else some (1, false)
def laws_eqServiceS (a : List V) (b : List V) : Option (Bool) :=
  bif (!(decide (((a.length : Nat) : Int) = ((b.length : Nat) : Int)))) then
    some false
  else Option.bind (laws_eqServiceS_l4 ((((a.length : Nat) : Int) - 0).toNat + 1) a b 0) fun r99 =>
  bif (Nat.beq r99.1 0) then
    some r99.2
  else some true
def laws_eqLocal (a : V) (b : V) : Option (Bool) :=
  Option.bind (laws_eqByteS (gl a 0) (gl b 0)) fun r92 =>
  bif (!r92) then
    some false
  else Option.bind (laws_eqServiceS (gl a 1) (gl b 1)) fun r100 =>
  bif (!r100) then
    some false
  else some true
def laws_markByteS_l2 : Nat → Int → Int → List V → Option (Int × List V)
  | 0, _, _, _ => none
  | k_ + 1, k1, i5, r0 =>
    bif (decide (i5 < ((r0.length : Nat) : Int))) then
      bif (idxOk i5 r0.length) then
        laws_markByteS_l2 k_ (IntKind.i64.wrap (k1 + 1)) (IntKind.i64.wrap (i5 + 1)) (r0.set (0 + i5.toNat) (V.int .u8 (IntKind.u8.wrap k1)))
      else none
    else some (k1, r0)
def laws_markByteS (a : List V) (k : Int) : Option (Int × List V) :=
  Option.bind (laws_markByteS_l2 ((((a.length : Nat) : Int) - 0).toNat + 1) k 0 a) fun r106 =>
  some (r106.1, r106.2)
def laws_markCheckS_l2 : Nat → Int → Int → List V → Option (Int × List V)
  | 0, _, _, _ => none
  | k_ + 1, k1, i5, r0 =>
    bif (decide (i5 < ((r0.length : Nat) : Int))) then
      bif (idxOk i5 r0.length) then
        Option.bind (laws_markByteS (gl (rd r0 (0 + i5.toNat)) 0) k1) fun r109 =>
        bif (idxOk i5 r0.length) then
          rlet ((r0.set (0 + i5.toNat) (V.agg [(V.inl t_byte r109.2), (V.int .i64 (gi (rd r0 (0 + i5.toNat)) 1)), (V.int .i64 (gi (rd r0 (0 + i5.toNat)) 2)), (V.int .i64 (gi (rd r0 (0 + i5.toNat)) 3)), (V.int .i64 (gi (rd r0 (0 + i5.toNat)) 4)), (V.int .i64 (gi (rd r0 (0 + i5.toNat)) 5))]))) fun u110 =>
          rlet ((u110.set (0 + i5.toNat) (V.agg [(V.inl t_byte (gl (rd u110 (0 + i5.toNat)) 0)), (V.int .i64 r109.1), (V.int .i64 (gi (rd u110 (0 + i5.toNat)) 2)), (V.int .i64 (gi (rd u110 (0 + i5.toNat)) 3)), (V.int .i64 (gi (rd u110 (0 + i5.toNat)) 4)), (V.int .i64 (gi (rd u110 (0 + i5.toNat)) 5))]))) fun u111 =>
          bif (idxOk i5 u111.length) then
            rlet ((u111.set (0 + i5.toNat) (V.agg [(V.inl t_byte (gl (rd u111 (0 + i5.toNat)) 0)), (V.int .i64 (gi (rd u111 (0 + i5.toNat)) 1)), (V.int .i64 (IntKind.i64.wrap (r109.1 + 1))), (V.int .i64 (gi (rd u111 (0 + i5.toNat)) 3)), (V.int .i64 (gi (rd u111 (0 + i5.toNat)) 4)), (V.int .i64 (gi (rd u111 (0 + i5.toNat)) 5))]))) fun u112 =>
            bif (idxOk i5 u112.length) then
              rlet ((u112.set (0 + i5.toNat) (V.agg [(V.inl t_byte (gl (rd u112 (0 + i5.toNat)) 0)), (V.int .i64 (gi (rd u112 (0 + i5.toNat)) 1)), (V.int .i64 (gi (rd u112 (0 + i5.toNat)) 2)), (V.int .i64 (IntKind.i64.wrap ((IntKind.i64.wrap (r109.1 + 1)) + 1))), (V.int .i64 (gi (rd u112 (0 + i5.toNat)) 4)), (V.int .i64 (gi (rd u112 (0 + i5.toNat)) 5))]))) fun u113 =>
              bif (idxOk i5 u113.length) then
                rlet ((u113.set (0 + i5.toNat) (V.agg [(V.inl t_byte (gl (rd u113 (0 + i5.toNat)) 0)), (V.int .i64 (gi (rd u113 (0 + i5.toNat)) 1)), (V.int .i64 (gi (rd u113 (0 + i5.toNat)) 2)), (V.int .i64 (gi (rd u113 (0 + i5.toNat)) 3)), (V.int .i64 (IntKind.i64.wrap ((IntKind.i64.wrap ((IntKind.i64.wrap (r109.1 + 1)) + 1)) + 1))), (V.int .i64 (gi (rd u113 (0 + i5.toNat)) 5))]))) fun u114 =>
                bif (idxOk i5 u114.length) then
                  rlet ((u114.set (0 + i5.toNat) (V.agg [(V.inl t_byte (gl (rd u114 (0 + i5.toNat)) 0)), (V.int .i64 (gi (rd u114 (0 + i5.toNat)) 1)), (V.int .i64 (gi (rd u114 (0 + i5.toNat)) 2)), (V.int .i64 (gi (rd u114 (0 + i5.toNat)) 3)), (V.int .i64 (gi (rd u114 (0 + i5.toNat)) 4)), (V.int .i64 (IntKind.i64.wrap ((IntKind.i64.wrap ((IntKind.i64.wrap ((IntKind.i64.wrap (r109.1 + 1)) + 1)) + 1)) + 1)))]))) fun u115 =>
                  laws_markCheckS_l2 k_ (IntKind.i64.wrap ((IntKind.i64.wrap ((IntKind.i64.wrap ((IntKind.i64.wrap ((IntKind.i64.wrap (r109.1 + 1)) + 1)) + 1)) + 1)) + 1)) (IntKind.i64.wrap (i5 + 1)) u115
                else none
              else none
            else none
          else none
        else none
      else none
    else some (k1, r0)
def laws_markCheckS (a : List V) (k : Int) : Option (Int × List V) :=
  Option.bind (laws_markCheckS_l2 ((((a.length : Nat) : Int) - 0).toNat + 1) k 0 a) fun r116 =>
  some (r116.1, r116.2)
def laws_markServiceS_l2 : Nat → Int → Int → List V → Option (Int × List V)
  | 0, _, _, _ => none
  | k_ + 1, k1, i5, r0 =>
    bif (decide (i5 < ((r0.length : Nat) : Int))) then
      bif (idxOk i5 r0.length) then
        Option.bind (laws_markByteS (gl (rd r0 (0 + i5.toNat)) 0) k1) fun r118 =>
        bif (idxOk i5 r0.length) then
          Option.bind (laws_markCheckS (gl (rd (r0.set (0 + i5.toNat) (V.agg [(V.inl t_byte r118.2), (V.inl t_impl_Check (gl (rd r0 (0 + i5.toNat)) 1))])) (0 + i5.toNat)) 1) r118.1) fun r119 =>
          laws_markServiceS_l2 k_ r119.1 (IntKind.i64.wrap (i5 + 1)) ((r0.set (0 + i5.toNat) (V.agg [(V.inl t_byte r118.2), (V.inl t_impl_Check (gl (rd r0 (0 + i5.toNat)) 1))])).set (0 + i5.toNat) (V.agg [(V.inl t_byte (gl (rd (r0.set (0 + i5.toNat) (V.agg [(V.inl t_byte r118.2), (V.inl t_impl_Check (gl (rd r0 (0 + i5.toNat)) 1))])) (0 + i5.toNat)) 0)), (V.inl t_impl_Check r119.2)]))
        else none
      else none
    else some (k1, r0)
def laws_markServiceS (a : List V) (k : Int) : Option (Int × List V) :=
  Option.bind (laws_markServiceS_l2 ((((a.length : Nat) : Int) - 0).toNat + 1) k 0 a) fun r120 =>
  some (r120.1, r120.2)
def laws_markLocal (a : V) (k : Int) : Option (Int × List V × List V) :=
  Option.bind (laws_markByteS (gl a 0) k) fun r107 =>
  Option.bind (laws_markServiceS (gl a 1) r107.1) fun r121 =>
  some (r121.1, r107.2, r121.2)
def laws_heldByteS_l2 : Nat → List V → Int → Int → Option (Nat × Int × Int)
  | 0, _, _, _ => none
  | k_ + 1, a0, k1, i5 =>
    bif (decide (i5 < ((a0.length : Nat) : Int))) then
      bif (idxOk i5 a0.length) then
        bif (!(decide ((gi (rd a0 i5.toNat) 0) = (IntKind.u8.wrap k1)))) then
          some (0, k1, -1)
        else laws_heldByteS_l2 k_ a0 (IntKind.i64.wrap (k1 + 1)) (IntKind.i64.wrap (i5 + 1))
      else none
    else some (1, k1, 0)
def laws_heldByteS (a : List V) (k : Int) : Option (Int) :=
  Option.bind (laws_heldByteS_l2 ((((a.length : Nat) : Int) - 0).toNat + 1) a k 0) fun r126 =>
  bif (Nat.beq r126.1 0) then
    some r126.2.2
  else some r126.2.1
def laws_heldCheckS_l2 : Nat → List V → Int → Int → Option (Nat × Int × Int)
  | 0, _, _, _ => none
  | k_ + 1, a0, k1, i5 =>
    bif (decide (i5 < ((a0.length : Nat) : Int))) then
      bif (idxOk i5 a0.length) then
        Option.bind (laws_heldByteS (gl (rd a0 i5.toNat) 0) k1) fun r129 =>
        bif (decide (r129 < 0)) then
          some (0, r129, -1)
        else bif (idxOk i5 a0.length) then
          bif (!(decide ((gi (rd a0 i5.toNat) 1) = r129))) then
            some (0, r129, -1)
          else bif (idxOk i5 a0.length) then
            bif (!(decide ((gi (rd a0 i5.toNat) 2) = (IntKind.i64.wrap (r129 + 1))))) then
              some (0, (IntKind.i64.wrap (r129 + 1)), -1)
            else bif (idxOk i5 a0.length) then
              bif (!(decide ((gi (rd a0 i5.toNat) 3) = (IntKind.i64.wrap ((IntKind.i64.wrap (r129 + 1)) + 1))))) then
                some (0, (IntKind.i64.wrap ((IntKind.i64.wrap (r129 + 1)) + 1)), -1)
              else bif (idxOk i5 a0.length) then
                bif (!(decide ((gi (rd a0 i5.toNat) 4) = (IntKind.i64.wrap ((IntKind.i64.wrap ((IntKind.i64.wrap (r129 + 1)) + 1)) + 1))))) then
                  some (0, (IntKind.i64.wrap ((IntKind.i64.wrap ((IntKind.i64.wrap (r129 + 1)) + 1)) + 1)), -1)
                else bif (idxOk i5 a0.length) then
                  bif (!(decide ((gi (rd a0 i5.toNat) 5) = (IntKind.i64.wrap ((IntKind.i64.wrap ((IntKind.i64.wrap ((IntKind.i64.wrap (r129 + 1)) + 1)) + 1)) + 1))))) then
                    some (0, (IntKind.i64.wrap ((IntKind.i64.wrap ((IntKind.i64.wrap ((IntKind.i64.wrap (r129 + 1)) + 1)) + 1)) + 1)), -1)
                  else laws_heldCheckS_l2 k_ a0 (IntKind.i64.wrap ((IntKind.i64.wrap ((IntKind.i64.wrap ((IntKind.i64.wrap ((IntKind.i64.wrap (r129 + 1)) + 1)) + 1)) + 1)) + 1)) (IntKind.i64.wrap (i5 + 1))
                else none
              else none
            else none
          else none
        else none
      else none
    else some (1, k1, 0)
def laws_heldCheckS (a : List V) (k : Int) : Option (Int) :=
  Option.bind (laws_heldCheckS_l2 ((((a.length : Nat) : Int) - 0).toNat + 1) a k 0) fun r130 =>
  bif (Nat.beq r130.1 0) then
    some r130.2.2
  else some r130.2.1
def laws_heldServiceS_l2 : Nat → List V → Int → Int → Option (Nat × Int × Int)
  | 0, _, _, _ => none
  | k_ + 1, a0, k1, i5 =>
    bif (decide (i5 < ((a0.length : Nat) : Int))) then
      bif (idxOk i5 a0.length) then
        Option.bind (laws_heldByteS (gl (rd a0 i5.toNat) 0) k1) fun r128 =>
        bif (decide (r128 < 0)) then
          some (0, r128, -1)
        else bif (idxOk i5 a0.length) then
          Option.bind (laws_heldCheckS (gl (rd a0 i5.toNat) 1) r128) fun r131 =>
          bif (decide (r131 < 0)) then
            some (0, r131, -1)
          else laws_heldServiceS_l2 k_ a0 r131 (IntKind.i64.wrap (i5 + 1))
        else none
      else none
    else some (1, k1, 0)
def laws_heldServiceS (a : List V) (k : Int) : Option (Int) :=
  Option.bind (laws_heldServiceS_l2 ((((a.length : Nat) : Int) - 0).toNat + 1) a k 0) fun r132 =>
  bif (Nat.beq r132.1 0) then
    some r132.2.2
  else some r132.2.1
def laws_heldLocal (a : V) (k : Int) : Option (Int) :=
  Option.bind (laws_heldByteS (gl a 0) k) fun r127 =>
  bif (decide (r127 < 0)) then
    some (-1)
  else Option.bind (laws_heldServiceS (gl a 1) r127) fun r133 =>
  bif (decide (r133 < 0)) then
    some (-1)
  else some r133
def laws_FnExactLocalAdd (aL : V) (aName : List V) : Option (Bool) :=
  bif (decide ((1048576 : Int) < ((aName.length : Nat) : Int))) then
    some true
  else Option.bind (laws_szLocal (n_laws_Local aL) 1048576) fun r6 =>
  bif (decide (r6 < 0)) then
    some true
  else Option.bind (laws_toLocal (n_laws_Local aL)) fun r17 =>
  Option.bind (laws_toByteS aName) fun r18 =>
  Option.bind (spec_LocalAdd (n_impl_Local r17) r18) fun r46 =>
  Option.bind (laws_toLocal (n_laws_Local aL)) fun r47 =>
  Option.bind (laws_toByteS aName) fun r48 =>
  Option.bind (impl_LocalAdd (n_impl_Local r47) r48) fun r90 =>
  Option.bind (laws_eqLocal (n_impl_Local r90.1) (n_impl_Local r46.1)) fun r101 =>
  bif (!r101) then
    some false
  else bif (!(r90.2 == r46.2)) then
    some false
  else Option.bind (laws_toLocal (n_laws_Local aL)) fun r102 =>
  Option.bind (laws_eqLocal (n_impl_Local r47) (n_impl_Local r102)) fun r103 =>
  bif (!r103) then
    some false
  else Option.bind (laws_toByteS aName) fun r104 =>
  Option.bind (laws_eqByteS r48 r104) fun r105 =>
  bif (!r105) then
    some false
  else Option.bind (laws_markLocal (n_impl_Local r47) 1) fun r122 =>
  Option.bind (laws_markByteS r48 r122.1) fun r123 =>
  bif (decide (r123.1 < 0)) then
    some false
  else Option.bind (laws_eqLocal (n_impl_Local r90.1) (n_impl_Local r46.1)) fun r124 =>
  bif (!r124) then
    some false
  else bif (!(r90.2 == r46.2)) then
    some false
  else Option.bind (laws_markLocal (n_impl_Local r90.1) 1) fun r125 =>
  Option.bind (laws_heldLocal (V.agg [(V.inl t_byte r125.2.1), (V.inl t_impl_Service r125.2.2)]) 1) fun r134 =>
  bif (decide (r134 < 0)) then
    some false
  else bif (!(decide (r134 = r125.1))) then
    some false
  else Option.bind (laws_toLocal (n_laws_Local aL)) fun r135 =>
  Option.bind (laws_toByteS aName) fun r136 =>
  Option.bind (impl_LocalAdd (n_impl_Local r135) r136) fun r137 =>
  Option.bind (laws_eqLocal (n_impl_Local r137.1) (n_impl_Local r46.1)) fun r138 =>
  bif (!r138) then
    some false
  else bif (!(r137.2 == r46.2)) then
    some false
  else Option.bind (laws_heldLocal (V.agg [(V.inl t_byte r125.2.1), (V.inl t_impl_Service r125.2.2)]) 1) fun r139 =>
  bif (decide (r139 < 0)) then
    some false
  else bif (!(decide (r139 = r125.1))) then
    some false
  else some true
end Go.Eng.R
open Go Go.Eng Go.Proofs
namespace Go.Eng.R
theorem tab_ok : TabOk Try.prog tab := tabB_spec (by kernel_rfl)
theorem mixed : Try.prog.follows .mixedOrders = true := by kernel_rfl
theorem base : Base Try.prog tab := ⟨tab_ok, mixed⟩
def q0 : List S1 := [(.inl t_byte), (.int .i64), (.int .i64), (.int .i64), (.int .i64), (.int .i64)]
def h1 (x : V) : V := V.agg [(V.rr t_byte true (gl x 0)), (V.int .i64 (gi x 1)), (V.int .i64 (gi x 2)), (V.int .i64 (gi x 3)), (V.int .i64 (gi x 4)), (V.int .i64 (gi x 5))]
def h2 (x : V) : V := V.agg [(V.rr t_byte true (gl x 0)), (V.rr t_impl_Check true (gl x 1))]
def q3 : List S1 := [(.rr t_byte true), (.rr t_impl_Check true)]
def h4 (x : V) : V := V.agg [(V.rr t_byte true (gl x 0)), (V.rr t_impl_Service true (gl x 1))]
def q5 : List S1 := [(.rr t_byte true), (.rr t_impl_Service true)]
def l6 (x : V) : List V := [(V.inl t_byte (gl x 0)), (V.inl t_impl_Service (gl x 1))]
def l7 (x : V) : List V := [(V.rr t_byte true (gl x 0)), (V.rr t_impl_Service true (gl x 1))]
end Go.Eng.R
open Go Go.Eng Go.Proofs
namespace Go.Eng.R
theorem inf5 : (Try.prog.info? 5).map (·.size) = some 1 := by kernel_rfl
theorem sz5 : ∀ w, (Go.sizeOf 5).run Try.prog w = .ok 1 w := fun w => by kernel_rfl
theorem zv5 : ∀ w, (zeroValue 5).run Try.prog w = .ok (Value.int .u8 0) w := fun w => by kernel_rfl
theorem info5 : (Try.prog.info? 5).map (fun i => (i.zero, i.size, i.bytes)) = some (some (Value.int .u8 0), 1, 1) := by kernel_rfl
def keyC : Array Value := #[.int .u8 115, .int .u8 118, .int .u8 99, .int .u8 47]
set_option maxHeartbeats 4000000 in
set_option maxRecDepth 1000000 in
theorem key102 : KeyOk Try.prog 102 5 keyC.toList (.int .u8 47) := by
  intro w v1 v2 m k ys zs h1 h2 hm hk
  have hty := base.tab 5 _ rfl
  have hu := Try.underlying22
  have hCo : OneL keyC.toList := by
    intro v hv
    simp [keyC] at hv
    rcases hv with rfl | rfl | rfl | rfl <;> rfl
  obtain ⟨W0, hW0⟩ : ∃ W0, W0 = w.alloc (.cells keyC 5 (4, 5)) := ⟨_, rfl⟩
  have hk0 : KeptBut [] w W0 := by rw [hW0]; exact (KeptBut.refl _ w).alloc _
  have hN0 : W0.heap[w.heap.size]? = some (.cells keyC 5 (4, 5)) := by rw [hW0]; exact heap_alloc_mk w _
  have hs0 : W0.heap.size = w.heap.size + 1 := by rw [hW0]; exact heap_alloc_sz w _
  have hconv : (convert 22 22 (.slice (some ⟨w.heap.size, 0, none⟩) 4 4)).run Try.prog (w.alloc (.cells #[.int .u8 115, .int .u8 118, .int .u8 99, .int .u8 47] 5)) = .ok (.slice (some ⟨w.heap.size, 0, none⟩) 4 4) W0 := by
    rw [hW0]; exact Lib.run_convert_bytes_const w 22 5 keyC 4 4 hu Try.underlying5
  have hold : ∀ {W : World}, KeptBut [] w W → ∀ g, g < w.heap.size → W.heap[g]? = w.heap[g]? := fun hk g hg => hk.block g hg (by simp)
  have step2 : ∃ b1 W1, (Builtin.append_ #[22, 22] 22 #[.slice (some ⟨w.heap.size, 0, none⟩) 4 4, v1]).run Try.prog W0 = .ok b1 W1 ∧
      ∃ b2 W2, (Builtin.append_ #[22, 22] 22 #[b1, .slice (some ⟨W1.heap.size, 0, none⟩) 1 1]).run Try.prog (W1.alloc (.cells #[.int .u8 47] 5)) = .ok b2 W2 ∧
        RowIs W2 5 1 (4 + m + 1) b2 (keyC.toList ++ ys ++ [.int .u8 47]) ∧ KeptBut [] w W2 ∧ ∀ g ∈ topOf b2, w.heap.size ≤ g := by
    have hlit : ∀ W1 : World, Reads Try.prog (W1.alloc (.cells #[.int .u8 47] 5)) 1 1 (.slice (some ⟨W1.heap.size, 0, none⟩) 1 1) [.int .u8 47] := fun W1 =>
      ⟨rfl, (by intro v hv; simp at hv; subst hv; rfl), fun W => by simp [Builtin.lenOf], fun W hW => run_firstCells_some W 1 1 ⟨W1.heap.size, 0, none⟩ 1 1 _ rfl fun j u hj => by
        rw [Addr.add_none, Nat.zero_add]
        have hj0 : j = 0 := by have := (List.getElem?_eq_some_iff.1 hj).1; simpa using this
        subst hj0
        simp at hj; subst hj
        have e := hW W1.heap.size (by rw [heap_alloc_sz]; omega)
        have e2 : (W1.alloc (.cells #[.int .u8 47] 5)).heap[W1.heap.size]? = some (.cells #[.int .u8 47] 5 (0, 0)) := heap_alloc_mk W1 _
        rw [e2] at e
        simp [World.cell?, e]⟩
    by_cases hm0 : m = 0
    · subst hm0
      have hy : ys = [] := List.eq_nil_of_length_eq_zero (by simpa using h1.len)
      subst hy
      obtain ⟨i, z, hi, hs, -⟩ := hty.info
      have hl := h1.lenOf W0
      have hc := h1.cells W0 (hold hk0)
      have hs : i.size = 1 := hs
      refine ⟨.slice (some ⟨w.heap.size, 0, none⟩) 4 4, W0, by simp [Builtin.append_, run_underlying hu, sizeOf, typeInfo, hi, hs, hl, hc, storeCells], ?_⟩
      have hk1 : KeptBut [] w (W0.alloc (.cells #[.int .u8 47] 5)) := hk0.alloc _
      obtain ⟨b2, W2, r1, r2, r3, r4⟩ := append_lit (P := Try.prog) (tab := tab) hu hty rfl rfl (C := keyC) hCo (by decide) (W := W0.alloc (.cells #[.int .u8 47] 5)) (N := w.heap.size) ((((KeptBut.refl [] W0).alloc _).block w.heap.size (by omega) (by simp)).trans hN0) (w := W0.alloc (.cells #[.int .u8 47] 5)) (hlit W0) (fun _ _ => rfl) (by omega) (by decide) 22
      refine ⟨b2, W2, r1, r2, (hk1.trans r3), fun g hg => ?_⟩
      rw [r4 g hg, heap_alloc_sz]; omega
    · obtain ⟨b1, W1, r1, r2, r3, r4⟩ := append_lit (P := Try.prog) (tab := tab) hu hty rfl rfl (C := keyC) hCo (by decide) (W := W0) (N := w.heap.size) hN0 h1 (hold hk0) (by omega) (by have : keyC.size = 4 := rfl; omega) 22
      refine ⟨b1, W1, r1, ?_⟩
      have hk1 : KeptBut [] w W1 := hk0.trans r3
      have hk2 : KeptBut [] w (W1.alloc (.cells #[.int .u8 47] 5)) := hk1.alloc _
      obtain ⟨a, cap, rfl, c1, c2⟩ := r2.slice
      have hr2 : RowIs (W1.alloc (.cells #[.int .u8 47] 5)) 5 1 (4 + m) (.slice a (4 + m) cap) (keyC.toList ++ ys) := r2.keep fun g hg => ((KeptBut.refl [] W1).alloc _).block g (r2.top_lt g hg) (by simp)
      have hrd := hlit W1
      obtain ⟨b2, W2, s1, s2, s3, s4⟩ := append_run (P := Try.prog) (tab := tab) (t := 22) (t2 := 22) (ot := 22) hu hty (.inl ⟨5, hu⟩) (n := 4 + m) hr2 (Nat.le_refl _) (m := 1) hrd.len hrd.one hrd.lenOf hrd.cells (by omega) (by show (4 + m + 1) * 1 ≤ _; omega)
      have hxl : (keyC.toList ++ ys).take ((4 + m) * 1) = keyC.toList ++ ys := List.take_of_length_le (by rw [hr2.1]; exact Nat.le_refl _)
      have hfr : ∀ g ∈ topOf (.slice a (4 + m) cap), w.heap.size ≤ g := fun g hg => by have := r4 g hg; omega
      refine ⟨b2, W2, s1, ?_, (hk2.mono (by simp)).trans s3 |>.fresh hfr, fun g hg => ?_⟩
      · have s2 : RowIs W2 5 1 (4 + m + 1) b2 ((keyC.toList ++ ys).take ((4 + m) * 1) ++ [.int .u8 47]) := s2
        rw [hxl] at s2; exact s2
      · rcases s4 g hg with h | h
        · exact hfr g h
        · have := hk2.size; omega
  obtain ⟨b1, W1, e1, b2, W2, e2, hr2, hk2, hf2⟩ := step2
  obtain ⟨a, cap, rfl, c1, c2⟩ := hr2.slice
  obtain ⟨b3, W3, s1, s2, s3, s4⟩ := append_run (P := Try.prog) (tab := tab) (t := 22) (t2 := 22) (ot := 22) hu hty (.inl ⟨5, hu⟩) (n := 4 + m + 1) hr2 (Nat.le_refl _) (m := k) h2.len h2.one h2.lenOf (fun W hW => h2.cells W fun g hg => (hW g (Nat.lt_of_lt_of_le hg hk2.size)).trans (hold hk2 g hg)) (by omega) (by show (4 + m + 1 + k) * 1 ≤ _; omega)
  have hxl : (keyC.toList ++ ys ++ [Value.int .u8 47]).take ((4 + m + 1) * 1) = keyC.toList ++ ys ++ [.int .u8 47] := List.take_of_length_le (by rw [hr2.1]; exact Nat.le_refl _)
  have hpost : RowIs W3 5 1 (4 + m + 1 + k) b3 (keyC.toList ++ ys ++ [.int .u8 47] ++ zs) ∧ KeptBut [] w W3 ∧ ∀ g ∈ topOf b3, w.heap.size ≤ g := by
    refine ⟨?_, (hk2.mono (by simp)).trans s3 |>.fresh hf2, fun g hg => ?_⟩
    · have s2 : RowIs W3 5 1 (4 + m + 1 + k) b3 ((keyC.toList ++ ys ++ [Value.int .u8 47]).take ((4 + m + 1) * 1) ++ zs) := s2
      rw [hxl] at s2; exact s2
    · rcases s4 g hg with h | h
      · exact hf2 g h
      · have := hk2.size; omega
  clear hCo hold s2 s3 s4 hr2 hk2 hf2 hxl hN0 hk0 hs0 h1 h2 hty c1 c2
  clear hW0
  go_enter Try.func102, Try.ntmps102
  go_wp2_with (first
    | (simp only)
    | (at_builtin; refine Lib.wpList_append_run _ rfl _ _ _ _ rfl _ _ rfl rfl _ _ e1 ?_)
    | (at_builtin; refine Lib.wpList_append_run _ rfl _ _ _ _ rfl _ _ rfl rfl _ _ e2 ?_)
    | (at_builtin; refine Lib.wpList_append_run _ rfl _ _ _ _ rfl _ _ rfl rfl _ _ s1 ?_))
  all_goals (go_ret; exact ⟨b3, rfl, hpost⟩)
set_option maxHeartbeats 4000000 in
set_option maxRecDepth 1000000 in
theorem grow209 : GrowOk Try.prog 209 5 := by
  intro a n w hn
  obtain ⟨i0, hi0, hz0, hzs, hzb⟩ := info_parts info5
  by_cases h0 : n = 0
  · subst h0
    go_enter Try.func209, Try.ntmps209
    go_wp2
    all_goals (go_ret; exact ⟨_, rfl, ⟨rfl, .inl ⟨a, rfl, rfl⟩⟩, .refl _ _, by cases a <;> simp [topOf]⟩)
  · have hrz : ∀ ty, (Builtin.append_ #[22, 3] ty #[.slice a 0 0, .int .i64 (n : Int)]).run Try.prog w = .ok (.slice (some ⟨w.heap.size, 0, none⟩) n (grownCap w n 0 5)) (w.drew.alloc (.cells (Builtin.zeroCells (Value.int .u8 0 : Value).cells n ++ Builtin.zeroCells (Value.int .u8 0 : Value).cells (grownCap w n 0 5 - n)) 5)) := fun ty => by
      have h := Lib.run_append_grow_zeros w 22 3 ty 5 i0 _ .i64 .i64 Try.underlying22 Try.underlying3 hi0 hz0 a 0 0 [] (by cases a <;> simp [Builtin.firstCells, loadCells, loadCellsFrom]) n (by omega) (by omega) (by omega) (by omega) (by rw [hzb]; omega) (by rw [hzb, Nat.zero_add]; exact growslice_fits (by omega) (by omega))
      simpa using h
    have hGn : n ≤ grownCap w n 0 5 := grownCap_ge w _ _ _
    have hGm : grownCap w n 0 5 ≤ maxLen := grownCap_le_maxLen w n 0 5 (by unfold maxLen; omega)
    have hsz := size_zeroCells
    obtain ⟨G, hG⟩ : ∃ G, G = grownCap w n 0 5 := ⟨_, rfl⟩
    rw [← hG] at hrz hGn hGm
    obtain ⟨ROW, hROW⟩ : ∃ ROW : Array Value, ROW = Builtin.zeroCells (Value.int .u8 0 : Value).cells n ++ Builtin.zeroCells (Value.int .u8 0 : Value).cells (G - n) := ⟨_, rfl⟩
    have hRs : ROW.size = G * 1 := by rw [hROW]; simp only [Array.size_append, size_zeroCells]; rw [show (Value.int .u8 0 : Value).cells.size = 1 from rfl]; omega
    simp only [← hROW] at hrz
    have hb1 : ¬ ((n : Int) < 0) := by omega
    have hb2 : ((n : Int) > 0) := by omega
    have hb3 : (0 : Int) < (n : Int) := by omega
    have hw1 : IntKind.i64.wrap (n : Int) = (n : Int) := by rw [IntKind.wrap_i64]; omega
    have hb4 : ¬ (G = 0) := by omega
    have hpost : ∃ v', Ending.returned (.slice (some ⟨w.heap.size, 0, none⟩) 0 G) = .returned v' ∧ RowIs (w.drew.alloc (.cells ROW 5)) 5 1 0 v' [] ∧ KeptBut [] w (w.drew.alloc (.cells ROW 5)) ∧ ∀ g ∈ topOf v', w.heap.size ≤ g := by
      refine ⟨_, rfl, rowIs_some (by omega) (heap_alloc_new w.drew _) (by omega) hGm hRs (by simp), (KeptBut.refl _ w).drew.alloc _, fun g hg => ?_⟩
      rw [topOf_some _ _ _ (by omega)] at hg
      simp at hg; omega
    clear hROW hG hsz hRs
    go_enter Try.func209, Try.ntmps209
    go_wp2_with (at_builtin; refine Lib.wpList_append_run _ rfl _ _ _ _ rfl _ _ rfl rfl _ _ (hrz _) ?_)
    all_goals (go_ret; exact hpost)
set_option maxHeartbeats 4000000 in
set_option maxRecDepth 1000000 in
theorem cmp62 : CmpOk Try.prog 62 := by
  intro v1 v2 c w h
  have hcall : (callFunc 115 #[v1, v2]).run Try.prog w = .ok (.value (.int .i64 c)) w := by
    rw [run_callFunc_extern Try.func115 (by kernel_rfl) (by kernel_rfl) (by kernel_rfl) (e := Extern.BytealgCompare.compare) (by kernel_rfl), h]
    rfl
  clear h
  go_enter Try.func62, Try.ntmps62
  go_wp2_with (simp only [hcall])
  all_goals (go_ret; exact ⟨rfl, .refl _ _⟩)
theorem inf98 : (Try.prog.info? 98).map (·.size) = some 2 := by kernel_rfl
theorem sz98 : ∀ w, (Go.sizeOf 98).run Try.prog w = .ok 2 w := fun w => by kernel_rfl
theorem zv98 : ∀ w, (zeroValue 98).run Try.prog w = .ok (Value.agg #[.slice none 0 0, .slice none 0 0]) w := fun w => by kernel_rfl
theorem info98 : (Try.prog.info? 98).map (fun i => (i.zero, i.size, i.bytes)) = some (some (Value.agg #[.slice none 0 0, .slice none 0 0]), 2, 48) := by kernel_rfl
set_option maxHeartbeats 4000000 in
set_option maxRecDepth 1000000 in
theorem ins55_room (w : World) (g n cap i h caph : Nat) (cur curh : Array Value) (hg : w.heap[g]? = some (.cells cur 98 (0, 0))) (hs : cur.size = cap * 2) (hcm : cap ≤ maxLen) (h1 : OneL (cur.toList.take (n * 2)))
    (hh : w.heap[h]? = some (.cells curh 98 (0, 0))) (hhs : curh.size = caph * 2) (hc1 : 1 ≤ caph) (hne : h ≠ g) (h1h : OneL (curh.toList.take 2)) (hi : i < n) (hroom : n + 1 ≤ cap) :
    Calls Try.prog 55 #[.slice (some ⟨g, 0, none⟩) n cap, .int .i64 i, .slice (some ⟨h, 0, none⟩) 1 caph] w fun e w' => e = .returned (.slice (some ⟨g, 0, none⟩) (n + 1) cap) ∧
      ∃ cur' : Array Value, w'.heap[g]? = some (.cells cur' 98 (0, 0)) ∧ cur'.size = cap * 2 ∧ cur'.toList.take ((n + 1) * 2) = (cur.toList.take (n * 2)).take (i * 2) ++ curh.toList.take 2 ++ (cur.toList.take (n * 2)).drop (i * 2) ∧ KeptBut [g] w w' := by
  have hcmx : cap ≤ 9223372036854775807 := hcm
  have hz2 : ¬ ((i : Int) = (n : Int)) := by omega
  have hov : ∀ lb cb, (callFunc 112 #[.slice (some ⟨h, 0, none⟩) 1 caph, .slice (some ⟨g, (i + 1) * 2, none⟩) lb cb]).run Try.prog w = .ok (.value (.bool false)) w := fun lb cb => by
    rw [run_callFunc_extern Try.func112 (by kernel_rfl) (by kernel_rfl) (by kernel_rfl) (e := Extern.SlicesOverlaps.overlaps #[27, 27] #[4]) (by kernel_rfl),
      Lib.run_overlaps_apart w 27 4 98 Try.underlying27 2 sz98 ⟨h, 0, none⟩ ⟨g, (i + 1) * 2, none⟩ 1 caph lb cb hne 98 98 curh.size cur.size (by simp [World.shape?, hh]) (by simp [World.shape?, hg]) (by omega) (by simp [World.frozen?, hh]) (by simp [World.frozen?, hh])]
    rfl
  obtain ⟨tl, htl⟩ : ∃ tl, tl = (cur.toList.drop (i * 2)).take ((n - i) * 2) := ⟨_, rfl⟩
  have htll : tl.length = (n - i) * 2 := by rw [htl]; simp; omega
  have htl1 : ∀ v ∈ tl, v.oneCell' = true := fun v hv => h1 v (by
    rw [htl, show (cur.toList.drop (i * 2)).take ((n - i) * 2) = (cur.toList.take (n * 2)).drop (i * 2) from by rw [List.drop_take]; congr 1; omega] at hv
    exact List.mem_of_mem_drop hv)
  obtain ⟨c1, hc1'⟩ : ∃ c1, c1 = (cur.toList.take ((i + 1) * 2) ++ tl ++ cur.toList.drop ((i + 1) * 2 + tl.length)).toArray := ⟨_, rfl⟩
  have hc1s : c1.size = cap * 2 := by rw [hc1']; simp; omega
  have hcp1 : ∀ ty dc sc, (Builtin.copy_ #[27, 27] ty #[.slice (some ⟨g, (i + 1) * 2, none⟩) (n + 1 - (i + 1)) dc, .slice (some ⟨g, i * 2, none⟩) (n + 1 - i) sc]).run Try.prog w.drew = .ok (goInt (Nat.min (n + 1 - i) (n + 1 - (i + 1)))) (w.drew.setRow g c1) := fun ty dc sc => by
    rw [hc1']
    exact run_copy_k w.drew 27 27 ty 98 2 g ((i + 1) * 2) (n + 1 - (i + 1)) dc ⟨g, i * 2, none⟩ (n + 1 - i) sc cur 98 tl Try.underlying27 inf98 hg (by rw [htll]; simp only [Nat.min_def]; split <;> omega) (by rw [htl]; exact src_cells (w := w.drew) hg (by omega)) (by rw [htll]; omega) htl1
  obtain ⟨W1, hW1⟩ : ∃ W1, W1 = w.drew.setRow g c1 := ⟨_, rfl⟩
  rw [← hW1] at hcp1
  have hg1 : W1.heap[g]? = some (.cells c1 98 (0, 0)) := by rw [hW1]; exact setRow_heap _ g cur _ 98 _ hg
  have hh1 : W1.heap[h]? = some (.cells curh 98 (0, 0)) := by
    rw [hW1, ← hh]
    exact (KeptBut.setRow (w := w.drew) (F := [g]) (by simp) c1).block h (by have := (Array.getElem?_eq_some_iff.1 hh).1; exact this) (by simp [hne])
  obtain ⟨c2, hc2⟩ : ∃ c2, c2 = (c1.toList.take (i * 2) ++ curh.toList.take 2 ++ c1.toList.drop (i * 2 + (curh.toList.take 2).length)).toArray := ⟨_, rfl⟩
  have hyl : (curh.toList.take 2).length = 2 := by simp; omega
  have hcp2 : ∀ ty dc, (Builtin.copy_ #[27, 27] ty #[.slice (some ⟨g, i * 2, none⟩) (n + 1 - i) dc, .slice (some ⟨h, 0, none⟩) 1 caph]).run Try.prog W1 = .ok (goInt (Nat.min 1 (n + 1 - i))) (W1.setRow g c2) := fun ty dc => by
    rw [hc2]
    exact run_copy_k W1 27 27 ty 98 2 g (i * 2) (n + 1 - i) dc ⟨h, 0, none⟩ 1 caph c1 98 (curh.toList.take 2) Try.underlying27 inf98 hg1 (by rw [hyl]; simp only [Nat.min_def]; split <;> omega) (by have := src_cells (o := 0) (m := 2) hh1 (by omega); simpa using this) (by rw [hyl]; omega) h1h
  have hpost : ∃ cur' : Array Value, (W1.setRow g c2).heap[g]? = some (.cells cur' 98 (0, 0)) ∧ cur'.size = cap * 2 ∧ cur'.toList.take ((n + 1) * 2) = (cur.toList.take (n * 2)).take (i * 2) ++ curh.toList.take 2 ++ (cur.toList.take (n * 2)).drop (i * 2) ∧ KeptBut [g] w (W1.setRow g c2) := by
    refine ⟨c2, setRow_heap W1 g c1 _ 98 _ hg1, ?_, ?_, ?_⟩
    · rw [hc2]; simp; omega
    · have q := ins_list (cur := cur.toList) (y := curh.toList.take 2) (tl := tl) (c1 := c1.toList) (c2 := c2.toList) (a := i * 2) (s := 2) (by simp; omega) hyl (by rw [hc1', show i * 2 + 2 = (i + 1) * 2 from by omega]) (by rw [hc2, hyl])
      rw [show (n + 1) * 2 = i * 2 + 2 + tl.length from by rw [htll]; omega, q, htl, show (n - i) * 2 = n * 2 - i * 2 from by omega, mid_eq, List.take_take, Nat.min_eq_left (by omega)]
    · rw [hW1]; exact ((KeptBut.refl _ w).drew.trans (KeptBut.setRow (by simp) _)).trans (KeptBut.setRow (by simp) _)
  have hw1 : IntKind.i64.wrap ((i : Int) + 1) = (i : Int) + 1 := by rw [IntKind.wrap_i64]; omega
  have hw2 : IntKind.i64.wrap ((n : Int) + 1) = (n : Int) + 1 := by rw [IntKind.wrap_i64]; omega
  have hb1 : ¬ ((cap : Int) < (n : Int) + 1) := by omega
  have hb2 : ¬ (cap = i + 1) := by omega
  have hb3 : (i : Int) ≤ (n : Int) := by omega
  have hb4 : ¬ (cap = i) := by omega
  have hb5 : (i : Int) ≤ (n : Int) + 1 := by omega
  have hb6 : (i : Int) + 1 ≤ (n : Int) + 1 := by omega
  have hb7 : (n : Int) + 1 ≤ (cap : Int) := by omega
  have hb8 : (0 : Int) ≤ (i : Int) + 1 := by omega
  have hb9 : (0 : Int) ≤ (n : Int) + 1 := by omega
  have ht1 : ((i : Int) + 1).toNat = i + 1 := by omega
  have ht2 : ((n : Int) + 1).toNat = n + 1 := by omega
  clear hc2 hW1 hc1' htl h1 h1h
  go_enter Try.func55, Try.ntmps55
  go_wp2_with (simp only [hov])
  go_region_law (refine step_copy_k rfl _ _ 27 27 rfl (.slice (some ⟨g, (i + 1) * 2, none⟩) (n + 1 - (i + 1)) (cap - (i + 1))) (.slice (some ⟨g, i * 2, none⟩) (n + 1 - i) (cap - i)) (by simp [Act.eval, Act.put]) (by simp [Act.eval, Act.put]) (hcp1 _ _ _) ?_)
  go_wp2_with (at_builtin; refine wpList_copy_k rfl _ _ 27 27 rfl _ _ rfl rfl (hcp2 _ _) ?_)
  go_ret
  exact ⟨rfl, hpost⟩
set_option maxHeartbeats 4000000 in
set_option maxRecDepth 1000000 in
theorem ins55_grow (w : World) (g n cap i h caph : Nat) (cur curh : Array Value) (hg : w.heap[g]? = some (.cells cur 98 (0, 0))) (hs : cur.size = cap * 2) (hcm : cap ≤ maxLen) (h1 : OneL (cur.toList.take (n * 2)))
    (hh : w.heap[h]? = some (.cells curh 98 (0, 0))) (hhs : curh.size = caph * 2) (hc1 : 1 ≤ caph) (h1h : OneL (curh.toList.take 2)) (hi : i < n) (hn : n ≤ cap) (hroom : cap < n + 1) (hbig : (n + 1) * 48 ≤ 140737488355328) :
    Calls Try.prog 55 #[.slice (some ⟨g, 0, none⟩) n cap, .int .i64 i, .slice (some ⟨h, 0, none⟩) 1 caph] w fun e w' => ∃ cap', e = .returned (.slice (some ⟨w.heap.size, 0, none⟩) (n + 1) cap') ∧ n + 1 ≤ cap' ∧ cap' ≤ maxLen ∧
      ∃ cur' : Array Value, w'.heap[w.heap.size]? = some (.cells cur' 98 (0, 0)) ∧ cur'.size = cap' * 2 ∧ cur'.toList.take ((n + 1) * 2) = (cur.toList.take (n * 2)).take (i * 2) ++ curh.toList.take 2 ++ (cur.toList.take (n * 2)).drop (i * 2) ∧ KeptBut [] w w' := by
  have hcmx : cap ≤ 9223372036854775807 := hcm
  have hz2 : ¬ ((i : Int) = (n : Int)) := by omega
  have hgw : g < w.heap.size := (Array.getElem?_eq_some_iff.1 hg).1
  have hhw : h < w.heap.size := (Array.getElem?_eq_some_iff.1 hh).1
  obtain ⟨i0, hi0, hz0, hzs, hzb⟩ := info_parts info98
  have hkk : (n : Int) + 1 - (i : Int) = ((n + 1 - i : Nat) : Int) := by omega
  have hik : i + (n + 1 - i) = n + 1 := by omega
  obtain ⟨olds, hol⟩ : ∃ olds, olds = cur.toList.take (i * 2) := ⟨_, rfl⟩
  have holl : olds.length = i * 2 := by rw [hol]; simp; omega
  have hold : (Builtin.firstCells i0.size i (.slice (some ⟨g, 0, none⟩) i cap)).run Try.prog w.drew = .ok olds.toArray w.drew := by
    rw [hzs]
    refine run_firstCells_some w.drew 2 i ⟨g, 0, none⟩ i cap olds holl fun j v hj => ?_
    have := src_cells (o := 0) (m := i * 2) (w := w.drew) hg (by omega) j v (by rw [List.drop_zero, ← hol]; exact hj)
    exact this
  obtain ⟨G, hG⟩ : ∃ G, G = grownCap w (n + 1) cap 98 := ⟨_, rfl⟩
  obtain ⟨ROW, hROW⟩ : ∃ ROW : Array Value, ROW = olds.toArray ++ Builtin.zeroCells (Value.agg #[.slice none 0 0, .slice none 0 0]).cells (n + 1 - i) ++ Builtin.zeroCells (Value.agg #[.slice none 0 0, .slice none 0 0]).cells (G - (n + 1)) := ⟨_, rfl⟩
  have hrz : ∀ ty, (Builtin.append_ #[27, 3] ty #[.slice (some ⟨g, 0, none⟩) i cap, .int .i64 ((n : Int) + 1 - (i : Int))]).run Try.prog w =
      .ok (.slice (some ⟨w.heap.size, 0, none⟩) (n + 1) G) (w.drew.alloc (.cells ROW 98)) := fun ty => by
    have h := Lib.run_append_grow_zeros w 27 3 ty 98 i0 _ .i64 .i64 Try.underlying27 Try.underlying3 hi0 hz0 (some ⟨g, 0, none⟩) i cap olds hold (n + 1 - i) (by omega) (by omega) (by omega) (by omega) (by rw [hzb]; omega) (by rw [hzb, hik]; exact growslice_fits hroom hbig)
    rw [hik, ← hG, ← hROW] at h
    rw [hkk]
    exact h
  have hGn : n + 1 ≤ G := by rw [hG]; exact grownCap_ge w _ _ _
  have hGm : G ≤ maxLen := by rw [hG]; exact grownCap_le_maxLen w (n + 1) cap 98 (by unfold maxLen; omega)
  have hG63 : G ≤ 9223372036854775807 := hGm
  have hRs : ROW.size = G * 2 := by
    rw [hROW]; simp only [Array.size_append, List.size_toArray, size_zeroCells, holl]
    rw [show (Value.agg #[.slice none 0 0, .slice none 0 0]).cells.size = 2 from rfl]; omega
  obtain ⟨W1, hW1⟩ : ∃ W1, W1 = w.drew.alloc (.cells ROW 98) := ⟨_, rfl⟩
  rw [← hW1] at hrz
  have hN1 : W1.heap[w.heap.size]? = some (.cells ROW 98 (0, 0)) := by rw [hW1]; exact heap_alloc_new w.drew _
  have hk1 : KeptBut [] w W1 := by rw [hW1]; exact (KeptBut.refl _ w).drew.alloc _
  have hyl : (curh.toList.take 2).length = 2 := by simp; omega
  obtain ⟨c2, hc2⟩ : ∃ c2, c2 = (ROW.toList.take (i * 2) ++ curh.toList.take 2 ++ ROW.toList.drop (i * 2 + (curh.toList.take 2).length)).toArray := ⟨_, rfl⟩
  have hc2s : c2.size = G * 2 := by rw [hc2]; simp; omega
  have hcpA : ∀ (W : World), W.heap = W1.heap → ∀ ty dc, (Builtin.copy_ #[27, 27] ty #[.slice (some ⟨w.heap.size, i * 2, none⟩) (n + 1 - i) dc, .slice (some ⟨h, 0, none⟩) 1 caph]).run Try.prog W = .ok (goInt (Nat.min 1 (n + 1 - i))) (W.setRow w.heap.size c2) := fun W hW ty dc => by
    rw [hc2]
    exact run_copy_k W 27 27 ty 98 2 w.heap.size (i * 2) (n + 1 - i) dc ⟨h, 0, none⟩ 1 caph ROW 98 (curh.toList.take 2) Try.underlying27 inf98 (by rw [hW]; exact hN1) (by rw [hyl]; simp only [Nat.min_def]; split <;> omega)
      (by have := src_cells (w := W) (o := 0) (m := 2) (cur := curh) (T := 98) (g := h) (by rw [hW, hk1.block h hhw (by simp)]; exact hh) (by omega); simpa using this) (by rw [hyl]; omega) h1h
  obtain ⟨tl, htl⟩ : ∃ tl, tl = (cur.toList.drop (i * 2)).take ((n - i) * 2) := ⟨_, rfl⟩
  have htll : tl.length = (n - i) * 2 := by rw [htl]; simp; omega
  have htl1 : ∀ v ∈ tl, v.oneCell' = true := fun v hv => h1 v (by
    rw [htl, show (cur.toList.drop (i * 2)).take ((n - i) * 2) = (cur.toList.take (n * 2)).drop (i * 2) from by rw [List.drop_take]; congr 1; omega] at hv
    exact List.mem_of_mem_drop hv)
  obtain ⟨W2, hW2⟩ : ∃ W2, W2 = W1.setRow w.heap.size c2 := ⟨_, rfl⟩
  have hN2 : W2.heap[w.heap.size]? = some (.cells c2 98 (0, 0)) := by rw [hW2]; exact setRow_heap _ _ ROW _ 98 _ hN1
  have hk2 : KeptBut [w.heap.size] w W2 := by rw [hW2]; exact (hk1.mono (by simp)).trans (KeptBut.setRow (by simp) _)
  obtain ⟨c3, hc3⟩ : ∃ c3, c3 = (c2.toList.take ((i + 1) * 2) ++ tl ++ c2.toList.drop ((i + 1) * 2 + tl.length)).toArray := ⟨_, rfl⟩
  have hcpB : ∀ (W : World), W.heap = W2.heap → ∀ ty dc sc, (Builtin.copy_ #[27, 27] ty #[.slice (some ⟨w.heap.size, (i + 1) * 2, none⟩) (n + 1 - (i + 1)) dc, .slice (some ⟨g, i * 2, none⟩) (n - i) sc]).run Try.prog W = .ok (goInt (Nat.min (n - i) (n + 1 - (i + 1)))) (W.setRow w.heap.size c3) := fun W hW ty dc sc => by
    rw [hc3]
    exact run_copy_k W 27 27 ty 98 2 w.heap.size ((i + 1) * 2) (n + 1 - (i + 1)) dc ⟨g, i * 2, none⟩ (n - i) sc c2 98 tl Try.underlying27 inf98 (by rw [hW]; exact hN2) (by rw [htll]; simp only [Nat.min_def]; split <;> omega)
      (by rw [htl]; exact src_cells (w := W) (T := 98) (by rw [hW, hk2.block g hgw (by simp; omega)]; exact hg) (by omega)) (by rw [htll]; omega) htl1
  have hpost : ∀ W, W.heap = W2.heap → KeptBut [w.heap.size] w W → ∃ cur' : Array Value, (W.setRow w.heap.size c3).heap[w.heap.size]? = some (.cells cur' 98 (0, 0)) ∧ cur'.size = G * 2 ∧ cur'.toList.take ((n + 1) * 2) = (cur.toList.take (n * 2)).take (i * 2) ++ curh.toList.take 2 ++ (cur.toList.take (n * 2)).drop (i * 2) ∧ KeptBut [] w (W.setRow w.heap.size c3) := by
    intro W hW hk
    refine ⟨c3, setRow_heap W _ c2 _ 98 _ (by rw [hW]; exact hN2), ?_, ?_, (hk.trans (KeptBut.setRow (by simp) _)).fresh (by simp)⟩
    · rw [hc3]; simp; omega
    · have q := ins_list2 (row := ROW.toList) (y := curh.toList.take 2) (tl := tl) (c2 := c2.toList) (c3 := c3.toList) (a := i * 2) (s := 2) (by simp; omega) hyl (by rw [hc2, hyl]) (by rw [hc3, show i * 2 + 2 = (i + 1) * 2 from by omega])
      rw [show (n + 1) * 2 = i * 2 + 2 + tl.length from by rw [htll]; omega, q, htl, show (n - i) * 2 = n * 2 - i * 2 from by omega, mid_eq, List.take_take, Nat.min_eq_left (by omega), hROW]
      congr 2
      simp only [Array.toList_append, List.append_assoc]
      exact (List.take_left' holl).trans hol
  have hw1 : IntKind.i64.wrap ((i : Int) + 1) = (i : Int) + 1 := by rw [IntKind.wrap_i64]; omega
  have hw2 : IntKind.i64.wrap ((n : Int) + 1) = (n : Int) + 1 := by rw [IntKind.wrap_i64]; omega
  have hw3 : IntKind.i64.wrap ((n : Int) + 1 - (i : Int)) = (n : Int) + 1 - (i : Int) := by rw [IntKind.wrap_i64]; omega
  have hz3 : (cap : Int) < (n : Int) + 1 := by omega
  have hGi : ¬ (G = i) := by omega
  have hGi1 : ¬ (G = i + 1) := by omega
  have hci : ¬ (cap = i) := by omega
  have hb3 : (i : Int) ≤ (n : Int) := by omega
  have hb5 : (i : Int) ≤ (n : Int) + 1 := by omega
  have hb6 : (i : Int) + 1 ≤ (n : Int) + 1 := by omega
  have hb8 : (0 : Int) ≤ (i : Int) + 1 := by omega
  have ht1 : ((i : Int) + 1).toNat = i + 1 := by omega
  have hb9 : i ≤ cap := by omega
  have hb10 : (i : Int) ≤ (cap : Int) := by omega
  clear hkk hik hold hROW hG hc2 hc3 htl hol h1 h1h
  go_enter Try.func55, Try.ntmps55
  go_wp2_with (first
    | (at_builtin; refine Lib.wpList_append_run _ rfl _ _ _ _ rfl _ _ rfl rfl _ _ (hrz _) ?_)
    | (at_builtin; refine wpList_copy_k rfl _ _ 27 27 rfl _ _ rfl rfl (hcpA _ rfl _ _) ?_))
  go_region_law (refine step_copy_k rfl _ _ 27 27 rfl (.slice (some ⟨w.heap.size, (i + 1) * 2, none⟩) (n + 1 - (i + 1)) (G - (i + 1))) (.slice (some ⟨g, i * 2, none⟩) (n - i) (cap - i)) (by simp [Act.eval, Act.put]) (by simp [Act.eval, Act.put]) (hcpB _ (by rw [hW2, hW1]; rfl) _ _ _) ?_)
  go_wp2
  go_ret
  exact ⟨G, rfl, hGn, hGm, hpost _ (by rw [hW2, hW1]; rfl) (by rw [hW2, hW1] at hk2; exact ⟨hk2.os, hk2.tape, hk2.output, hk2.size, hk2.block⟩)⟩
set_option maxHeartbeats 4000000 in
set_option maxRecDepth 1000000 in
theorem insEnd55 : InsEnd Try.prog 55 98 2 48 := by
  intro w v v2 n xs ys hr hr2 h1 hbig h63
  rcases hr2.2 with ⟨a, rfl, h0⟩ | ⟨h, caph, curh, rfl, hch, hh, hn2, hm2, hs2, hx2⟩
  · omega
  obtain ⟨a, cap, rfl, hnc, hcm⟩ := hr.slice
  have hhw : h < w.heap.size := (Array.getElem?_eq_some_iff.1 hh).1
  have hyl : ys.length = 1 * 2 := hr2.1
  obtain ⟨v', w', hrun, k1, k2, k3⟩ := append_run (P := Try.prog) (tab := tab) (w := w) (t := 27) (t2 := 27) (e := 98) (ot := 27) Try.underlying27 (base.tab 98 _ rfl) (.inl ⟨98, Try.underlying27⟩) (n := n) hr (Nat.le_refl n) (xv := .slice (some ⟨h, 0, none⟩) 1 caph) (news := ys) (m := 1) hyl h1
    (fun w' => by simp [Builtin.lenOf]) (fun w' hw' => run_firstCells_some w' 2 1 ⟨h, 0, none⟩ 1 caph ys hyl fun j v hj => by
      have := src_cells (o := 0) (m := 1 * 2) (w := w') (by rw [hw' h hhw]; exact hh) (by omega) j v (by rw [List.drop_zero, hx2]; exact hj)
      exact this) h63 hbig
  have hxl : xs.take (n * 2) = xs := List.take_of_length_le (by rw [hr.1]; exact Nat.le_refl _)
  have k1' : RowIs w' 98 2 (n + 1) v' (xs ++ ys) := by
    have k1 : RowIs w' 98 2 (n + 1) v' (xs.take (n * 2) ++ ys) := k1
    rw [hxl] at k1; exact k1
  clear k1
  cases a with
  | none =>
    go_enter Try.func55, Try.ntmps55
    go_wp2_with (at_builtin; refine Lib.wpList_append_run _ rfl _ _ _ _ rfl _ _ rfl rfl _ _ hrun ?_)
    all_goals (go_ret; first | exact ⟨v', rfl, k1', k2, k3⟩ | (subst_vars; exact ⟨v', rfl, k1', k2, k3⟩))
  | some a =>
    obtain ⟨ab, ao, asp⟩ := a
    go_enter Try.func55, Try.ntmps55
    go_wp2_with (at_builtin; refine Lib.wpList_append_run _ rfl _ _ _ _ rfl _ _ rfl rfl _ _ hrun ?_)
    all_goals (go_ret; first | exact ⟨v', rfl, k1', k2, k3⟩ | (subst_vars; exact ⟨v', rfl, k1', k2, k3⟩))
theorem ins55 : InsOk Try.prog 55 98 2 48 := ins_ok
  (fun w g n cap i h caph cur curh h1 h2 h3 h4 h5 h6 h7 h8 h9 h10 h11 => ins55_room w g n cap i h caph cur curh h1 h2 h3 h4 h5 h6 h7 h8 h9 h10 h11)
  (fun w g n cap i h caph cur curh h1 h2 h3 h4 h5 h6 h7 h8 h9 h10 h11 h12 => ins55_grow w g n cap i h caph cur curh h1 h2 h3 h4 h5 h6 h7 h8 h9 h10 h11 h12)
  insEnd55
end Go.Eng.R
open Go Go.Eng Go.Proofs
namespace Go.Eng.R
noncomputable def e39 : En Try.prog tab := enT base [] false [] Try.func39 noLo [(.one (.inl t_byte)), (.one (.int .i64))] (fun a => laws_szByteS ((rd a 0).L) ((rd a 1).I)) (fun r_ : Int => ((vi r_), [])) [] [] [some t_byte, none] false (by kernel_rfl) fun _ => gT (g5 g7 g7) (by kernel_rfl)
noncomputable def e20 : En Try.prog tab := enT base [e39] false [] Try.func20 noLo [(.agg q0), (.one (.int .i64))] (fun a => laws_szCheck (rd a 0) ((rd a 1).I)) (fun r_ : Int => ((vi r_), [])) [] [] [none, none] false (by kernel_rfl) fun _ => gT (g5 g7 g7) (by kernel_rfl)
noncomputable def c159 : Cfg := cfgOf (P := Try.prog) (tab := tab) [e20] false []
def a159_0 (r_ : Nat × Int × Int) : List (Ex × St) := [(Ex.ret, (⟨[(1, (vi r_.2.1)), (4, (vi r_.2.2))], [], 0, []⟩ : St)), ((Ex.exit 0), (⟨[(1, (vi r_.2.1)), (4, V.dead)], [], 0, []⟩ : St))]
def s159_0 : SS := ⟨[(0, (.one (.inl t_laws_Check))), (1, (.one (.int .i64))), (5, (.one (.int .i64)))], [], 0, []⟩
noncomputable def l159_0 : LE := le1 5 s159_0 (fun st => laws_szCheckS_l5 ((((((sv st 0).L).length : Nat) : Int) - ((sv st 2).I)).toNat + 1) ((sv st 0).L) ((sv st 1).I) ((sv st 2).I)) a159_0
noncomputable def L159 : Loops := ⟨fun k => (look [(5, [0, 1, 5])] k).getD [], fun _ => [], fun k => (look [(5, [1, 4])] k).getD [], runL [l159_0], []⟩
theorem t159_0 (k_ : Nat) : ∀ (a0 : List V) (left1 : Int) (i5 : Int), Agr id (pk1 a159_0) (laws_szCheckS_l5 k_ a0 left1 i5) (rounds c159 L159 (lpB Try.f159 0) k_ (s159_0.mk' (stv [V.inl 0 a0, vi left1, vi i5] []))) := by
  induction k_ with
  | zero => exact fun _ _ _ => g0
  | succ k_ ih => exact fun _ _ _ => gA (g1 (g1 (g1 g4 (ih _ _ _)) g0) g4) (by kernel_rfl)
theorem o159 : LoopsOk c159 L159 (bodyOf Try.f159) := GoodAll.ok (l := [l159_0]) (.cons 0 (by kernel_rfl) (gd1 (fun st => (((((sv st 0).L).length : Nat) : Int) - ((sv st 2).I)).toNat + 1) (fun st => t159_0 _ _ _ _) fun st => by kernel_rfl) (.nil)) rfl
noncomputable def e159 : En Try.prog tab := enP base [e20] false [] Try.func159 (L := L159) o159 [(.one (.inl t_laws_Check)), (.one (.int .i64))] (fun a => laws_szCheckS ((rd a 0).L) ((rd a 1).I)) (fun r_ : Int => ((vi r_), [])) [] [] [some t_laws_Check, none] false (by kernel_rfl) fun _ => gA (g1 g4 (g2 fun _ => g1 g4 g4)) (by kernel_rfl)
noncomputable def e100 : En Try.prog tab := enP base [e39, e159] false [] Try.func100 noLo [(.agg [(.inl t_byte), (.inl t_laws_Check)]), (.one (.int .i64))] (fun a => laws_szService (rd a 0) ((rd a 1).I)) (fun r_ : Int => ((vi r_), [])) [] [] [none, none] false (by kernel_rfl) fun _ => gA (g1 g4 (g2 fun _ => g1 g4 g4)) (by kernel_rfl)
noncomputable def c40 : Cfg := cfgOf (P := Try.prog) (tab := tab) [e100] false []
def a40_0 (r_ : Nat × Int × Int) : List (Ex × St) := [(Ex.ret, (⟨[(1, (vi r_.2.1)), (4, (vi r_.2.2))], [], 0, []⟩ : St)), ((Ex.exit 0), (⟨[(1, (vi r_.2.1)), (4, V.dead)], [], 0, []⟩ : St))]
def s40_0 : SS := ⟨[(0, (.one (.inl t_laws_Service))), (1, (.one (.int .i64))), (5, (.one (.int .i64)))], [], 0, []⟩
noncomputable def l40_0 : LE := le1 5 s40_0 (fun st => laws_szServiceS_l5 ((((((sv st 0).L).length : Nat) : Int) - ((sv st 2).I)).toNat + 1) ((sv st 0).L) ((sv st 1).I) ((sv st 2).I)) a40_0
noncomputable def L40 : Loops := ⟨fun k => (look [(5, [0, 1, 5])] k).getD [], fun _ => [], fun k => (look [(5, [1, 4])] k).getD [], runL [l40_0], []⟩
theorem t40_0 (k_ : Nat) : ∀ (a0 : List V) (left1 : Int) (i5 : Int), Agr id (pk1 a40_0) (laws_szServiceS_l5 k_ a0 left1 i5) (rounds c40 L40 (lpB Try.f40 0) k_ (s40_0.mk' (stv [V.inl 0 a0, vi left1, vi i5] []))) := by
  induction k_ with
  | zero => exact fun _ _ _ => g0
  | succ k_ ih => exact fun _ _ _ => gA (g1 (g1 (g2 fun _ => g1 g4 (ih _ _ _)) g0) g4) (by kernel_rfl)
theorem o40 : LoopsOk c40 L40 (bodyOf Try.f40) := GoodAll.ok (l := [l40_0]) (.cons 0 (by kernel_rfl) (gd1 (fun st => (((((sv st 0).L).length : Nat) : Int) - ((sv st 2).I)).toNat + 1) (fun st => t40_0 _ _ _ _) fun st => by kernel_rfl) (.nil)) rfl
noncomputable def e40 : En Try.prog tab := enP base [e100] false [] Try.func40 (L := L40) o40 [(.one (.inl t_laws_Service)), (.one (.int .i64))] (fun a => laws_szServiceS ((rd a 0).L) ((rd a 1).I)) (fun r_ : Int => ((vi r_), [])) [] [] [some t_laws_Service, none] false (by kernel_rfl) fun _ => gA (g1 g4 (g2 fun _ => g1 g4 g4)) (by kernel_rfl)
noncomputable def e8 : En Try.prog tab := enP base [e39, e40] false [] Try.func8 noLo [(.agg [(.inl t_byte), (.inl t_laws_Service)]), (.one (.int .i64))] (fun a => laws_szLocal (rd a 0) ((rd a 1).I)) (fun r_ : Int => ((vi r_), [])) [] [] [none, none] false (by kernel_rfl) fun _ => gA (g1 g4 (g2 fun _ => g1 g4 g4)) (by kernel_rfl)
noncomputable def c11 : Cfg := cfgOf (P := Try.prog) (tab := tab) [] false []
def a11_0 (r_ : List V) : List (Ex × St) := [((Ex.exit 0), (⟨[(3, (vs 0 t_byte))], [(0, some (Blk.row t_byte true r_))], 1, []⟩ : St))]
def s11_0 : SS := ⟨[(0, (.one (.inl t_byte))), (3, (.one (.sl 0 t_byte))), (4, (.one (.int .i64)))], [(.row t_byte true)], 1, []⟩
noncomputable def l11_0 : LE := le0 3 s11_0 (fun st => laws_toByteS_l3 ((((((sv st 0).L).length : Nat) : Int) - ((sv st 2).I)).toNat + 1) ((sv st 0).L) ((sv st 2).I) (br st 0)) a11_0
noncomputable def L11 : Loops := ⟨fun k => (look [(3, [0, 3, 4])] k).getD [], fun _ => [], fun k => (look [(3, [3])] k).getD [], runL [l11_0], []⟩
theorem t11_0 (k_ : Nat) : ∀ (a0 : List V) (i4 : Int) (r0 : List V), Agr id (pk0 a11_0) (laws_toByteS_l3 k_ a0 i4 r0) (rounds c11 L11 (lpB Try.f11 0) k_ (s11_0.mk' (stv [V.inl 0 a0, .dead, vi i4] [rb r0]))) := by
  induction k_ with
  | zero => exact fun _ _ _ => g0
  | succ k_ ih => exact fun _ _ _ => gA (g1 (g1 (g1 (ih _ _ _) g0) g0) g4) (by kernel_rfl)
theorem o11 : LoopsOk c11 L11 (bodyOf Try.f11) := GoodAll.ok (l := [l11_0]) (.cons 0 (by kernel_rfl) (gd0 (fun st => (((((sv st 0).L).length : Nat) : Int) - ((sv st 2).I)).toNat + 1) (fun st => t11_0 _ _ _ _) fun st => by kernel_rfl) (.nil)) rfl
noncomputable def e11 : En Try.prog tab := enP base [] false [] Try.func11 (L := L11) o11 [(.one (.inl t_byte))] (fun a => laws_toByteS ((rd a 0).L)) (fun r_ : List V => ((V.rr t_byte true r_), [])) [[(.rr t_byte true)]] [] [some t_byte] false (by kernel_rfl) fun _ => gA (g1 (g2 fun _ => g4) g0) (by kernel_rfl)
noncomputable def e22 : En Try.prog tab := enP base [e11] false [] Try.func22 noLo [(.agg q0)] (fun a => laws_toCheck (rd a 0)) (fun r_ : V => ((h1 r_), [])) [[(.rr t_byte true)]] [] [none] false (by kernel_rfl) fun _ => gA (g2 fun _ => g4) (by kernel_rfl)
noncomputable def c160 : Cfg := cfgOf (P := Try.prog) (tab := tab) [e22] false []
def a160_0 (r_ : List V) : List (Ex × St) := [((Ex.exit 0), (⟨[(3, (vs 0 t_impl_Check))], [(0, some (Blk.row t_impl_Check true r_))], 1, []⟩ : St))]
def s160_0 : SS := ⟨[(0, (.one (.inl t_laws_Check))), (3, (.one (.sl 0 t_impl_Check))), (4, (.one (.int .i64)))], [(.row t_impl_Check true)], 1, []⟩
noncomputable def l160_0 : LE := le0 3 s160_0 (fun st => laws_toCheckS_l3 ((((((sv st 0).L).length : Nat) : Int) - ((sv st 2).I)).toNat + 1) ((sv st 0).L) ((sv st 2).I) (br st 0)) a160_0
noncomputable def L160 : Loops := ⟨fun k => (look [(3, [0, 3, 4])] k).getD [], fun _ => [], fun k => (look [(3, [3])] k).getD [], runL [l160_0], []⟩
theorem t160_0 (k_ : Nat) : ∀ (a0 : List V) (i4 : Int) (r0 : List V), Agr id (pk0 a160_0) (laws_toCheckS_l3 k_ a0 i4 r0) (rounds c160 L160 (lpB Try.f160 0) k_ (s160_0.mk' (stv [V.inl 0 a0, .dead, vi i4] [rb r0]))) := by
  induction k_ with
  | zero => exact fun _ _ _ => g0
  | succ k_ ih => exact fun _ _ _ => gA (g1 (g1 (g2 fun _ => g1 (ih _ _ _) g0) g0) g4) (by kernel_rfl)
theorem o160 : LoopsOk c160 L160 (bodyOf Try.f160) := GoodAll.ok (l := [l160_0]) (.cons 0 (by kernel_rfl) (gd0 (fun st => (((((sv st 0).L).length : Nat) : Int) - ((sv st 2).I)).toNat + 1) (fun st => t160_0 _ _ _ _) fun st => by kernel_rfl) (.nil)) rfl
noncomputable def e160 : En Try.prog tab := enP base [e22] false [] Try.func160 (L := L160) o160 [(.one (.inl t_laws_Check))] (fun a => laws_toCheckS ((rd a 0).L)) (fun r_ : List V => ((V.rr t_impl_Check true r_), [])) [[(.rr t_impl_Check true)]] [] [some t_laws_Check] false (by kernel_rfl) fun _ => gA (g1 (g2 fun _ => g4) g0) (by kernel_rfl)
noncomputable def e104 : En Try.prog tab := enP base [e11, e160] false [] Try.func104 noLo [(.agg [(.inl t_byte), (.inl t_laws_Check)])] (fun a => laws_toService (rd a 0)) (fun r_ : V => ((h2 r_), [])) [q3] [] [none] false (by kernel_rfl) fun _ => gA (g2 fun _ => g2 fun _ => g4) (by kernel_rfl)
noncomputable def c45 : Cfg := cfgOf (P := Try.prog) (tab := tab) [e104] false []
def a45_0 (r_ : List V) : List (Ex × St) := [((Ex.exit 0), (⟨[(3, (vs 0 t_impl_Service))], [(0, some (Blk.row t_impl_Service true r_))], 1, []⟩ : St))]
def s45_0 : SS := ⟨[(0, (.one (.inl t_laws_Service))), (3, (.one (.sl 0 t_impl_Service))), (4, (.one (.int .i64)))], [(.row t_impl_Service true)], 1, []⟩
noncomputable def l45_0 : LE := le0 3 s45_0 (fun st => laws_toServiceS_l3 ((((((sv st 0).L).length : Nat) : Int) - ((sv st 2).I)).toNat + 1) ((sv st 0).L) ((sv st 2).I) (br st 0)) a45_0
noncomputable def L45 : Loops := ⟨fun k => (look [(3, [0, 3, 4])] k).getD [], fun _ => [], fun k => (look [(3, [3])] k).getD [], runL [l45_0], []⟩
theorem t45_0 (k_ : Nat) : ∀ (a0 : List V) (i4 : Int) (r0 : List V), Agr id (pk0 a45_0) (laws_toServiceS_l3 k_ a0 i4 r0) (rounds c45 L45 (lpB Try.f45 0) k_ (s45_0.mk' (stv [V.inl 0 a0, .dead, vi i4] [rb r0]))) := by
  induction k_ with
  | zero => exact fun _ _ _ => g0
  | succ k_ ih => exact fun _ _ _ => gA (g1 (g1 (g2 fun _ => g1 (ih _ _ _) g0) g0) g4) (by kernel_rfl)
theorem o45 : LoopsOk c45 L45 (bodyOf Try.f45) := GoodAll.ok (l := [l45_0]) (.cons 0 (by kernel_rfl) (gd0 (fun st => (((((sv st 0).L).length : Nat) : Int) - ((sv st 2).I)).toNat + 1) (fun st => t45_0 _ _ _ _) fun st => by kernel_rfl) (.nil)) rfl
noncomputable def e45 : En Try.prog tab := enP base [e104] false [] Try.func45 (L := L45) o45 [(.one (.inl t_laws_Service))] (fun a => laws_toServiceS ((rd a 0).L)) (fun r_ : List V => ((V.rr t_impl_Service true r_), [])) [[(.rr t_impl_Service true)]] [] [some t_laws_Service] false (by kernel_rfl) fun _ => gA (g1 (g2 fun _ => g4) g0) (by kernel_rfl)
noncomputable def e10 : En Try.prog tab := enP base [e11, e45] false [] Try.func10 noLo [(.agg [(.inl t_byte), (.inl t_laws_Service)])] (fun a => laws_toLocal (rd a 0)) (fun r_ : V => ((h4 r_), [])) [q5] [] [none] false (by kernel_rfl) fun _ => gA (g2 fun _ => g2 fun _ => g4) (by kernel_rfl)
noncomputable def c74 : Cfg := cfgOf (P := Try.prog) (tab := tab) [] false []
def a74_0 (r_ : Nat × Bool) : List (Ex × St) := [(Ex.ret, (⟨[(2, (V.bool r_.2))], [], 0, []⟩ : St)), ((Ex.exit 0), (⟨[(2, V.dead)], [], 0, []⟩ : St))]
def s74_0 : SS := ⟨[(0, (.one (.inl t_byte))), (3, (.one (.int .i64)))], [], 0, []⟩
noncomputable def l74_0 : LE := le1 4 s74_0 (fun st => spec_l2key_l4 ((((((sv st 0).L).length : Nat) : Int) - ((sv st 1).I)).toNat + 1) ((sv st 0).L) ((sv st 1).I)) a74_0
noncomputable def L74 : Loops := ⟨fun k => (look [(4, [0, 3])] k).getD [], fun _ => [], fun k => (look [(4, [2])] k).getD [], runL [l74_0], []⟩
set_option maxRecDepth 100000 in
theorem t74_0 (k_ : Nat) : ∀ (b0 : List V) (i3 : Int), Agr id (pk1 a74_0) (spec_l2key_l4 k_ b0 i3) (rounds c74 L74 (lpB Try.f74 0) k_ (s74_0.mk' (stv [V.inl 0 b0, vi i3] []))) := by
  induction k_ with
  | zero => exact fun _ _ => g0
  | succ k_ ih => exact fun _ _ => gA (g1 (g1 (g1 (g1 (g1 g4 (ih _ _)) g0) (g1 (g1 (g1 (g1 g4 (ih _ _)) g0) (ih _ _)) g0)) g0) g4) (by kernel_rfl)
theorem o74 : LoopsOk c74 L74 (bodyOf Try.f74) := GoodAll.ok (l := [l74_0]) (.cons 0 (by kernel_rfl) (gd1 (fun st => (((((sv st 0).L).length : Nat) : Int) - ((sv st 1).I)).toNat + 1) (fun st => t74_0 _ _ _) fun st => by kernel_rfl) (.nil)) rfl
noncomputable def e74 : En Try.prog tab := enP base [] false [] Try.func74 (L := L74) o74 [(.one (.inl t_byte))] (fun a => spec_l2key ((rd a 0).L)) (fun r_ : Bool => ((V.bool r_), [])) [] [] [some t_byte] false (by kernel_rfl) fun _ => gA (g1 g4 (g1 g4 (g2 fun _ => g1 g4 g4))) (by kernel_rfl)
noncomputable def c101 : Cfg := cfgOf (P := Try.prog) (tab := tab) [e74] false []
def a101_0 (r_ : Nat × List V × Bool) : List (Ex × St) := [(Ex.ret, (⟨[(0, (V.inl t_byte r_.2.1)), (2, (V.bool r_.2.2))], [], 0, []⟩ : St)), ((Ex.exit 0), (⟨[(0, (V.inl t_byte r_.2.1)), (2, V.dead)], [], 0, []⟩ : St))]
def s101_0 : SS := ⟨[(0, (.one (.inl t_byte))), (3, (.one (.int .i64)))], [], 0, []⟩
noncomputable def l101_0 : LE := le1 2 s101_0 (fun st => spec_l14part_l2 ((((((sv st 0).L).length : Nat) : Int) - ((sv st 1).I)).toNat + 1) ((sv st 0).L) ((sv st 1).I)) a101_0
noncomputable def L101 : Loops := ⟨fun k => (look [(2, [0, 3])] k).getD [], fun _ => [], fun k => (look [(2, [0, 2])] k).getD [], runL [l101_0], []⟩
theorem t101_0 (k_ : Nat) : ∀ (b0 : List V) (i3 : Int), Agr id (pk1 a101_0) (spec_l14part_l2 k_ b0 i3) (rounds c101 L101 (lpB Try.f101 0) k_ (s101_0.mk' (stv [V.inl 0 b0, vi i3] []))) := by
  induction k_ with
  | zero => exact fun _ _ => g0
  | succ k_ ih => exact fun _ _ => gA (g1 (g1 (g1 g4 (ih _ _)) g0) g4) (by kernel_rfl)
theorem o101 : LoopsOk c101 L101 (bodyOf Try.f101) := GoodAll.ok (l := [l101_0]) (.cons 0 (by kernel_rfl) (gd1 (fun st => (((((sv st 0).L).length : Nat) : Int) - ((sv st 1).I)).toNat + 1) (fun st => t101_0 _ _ _) fun st => by kernel_rfl) (.nil)) rfl
noncomputable def e101 : En Try.prog tab := enP base [e74] false [] Try.func101 (L := L101) o101 [(.one (.inl t_byte))] (fun a => spec_l14part ((rd a 0).L)) (fun r_ : Bool => ((V.bool r_), [])) [] [] [some t_byte] false (by kernel_rfl) fun _ => gA (g2 fun _ => g1 g4 (g2 fun _ => g4)) (by kernel_rfl)
noncomputable def e102 : En Try.prog tab := enKey base Try.func102 (by kernel_rfl) t_byte rfl rfl rfl key102 [some t_byte, some t_byte]
set_option maxRecDepth 100000 in
noncomputable def e57 : En Try.prog tab := enP base [e74] false [] Try.func57 noLo [(.agg q0)] (fun a => spec_CheckOk (rd a 0)) (fun r_ : Bool => ((V.bool r_), [])) [] [] [none] false (by kernel_rfl) fun _ => gA (g2 fun _ => g1 g4 (g1 g4 (g1 g4 (g1 g4 (g1 g4 (g1 g4 (g1 g4 (g1 g4 (g1 g4 (g1 g4 (g1 g4 (g1 (g1 (g1 g4 (g1 g4 g4)) (g1 g4 g4)) (g1 g4 g4))))))))))))) (by kernel_rfl)
noncomputable def c41 : Cfg := cfgOf (P := Try.prog) (tab := tab) [e101, e102, e74, e57] false []
def a41_0 (r_ : Nat × Bool × Int × V) : List (Ex × St) := [(Ex.ret, (⟨[(1, (V.bp 0 0)), (2, (V.bool r_.2.1)), (3, (vi r_.2.2.1))], [(0, some (Blk.box t_impl_Local (l6 r_.2.2.2)))], 1, []⟩ : St)), ((Ex.exit 2), (⟨[(1, (V.bp 0 0)), (2, V.dead), (3, (vi r_.2.2.1))], [(0, some (Blk.box t_impl_Local (l6 r_.2.2.2)))], 1, []⟩ : St))]
def s41_0 : SS := ⟨[(1, (.one (.bp 0 0))), (3, (.one (.int .i64))), (4, (.one (.bp 1 0))), (5, (.one (.int .i64)))], [(.box t_impl_Local [(.inl t_byte), (.inl t_impl_Service)]), (.box t_impl_Service [(.inl t_byte), (.inl t_impl_Check)])], 2, []⟩
noncomputable def l41_0 : LE := le1 10 s41_0 (fun st => spec_LocalOk_l10 (((((gl (bc st 1) 1).length : Nat) : Int) - ((sv st 3).I)).toNat + 1) ((sv st 1).I) ((sv st 3).I) (bc st 0) (bc st 1)) a41_0
def a41_1 (r_ : Nat × Bool) : List (Ex × St) := [(Ex.ret, (⟨[(2, (V.bool r_.2))], [], 0, []⟩ : St)), ((Ex.exit 0), (⟨[(2, V.dead)], [], 0, []⟩ : St))]
def s41_1 : SS := ⟨[(1, (.one (.bp 0 0))), (3, (.one (.int .i64)))], [(.box t_impl_Local [(.inl t_byte), (.inl t_impl_Service)])], 1, []⟩
noncomputable def l41_1 : LE := le1 4 s41_1 (fun st => spec_LocalOk_l4 (((((gl (bc st 0) 1).length : Nat) : Int) - ((sv st 1).I)).toNat + 1) ((sv st 1).I) (bc st 0)) a41_1
noncomputable def L41 : Loops := ⟨fun k => (look [(4, [1, 3]), (10, [1, 3, 4, 5])] k).getD [], fun _ => [], fun k => (look [(4, [2]), (10, [1, 2, 3])] k).getD [], runL [l41_0, l41_1], []⟩
set_option maxRecDepth 100000 in
theorem t41_0 (k_ : Nat) : ∀ (i3 : Int) (k5 : Int) (b0 : V) (b1 : V), Agr id (pk1 a41_0) (spec_LocalOk_l10 k_ i3 k5 b0 b1) (rounds c41 L41 (lpB Try.f41 1) k_ (s41_0.mk' (stv [.dead, vi i3, .dead, vi k5] [bx b0, bx b1]))) := by
  induction k_ with
  | zero => exact fun _ _ _ _ => g0
  | succ k_ ih => exact fun _ _ _ _ => gA (g1 (g1 (g2 fun _ => g1 g4 (g1 (g1 (g1 (g1 g4 (ih _ _ _ _)) g0) g0) (ih _ _ _ _))) g0) g4) (by kernel_rfl)
set_option maxRecDepth 100000 in
theorem t41_1 (k_ : Nat) : ∀ (i3 : Int) (b0 : V), Agr id (pk1 a41_1) (spec_LocalOk_l4 k_ i3 b0) (rounds c41 L41 (lpB Try.f41 0) k_ (s41_1.mk' (stv [.dead, vi i3] [bx b0]))) := by
  induction k_ with
  | zero => exact fun _ _ => g0
  | succ k_ ih => exact fun _ _ => gA (g1 (g1 (g2 fun _ => g1 g4 (g2 fun _ => g2 fun _ => g1 g4 (g1 g4 (g1 (g1 (g1 g4 (g2 fun _ => g1 g4 (ih _ _))) g0) (g2 fun _ => g1 g4 (ih _ _)))))) g0) g4) (by kernel_rfl)
theorem o41 : LoopsOk c41 L41 (bodyOf Try.f41) := GoodAll.ok (l := [l41_0, l41_1]) (.cons 1 (by kernel_rfl) (gd1 (fun st => ((((gl (bc st 1) 1).length : Nat) : Int) - ((sv st 3).I)).toNat + 1) (fun st => t41_0 _ _ _ _ _) fun st => by kernel_rfl) (.cons 0 (by kernel_rfl) (gd1 (fun st => ((((gl (bc st 0) 1).length : Nat) : Int) - ((sv st 1).I)).toNat + 1) (fun st => t41_1 _ _ _) fun st => by kernel_rfl) (.nil))) rfl
noncomputable def e41 : En Try.prog tab := enP base [e101, e102, e74, e57] false [] Try.func41 (L := L41) o41 [(.agg [(.inl t_byte), (.inl t_impl_Service)])] (fun a => spec_LocalOk (rd a 0)) (fun r_ : Bool => ((V.bool r_), [])) [] [] [none] false (by kernel_rfl) fun _ => gA (g2 fun _ => g1 g4 (g1 g4 (g2 fun _ => g1 g4 g4))) (by kernel_rfl)
noncomputable def c42 : Cfg := cfgOf (P := Try.prog) (tab := tab) [] false []
def a42_0 (r_ : Nat × Int) : List (Ex × St) := [(Ex.ret, (⟨[(4, (vi r_.2))], [], 0, []⟩ : St)), ((Ex.exit 0), (⟨[(4, V.dead)], [], 0, []⟩ : St))]
def s42_0 : SS := ⟨[(1, (.one (.inl t_byte))), (2, (.one (.bp 0 0))), (5, (.one (.int .i64)))], [(.box t_impl_Local [(.inl t_byte), (.inl t_impl_Service)])], 1, []⟩
noncomputable def l42_0 : LE := le1 2 s42_0 (fun st => spec_l14find_l2 (((((gl (bc st 0) 1).length : Nat) : Int) - ((sv st 2).I)).toNat + 1) ((sv st 0).L) ((sv st 2).I) (bc st 0)) a42_0
noncomputable def L42 : Loops := ⟨fun k => (look [(2, [1, 2, 5])] k).getD [], fun _ => [], fun k => (look [(2, [4])] k).getD [], runL [l42_0], []⟩
theorem t42_0 (k_ : Nat) : ∀ (name1 : List V) (i5 : Int) (b0 : V), Agr id (pk1 a42_0) (spec_l14find_l2 k_ name1 i5 b0) (rounds c42 L42 (lpB Try.f42 0) k_ (s42_0.mk' (stv [V.inl 0 name1, .dead, vi i5] [bx b0]))) := by
  induction k_ with
  | zero => exact fun _ _ _ => g0
  | succ k_ ih => exact fun _ _ _ => gA (g1 (g1 (g1 g4 (ih _ _ _)) g0) g4) (by kernel_rfl)
theorem o42 : LoopsOk c42 L42 (bodyOf Try.f42) := GoodAll.ok (l := [l42_0]) (.cons 0 (by kernel_rfl) (gd1 (fun st => ((((gl (bc st 0) 1).length : Nat) : Int) - ((sv st 2).I)).toNat + 1) (fun st => t42_0 _ _ _ _) fun st => by kernel_rfl) (.nil)) rfl
noncomputable def e42 : En Try.prog tab := enP base [] false [] Try.func42 (L := L42) o42 [(.agg [(.inl t_byte), (.inl t_impl_Service)]), (.one (.inl t_byte))] (fun a => spec_l14find (rd a 0) ((rd a 1).L)) (fun r_ : Int => ((vi r_), [])) [] [] [none, some t_byte] false (by kernel_rfl) fun _ => gA (g2 fun _ => g1 g4 g4) (by kernel_rfl)
noncomputable def e103 : En Try.prog tab := enP base [] false [] Try.func103 noLo [(.agg q0)] (fun a => spec_l13own (rd a 0)) (fun r_ : V => ((h1 r_), [])) [[(.rr t_byte true)]] [] [none] false (by kernel_rfl) fun _ => gA (g1 g4 g0) (by kernel_rfl)
noncomputable def c43 : Cfg := cfgOf (P := Try.prog) (tab := tab) [e103] false []
def a43_0 (r_ : Int × V × List V × List V × List V × List V × List V × List V) : List (Ex × St) := [((Ex.exit 2), (⟨[(1, (V.bp 0 0)), (2, (V.bp 1 0)), (3, (V.bp 2 0)), (4, (vi r_.1)), (5, (V.bp 3 0))], [(0, some (Blk.box t_impl_Local (l6 r_.2.1))), (1, some (Blk.box t_impl_Local [(vs 4 t_byte), (vs 5 t_impl_Service)])), (2, some (Blk.box t_impl_Local [(vs 6 t_byte), (vs 7 t_impl_Service)])), (3, some (Blk.box t_impl_Service [(vs 8 t_byte), (vs 9 t_impl_Check)])), (4, some (Blk.row t_byte true r_.2.2.1)), (5, some (Blk.row t_impl_Service true r_.2.2.2.1)), (6, some (Blk.row t_byte true r_.2.2.2.2.1)), (7, some (Blk.row t_impl_Service true r_.2.2.2.2.2.1)), (8, some (Blk.row t_byte true r_.2.2.2.2.2.2.1)), (9, some (Blk.row t_impl_Check true r_.2.2.2.2.2.2.2))], 10, []⟩ : St))]
def s43_0 : SS := ⟨[(1, (.one (.bp 0 0))), (2, (.one (.bp 1 0))), (3, (.one (.bp 2 0))), (4, (.one (.int .i64))), (5, (.one (.bp 3 0))), (6, (.one (.int .i64)))], [(.box t_impl_Local [(.inl t_byte), (.inl t_impl_Service)]), (.box t_impl_Local [(.sl 4 t_byte), (.sl 5 t_impl_Service)]), (.box t_impl_Local [(.sl 6 t_byte), (.sl 7 t_impl_Service)]), (.box t_impl_Service [(.sl 8 t_byte), (.sl 9 t_impl_Check)]), (.row t_byte true), (.row t_impl_Service true), (.row t_byte true), (.row t_impl_Service true), (.row t_byte true), (.row t_impl_Check true)], 10, []⟩
noncomputable def l43_0 : LE := le0 7 s43_0 (fun st => spec_l14own_l7 ((((gl (rd (gl (bc st 0) 1) ((sv st 3).I).toNat) 1).length : Int) - ((sv st 5).I)).toNat + 1) ((sv st 3).I) ((sv st 5).I) (bc st 0) (br st 4) (br st 5) (br st 6) (br st 7) (br st 8) (br st 9)) a43_0
def a43_1 (r_ : List V × List V × List V × List V) : List (Ex × St) := [((Ex.exit 0), (⟨[(2, (V.bp 0 0)), (3, (V.bp 1 0))], [(0, some (Blk.box t_impl_Local [(vs 2 t_byte), (vs 3 t_impl_Service)])), (1, some (Blk.box t_impl_Local [(vs 4 t_byte), (vs 5 t_impl_Service)])), (2, some (Blk.row t_byte true r_.1)), (3, some (Blk.row t_impl_Service true r_.2.1)), (4, some (Blk.row t_byte true r_.2.2.1)), (5, some (Blk.row t_impl_Service true r_.2.2.2))], 6, []⟩ : St))]
def s43_1 : SS := ⟨[(1, (.one (.bp 0 0))), (2, (.one (.bp 1 0))), (3, (.one (.bp 2 0))), (4, (.one (.int .i64)))], [(.box t_impl_Local [(.inl t_byte), (.inl t_impl_Service)]), (.box t_impl_Local [(.sl 3 t_byte), (.sl 4 t_impl_Service)]), (.box t_impl_Local [(.sl 5 t_byte), (.sl 6 t_impl_Service)]), (.row t_byte true), (.row t_impl_Service true), (.row t_byte true), (.row t_impl_Service true)], 7, []⟩
noncomputable def l43_1 : LE := le0 3 s43_1 (fun st => spec_l14own_l3 (((((gl (bc st 0) 1).length : Nat) : Int) - ((sv st 3).I)).toNat + 1) ((sv st 3).I) (bc st 0) (br st 3) (br st 4) (br st 5) (br st 6)) a43_1
noncomputable def L43 : Loops := ⟨fun k => (look [(3, [1, 2, 3, 4]), (7, [1, 2, 3, 4, 5, 6])] k).getD [], fun k => (look [(3, [⟨2, some 0, true⟩, ⟨2, some 1, true⟩, ⟨3, some 1, true⟩]), (7, [⟨5, some 1, true⟩])] k).getD [], fun k => (look [(3, [2, 3]), (7, [1, 2, 3, 4, 5])] k).getD [], runL [l43_0, l43_1], []⟩
theorem t43_0 (k_ : Nat) : ∀ (i4 : Int) (k6 : Int) (b0 : V) (r4 : List V) (r5 : List V) (r6 : List V) (r7 : List V) (r8 : List V) (r9 : List V), Agr id (pk0 a43_0) (spec_l14own_l7 k_ i4 k6 b0 r4 r5 r6 r7 r8 r9) (rounds c43 L43 (lpB Try.f43 1) k_ (s43_0.mk' (stv [.dead, .dead, .dead, vi i4, .dead, vi k6] [bx b0, none, none, none, rb r4, rb r5, rb r6, rb r7, rb r8, rb r9]))) := by
  induction k_ with
  | zero => exact fun _ _ _ _ _ _ _ _ _ => g0
  | succ k_ ih => exact fun _ _ _ _ _ _ _ _ _ => gA (g1 (g1 (g1 (g1 (g2 fun _ => g1 (ih _ _ _ _ _ _ _ _ _) g0) g0) g0) g4) g0) (by kernel_rfl)
theorem t43_1 (k_ : Nat) : ∀ (i4 : Int) (b0 : V) (r3 : List V) (r4 : List V) (r5 : List V) (r6 : List V), Agr id (pk0 a43_1) (spec_l14own_l3 k_ i4 b0 r3 r4 r5 r6) (rounds c43 L43 (lpB Try.f43 0) k_ (s43_1.mk' (stv [.dead, .dead, .dead, vi i4] [bx b0, none, none, rb r3, rb r4, rb r5, rb r6]))) := by
  induction k_ with
  | zero => exact fun _ _ _ _ _ _ => g0
  | succ k_ ih => exact fun _ _ _ _ _ _ => gA (g1 (g1 (g1 (g2 fun _ => g1 (ih _ _ _ _ _ _) g0) g0) g0) g4) (by kernel_rfl)
theorem o43 : LoopsOk c43 L43 (bodyOf Try.f43) := GoodAll.ok (l := [l43_0, l43_1]) (.cons 1 (by kernel_rfl) (gd0 (fun st => (((gl (rd (gl (bc st 0) 1) ((sv st 3).I).toNat) 1).length : Int) - ((sv st 5).I)).toNat + 1) (fun st => t43_0 _ _ _ _ _ _ _ _ _ _) fun st => by kernel_rfl) (.cons 0 (by kernel_rfl) (gd0 (fun st => ((((gl (bc st 0) 1).length : Nat) : Int) - ((sv st 3).I)).toNat + 1) (fun st => t43_1 _ _ _ _ _ _ _) fun st => by kernel_rfl) (.nil))) rfl
noncomputable def e43 : En Try.prog tab := enP base [e103] false [] Try.func43 (L := L43) o43 [(.agg [(.inl t_byte), (.inl t_impl_Service)])] (fun a => spec_l14own (rd a 0)) (fun r_ : V => ((h4 r_), [])) [q5] [] [none] false (by kernel_rfl) fun _ => gA (g1 (g2 fun _ => g4) g0) (by kernel_rfl)
noncomputable def e44 : En Try.prog tab := enP base [e41, e43] false [] Try.func44 noLo [(.agg [(.inl t_byte), (.inl t_impl_Service)]), (.agg [(.inl t_byte), (.inl t_impl_Service)])] (fun a => spec_l14done (rd a 0) (rd a 1)) (fun r_ : V × Bool => ((V.tup [(h4 r_.1), (V.bool r_.2)]), [])) [q5] [] [none, none] false (by kernel_rfl) fun _ => gA (g2 fun _ => g1 (g2 fun _ => g4) (g2 fun _ => g4)) (by kernel_rfl)
noncomputable def c18 : Cfg := cfgOf (P := Try.prog) (tab := tab) [e41, e42, e43, e44] false []
def a18_0 (r_ : List V × Int × V × List V × List V) : List (Ex × St) := [((Ex.exit 0), (⟨[(1, (V.inl t_byte r_.1)), (2, (V.bp 0 0)), (4, (V.bp 1 0)), (6, (vi r_.2.1))], [(0, some (Blk.box t_impl_Local (l6 r_.2.2.1))), (1, some (Blk.box t_impl_Local [(vs 2 t_byte), (vs 3 t_impl_Service)])), (2, some (Blk.row t_byte true r_.2.2.2.1)), (3, some (Blk.row t_impl_Service true r_.2.2.2.2))], 4, []⟩ : St))]
def s18_0 : SS := ⟨[(1, (.one (.inl t_byte))), (2, (.one (.bp 0 0))), (4, (.one (.bp 1 0))), (6, (.one (.int .i64)))], [(.box t_impl_Local [(.inl t_byte), (.inl t_impl_Service)]), (.box t_impl_Local [(.sl 2 t_byte), (.sl 3 t_impl_Service)]), (.row t_byte true), (.row t_impl_Service true)], 4, []⟩
noncomputable def l18_0 : LE := le0 6 s18_0 (fun st => spec_LocalAdd_l6 (((((gl (bc st 0) 1).length : Nat) : Int) - ((sv st 3).I)).toNat + 1) ((sv st 0).L) ((sv st 3).I) (bc st 0) (br st 2) (br st 3)) a18_0
noncomputable def L18 : Loops := ⟨fun k => (look [(6, [1, 2, 4, 6])] k).getD [], fun k => (look [(6, [⟨4, some 0, true⟩, ⟨4, some 1, true⟩])] k).getD [], fun k => (look [(6, [1, 2, 4, 6])] k).getD [], runL [l18_0], []⟩
theorem t18_0 (k_ : Nat) : ∀ (name1 : List V) (i6 : Int) (b0 : V) (r2 : List V) (r3 : List V), Agr id (pk0 a18_0) (spec_LocalAdd_l6 k_ name1 i6 b0 r2 r3) (rounds c18 L18 (lpB Try.f18 0) k_ (s18_0.mk' (stv [V.inl 0 name1, .dead, .dead, vi i6] [bx b0, none, rb r2, rb r3]))) := by
  induction k_ with
  | zero => exact fun _ _ _ _ _ => g0
  | succ k_ ih => exact fun _ _ _ _ _ => gA (g1 (g1 (g1 (ih _ _ _ _ _) g4) g0) g4) (by kernel_rfl)
theorem o18 : LoopsOk c18 L18 (bodyOf Try.f18) := GoodAll.ok (l := [l18_0]) (.cons 0 (by kernel_rfl) (gd0 (fun st => ((((gl (bc st 0) 1).length : Nat) : Int) - ((sv st 3).I)).toNat + 1) (fun st => t18_0 _ _ _ _ _ _) fun st => by kernel_rfl) (.nil)) rfl
set_option maxRecDepth 100000 in
noncomputable def e18 : En Try.prog tab := enP base [e41, e42, e43, e44] false [] Try.func18 (L := L18) o18 [(.agg [(.inl t_byte), (.inl t_impl_Service)]), (.one (.inl t_byte))] (fun a => spec_LocalAdd (rd a 0) ((rd a 1).L)) (fun r_ : V × Bool => ((V.tup [(h4 r_.1), (V.bool r_.2)]), [])) [q5] [] [none, some t_byte] false (by kernel_rfl) fun _ => gA (g2 fun _ => g1 g4 (g2 fun _ => g1 (g2 fun _ => g4) (g2 fun _ => g1 (g1 (g1 (g1 (g1 (g2 fun _ => g4) g0) g0) g0) g0) g0))) (by kernel_rfl)
noncomputable def e80 : En Try.prog tab := enT base [] false [] Try.func80 noLo [(.one (.int .i64)), (.one (.int .i64)), (.one (.int .i64))] (fun a => impl_within ((rd a 0).I) ((rd a 1).I) ((rd a 2).I)) (fun r_ : Bool => ((V.bool r_), [])) [] [] [none, none, none] false (by kernel_rfl) fun _ => gT (g5 g7 g7) (by kernel_rfl)
noncomputable def c81 : Cfg := cfgOf (P := Try.prog) (tab := tab) [e80] false []
def a81_0 (r_ : Nat × List V × Bool) : List (Ex × St) := [(Ex.ret, (⟨[(0, (V.inl t_byte r_.2.1)), (2, (V.bool r_.2.2))], [], 0, []⟩ : St)), ((Ex.exit 0), (⟨[(0, (V.inl t_byte r_.2.1)), (2, V.dead)], [], 0, []⟩ : St))]
def s81_0 : SS := ⟨[(0, (.one (.inl t_byte))), (5, (.one (.inl t_byte))), (6, (.one (.int .i64))), (7, (.one (.int .i64)))], [], 0, []⟩
noncomputable def l81_0 : LE := le1 2 s81_0 (fun st => impl_KeyOk_l2 ((((sv st 2).I) - ((sv st 3).I)).toNat + 1) ((sv st 0).L) ((sv st 1).L) ((sv st 2).I) ((sv st 3).I)) a81_0
noncomputable def L81 : Loops := ⟨fun k => (look [(2, [0, 5, 6, 7])] k).getD [], fun _ => [], fun k => (look [(2, [0, 2])] k).getD [], runL [l81_0], []⟩
set_option maxRecDepth 100000 in
theorem t81_0 (k_ : Nat) : ∀ (b0 : List V) (v5 : List V) (v6 : Int) (v7 : Int), Agr id (pk1 a81_0) (impl_KeyOk_l2 k_ b0 v5 v6 v7) (rounds c81 L81 (lpB Try.f81 0) k_ (s81_0.mk' (stv [V.inl 0 b0, V.inl 0 v5, vi v6, vi v7] []))) := by
  induction k_ with
  | zero => exact fun _ _ _ _ => g0
  | succ k_ ih => exact fun _ _ _ _ => gA (g1 (g1 (g1 (g1 g4 (ih _ _ _ _)) (g1 (g1 g4 (ih _ _ _ _)) (ih _ _ _ _))) g0) g4) (by kernel_rfl)
theorem o81 : LoopsOk c81 L81 (bodyOf Try.f81) := GoodAll.ok (l := [l81_0]) (.cons 0 (by kernel_rfl) (gd1 (fun st => (((sv st 2).I) - ((sv st 3).I)).toNat + 1) (fun st => t81_0 _ _ _ _ _) fun st => by kernel_rfl) (.nil)) rfl
noncomputable def e81 : En Try.prog tab := enP base [e80] false [] Try.func81 (L := L81) o81 [(.one (.inl t_byte))] (fun a => impl_KeyOk ((rd a 0).L)) (fun r_ : Bool => ((V.bool r_), [])) [] [] [some t_byte] false (by kernel_rfl) fun _ => gA (g2 fun _ => g1 g4 g4) (by kernel_rfl)
noncomputable def c208 : Cfg := cfgOf (P := Try.prog) (tab := tab) [] false []
def a208_0 (r_ : Nat × Int) : List (Ex × St) := [(Ex.ret, (⟨[(4, (vi r_.2))], [], 0, []⟩ : St)), ((Ex.exit 0), (⟨[(4, V.dead)], [], 0, []⟩ : St))]
def s208_0 : SS := ⟨[(0, (.one (.inl t_byte))), (1, (.one (.int .u8))), (7, (.one (.int .i64))), (8, (.one (.int .i64)))], [], 0, []⟩
noncomputable def l208_0 : LE := le1 2 s208_0 (fun st => slices_Index_byte_l2 ((((sv st 2).I) - ((sv st 3).I)).toNat + 1) ((sv st 0).L) ((sv st 1).I) ((sv st 2).I) ((sv st 3).I)) a208_0
noncomputable def L208 : Loops := ⟨fun k => (look [(2, [0, 1, 7, 8])] k).getD [], fun _ => [], fun k => (look [(2, [4])] k).getD [], runL [l208_0], []⟩
theorem t208_0 (k_ : Nat) : ∀ (s0 : List V) (v1 : Int) (v7 : Int) (v8 : Int), Agr id (pk1 a208_0) (slices_Index_byte_l2 k_ s0 v1 v7 v8) (rounds c208 L208 (lpB Try.f208 0) k_ (s208_0.mk' (stv [V.inl 0 s0, vi v1, vi v7, vi v8] []))) := by
  induction k_ with
  | zero => exact fun _ _ _ _ => g0
  | succ k_ ih => exact fun _ _ _ _ => gA (g1 (g1 (g1 g4 (ih _ _ _ _)) g0) g4) (by kernel_rfl)
theorem o208 : LoopsOk c208 L208 (bodyOf Try.f208) := GoodAll.ok (l := [l208_0]) (.cons 0 (by kernel_rfl) (gd1 (fun st => (((sv st 2).I) - ((sv st 3).I)).toNat + 1) (fun st => t208_0 _ _ _ _ _) fun st => by kernel_rfl) (.nil)) rfl
noncomputable def e208 : En Try.prog tab := enP base [] false [] Try.func208 (L := L208) o208 [(.one (.inl t_byte)), (.one (.int .u8))] (fun a => slices_Index_byte ((rd a 0).L) ((rd a 1).I)) (fun r_ : Int => ((vi r_), [])) [] [] [some t_byte, none] false (by kernel_rfl) fun _ => gA (g2 fun _ => g1 g4 g4) (by kernel_rfl)
noncomputable def e185 : En Try.prog tab := enP base [e208] false [] Try.func185 noLo [(.one (.inl t_byte)), (.one (.int .u8))] (fun a => slices_Contains_byte ((rd a 0).L) ((rd a 1).I)) (fun r_ : Bool => ((V.bool r_), [])) [] [] [some t_byte, none] false (by kernel_rfl) fun _ => gA (g2 fun _ => g4) (by kernel_rfl)
noncomputable def e161 : En Try.prog tab := enP base [e81, e185] false [] Try.func161 noLo [(.one (.inl t_byte))] (fun a => impl_isPlain ((rd a 0).L)) (fun r_ : Bool => ((V.bool r_), [])) [] [] [some t_byte] false (by kernel_rfl) fun _ => gA (g2 fun _ => g1 (g2 fun _ => g4) g4) (by kernel_rfl)
noncomputable def e209 : En Try.prog tab := enGrow base Try.func209 (by kernel_rfl) t_byte 0 rfl rfl grow209 [some t_tuple_0, none]
noncomputable def c186 : Cfg := cfgOf (P := Try.prog) (tab := tab) [e209] false []
def a186_0 (r_ : List V × Int) : List (Ex × St) := [((Ex.exit 0), (⟨[(0, (V.inl t_sl_byte r_.1)), (3, (vi r_.2))], [], 0, []⟩ : St))]
def s186_0 : SS := ⟨[(0, (.one (.inl t_sl_byte))), (3, (.one (.int .i64))), (9, (.one (.inl t_sl_byte))), (10, (.one (.int .i64))), (11, (.one (.int .i64)))], [], 0, []⟩
noncomputable def l186_0 : LE := le0 3 s186_0 (fun st => slices_Concat_byte_l3 ((((sv st 3).I) - ((sv st 4).I)).toNat + 1) ((sv st 0).L) ((sv st 1).I) ((sv st 2).L) ((sv st 3).I) ((sv st 4).I)) a186_0
def a186_1 (r_ : List V) : List (Ex × St) := [((Ex.exit 2), (⟨[(6, (vs 0 t_byte))], [(0, some (Blk.row t_byte true r_))], 1, []⟩ : St))]
def s186_1 : SS := ⟨[(6, (.one (.sl 0 t_byte))), (25, (.one (.inl t_sl_byte))), (26, (.one (.int .i64))), (27, (.one (.int .i64)))], [(.row t_byte true)], 1, []⟩
noncomputable def l186_1 : LE := le0 11 s186_1 (fun st => slices_Concat_byte_l11 ((((sv st 2).I) - ((sv st 3).I)).toNat + 1) ((sv st 1).L) ((sv st 2).I) ((sv st 3).I) (br st 0)) a186_1
noncomputable def L186 : Loops := ⟨fun k => (look [(3, [0, 3, 9, 10, 11]), (11, [6, 25, 26, 27])] k).getD [], fun _ => [], fun k => (look [(3, [0, 3]), (11, [6])] k).getD [], runL [l186_0, l186_1], []⟩
theorem t186_0 (k_ : Nat) : ∀ (slices0 : List V) (size3 : Int) (v9 : List V) (v10 : Int) (v11 : Int), Agr id (pk0 a186_0) (slices_Concat_byte_l3 k_ slices0 size3 v9 v10 v11) (rounds c186 L186 (lpB Try.f186 0) k_ (s186_0.mk' (stv [V.inl 0 slices0, vi size3, V.inl 0 v9, vi v10, vi v11] []))) := by
  induction k_ with
  | zero => exact fun _ _ _ _ _ => g0
  | succ k_ ih => exact fun _ _ _ _ _ => gA (g1 (g1 (g1 g0 (ih _ _ _ _ _)) g0) g4) (by kernel_rfl)
theorem t186_1 (k_ : Nat) : ∀ (v25 : List V) (v26 : Int) (v27 : Int) (r0 : List V), Agr id (pk0 a186_1) (slices_Concat_byte_l11 k_ v25 v26 v27 r0) (rounds c186 L186 (lpB Try.f186 1) k_ (s186_1.mk' (stv [.dead, V.inl 0 v25, vi v26, vi v27] [rb r0]))) := by
  induction k_ with
  | zero => exact fun _ _ _ _ => g0
  | succ k_ ih => exact fun _ _ _ _ => gA (g1 (g1 (g1 (ih _ _ _ _) g0) g0) g4) (by kernel_rfl)
theorem o186 : LoopsOk c186 L186 (bodyOf Try.f186) := GoodAll.ok (l := [l186_0, l186_1]) (.cons 0 (by kernel_rfl) (gd0 (fun st => (((sv st 3).I) - ((sv st 4).I)).toNat + 1) (fun st => t186_0 _ _ _ _ _ _) fun st => by kernel_rfl) (.cons 1 (by kernel_rfl) (gd0 (fun st => (((sv st 2).I) - ((sv st 3).I)).toNat + 1) (fun st => t186_1 _ _ _ _ _) fun st => by kernel_rfl) (.nil))) rfl
noncomputable def e186 : En Try.prog tab := enP base [e209] false [] Try.func186 (L := L186) o186 [(.one (.inl t_sl_byte))] (fun a => slices_Concat_byte ((rd a 0).L)) (fun r_ : List V => ((V.rr t_byte true r_), [])) [[(.rr t_byte true)]] [] [some t_sl_byte] false (by kernel_rfl) fun _ => gA (g2 fun _ => g2 fun _ => g2 fun _ => g4) (by kernel_rfl)
noncomputable def e187 : En Try.prog tab := enP base [e186] false [] Try.func187 noLo [(.agg [(.inl t_byte), (.inl t_impl_Service)])] (fun a => impl_Local_ahead (rd a 0)) (fun r_ : List V => ((V.rr t_byte true r_), [])) [[(.rr t_byte true)]] [] [none] false (by kernel_rfl) fun _ => gA (g2 fun _ => g4) (by kernel_rfl)
noncomputable def e162 : En Try.prog tab := enP base [e187, e186] false [] Try.func162 noLo [(.agg [(.inl t_byte), (.inl t_impl_Service)]), (.one (.inl t_byte))] (fun a => impl_Local_catalogKey (rd a 0) ((rd a 1).L)) (fun r_ : List V => ((V.rr t_byte true r_), [])) [[(.rr t_byte true)]] [] [none, some t_byte] false (by kernel_rfl) fun _ => gA (g2 fun _ => g2 fun _ => g4) (by kernel_rfl)
noncomputable def e62 : En Try.prog tab := enCmp base Try.func62 (by kernel_rfl) t_byte rfl rfl rfl cmp62 [some t_byte, some t_byte]
noncomputable def e114 : En Try.prog tab := enT base [] false [] Try.func114 noLo [(.agg q0)] (fun a => impl_Check_late (rd a 0)) (fun r_ : Bool => ((V.bool r_), [])) [] [] [none] false (by kernel_rfl) fun _ => gT (g5 g7 g7) (by kernel_rfl)
set_option maxRecDepth 100000 in
noncomputable def e58 : En Try.prog tab := enP base [e81, e80, e114] false [] Try.func58 noLo [(.agg q0)] (fun a => impl_CheckOk (rd a 0)) (fun r_ : Bool => ((V.bool r_), [])) [] [] [none] false (by kernel_rfl) fun _ => gA (g2 fun _ => g1 (g1 (g1 (g1 (g1 (g1 (g1 (g1 g4 g4) (g1 (g1 g4 g4) g4)) g4) g4) g4) g4) g4) g4) (by kernel_rfl)
noncomputable def c105 : Cfg := cfgOf (P := Try.prog) (tab := tab) [e161, e162, e81, e62, e58] false []
def a105_0 (r_ : Nat × Bool × List V × Int × Int × V) : List (Ex × St) := [(Ex.ret, (⟨[(1, (V.bp 0 0)), (2, (V.bool r_.2.1)), (18, (V.inl t_impl_Service r_.2.2.1)), (19, (vi r_.2.2.2.1)), (20, (vi r_.2.2.2.2.1))], [(0, some (Blk.box t_impl_Local (l6 r_.2.2.2.2.2)))], 1, []⟩ : St)), ((Ex.exit 2), (⟨[(1, (V.bp 0 0)), (2, V.dead), (18, (V.inl t_impl_Service r_.2.2.1)), (19, (vi r_.2.2.2.1)), (20, (vi r_.2.2.2.2.1))], [(0, some (Blk.box t_impl_Local (l6 r_.2.2.2.2.2)))], 1, []⟩ : St))]
def s105_0 : SS := ⟨[(1, (.one (.bp 0 0))), (4, (.one (.bp 1 0))), (18, (.one (.inl t_impl_Service))), (19, (.one (.int .i64))), (20, (.one (.int .i64))), (61, (.one (.inl t_impl_Check))), (62, (.one (.int .i64))), (63, (.one (.int .i64)))], [(.box t_impl_Local [(.inl t_byte), (.inl t_impl_Service)]), (.box t_impl_Service [(.inl t_byte), (.inl t_impl_Check)])], 2, []⟩
noncomputable def l105_0 : LE := le1 9 s105_0 (fun st => impl_LocalOk_l9 ((((sv st 6).I) - ((sv st 7).I)).toNat + 1) ((sv st 2).L) ((sv st 3).I) ((sv st 4).I) ((sv st 5).L) ((sv st 6).I) ((sv st 7).I) (bc st 0) (bc st 1)) a105_0
def a105_1 (r_ : Nat × Bool) : List (Ex × St) := [(Ex.ret, (⟨[(2, (V.bool r_.2))], [], 0, []⟩ : St)), ((Ex.exit 0), (⟨[(2, V.dead)], [], 0, []⟩ : St))]
def s105_1 : SS := ⟨[(1, (.one (.bp 0 0))), (18, (.one (.inl t_impl_Service))), (19, (.one (.int .i64))), (20, (.one (.int .i64)))], [(.box t_impl_Local [(.inl t_byte), (.inl t_impl_Service)])], 1, []⟩
noncomputable def l105_1 : LE := le1 4 s105_1 (fun st => impl_LocalOk_l4 ((((sv st 2).I) - ((sv st 3).I)).toNat + 1) ((sv st 1).L) ((sv st 2).I) ((sv st 3).I) (bc st 0)) a105_1
noncomputable def L105 : Loops := ⟨fun k => (look [(4, [1, 18, 19, 20]), (9, [1, 4, 18, 19, 20, 61, 62, 63])] k).getD [], fun _ => [], fun k => (look [(4, [2]), (9, [1, 2, 18, 19, 20])] k).getD [], runL [l105_0, l105_1], []⟩
set_option maxRecDepth 100000 in
theorem t105_0 (k_ : Nat) : ∀ (v18 : List V) (v19 : Int) (v20 : Int) (v61 : List V) (v62 : Int) (v63 : Int) (b0 : V) (b1 : V), Agr id (pk1 a105_0) (impl_LocalOk_l9 k_ v18 v19 v20 v61 v62 v63 b0 b1) (rounds c105 L105 (lpB Try.f105 1) k_ (s105_0.mk' (stv [.dead, .dead, V.inl 0 v18, vi v19, vi v20, V.inl 0 v61, vi v62, vi v63] [bx b0, bx b1]))) := by
  induction k_ with
  | zero => exact fun _ _ _ _ _ _ _ _ => g0
  | succ k_ ih => exact fun _ _ _ _ _ _ _ _ => gA (g1 (g1 (g2 fun _ => g1 g4 (g1 (g1 (g1 g4 (ih _ _ _ _ _ _ _ _)) g0) (ih _ _ _ _ _ _ _ _))) g0) g4) (by kernel_rfl)
set_option maxRecDepth 100000 in
theorem t105_1 (k_ : Nat) : ∀ (v18 : List V) (v19 : Int) (v20 : Int) (b0 : V), Agr id (pk1 a105_1) (impl_LocalOk_l4 k_ v18 v19 v20 b0) (rounds c105 L105 (lpB Try.f105 0) k_ (s105_1.mk' (stv [.dead, V.inl 0 v18, vi v19, vi v20] [bx b0]))) := by
  induction k_ with
  | zero => exact fun _ _ _ _ => g0
  | succ k_ ih => exact fun _ _ _ _ => gA (g1 (g1 (g2 fun _ => g1 g4 (g2 fun _ => g2 fun _ => g1 g4 (g1 g4 (g1 (g1 (g1 g4 (g2 fun _ => g1 g4 (ih _ _ _ _))) g0) (g2 fun _ => g1 g4 (ih _ _ _ _)))))) g0) g4) (by kernel_rfl)
theorem o105 : LoopsOk c105 L105 (bodyOf Try.f105) := GoodAll.ok (l := [l105_0, l105_1]) (.cons 1 (by kernel_rfl) (gd1 (fun st => (((sv st 6).I) - ((sv st 7).I)).toNat + 1) (fun st => t105_0 _ _ _ _ _ _ _ _ _) fun st => by kernel_rfl) (.cons 0 (by kernel_rfl) (gd1 (fun st => (((sv st 2).I) - ((sv st 3).I)).toNat + 1) (fun st => t105_1 _ _ _ _ _) fun st => by kernel_rfl) (.nil))) rfl
noncomputable def e105 : En Try.prog tab := enP base [e161, e162, e81, e62, e58] false [] Try.func105 (L := L105) o105 [(.agg [(.inl t_byte), (.inl t_impl_Service)])] (fun a => impl_LocalOk (rd a 0)) (fun r_ : Bool => ((V.bool r_), [])) [] [] [none] false (by kernel_rfl) fun _ => gA (g2 fun _ => g1 g4 (g1 g4 (g2 fun _ => g1 g4 g4))) (by kernel_rfl)
noncomputable def e56 : En Try.prog tab := enN base [] false [] Try.func56 noLo t_byte slices_Clone_byte (fun r_ : List V => ((V.rr t_byte true r_), [])) [[(.rr t_byte true)]] [] [some t_byte] false (by kernel_rfl) (fun _ => gA (g1 g4 g0) (by kernel_rfl)) (by
  have h : evalW (wkF [[(.rr t_byte true)]] []) (cfgOf (P := Try.prog) (tab := tab) [] false []) noL Try.f56 [V.nl t_byte] = (some (wkF [[(.rr t_byte true)]] [] ((V.nil t_byte), []))) := by kernel_rfl
  rw [h, slices_Clone_byte]
  clear h
  intro r h; revert h; simp only [List.length_nil]; intro h; first | (cases h; kernel_rfl) | (revert h; simp [roomy]; intro h; subst h; kernel_rfl))
noncomputable def e63 : En Try.prog tab := enP base [e56] false [] Try.func63 noLo [(.agg q0)] (fun a => impl_Check_own (rd a 0)) (fun r_ : V => ((h1 r_), [])) [[(.rr t_byte true)]] [] [none] false (by kernel_rfl) fun _ => gA (g2 fun _ => g4) (by kernel_rfl)
noncomputable def c106 : Cfg := cfgOf (P := Try.prog) (tab := tab) [e56, e63] false []
def a106_0 (r_ : List V × Int × Int × List V × List V × List V × List V × List V × List V) : List (Ex × St) := [((Ex.exit 2), (⟨[(2, (V.bp 0 0)), (3, (V.bp 1 0)), (6, (V.bp 2 0)), (14, (V.inl t_impl_Service r_.1)), (15, (vi r_.2.1)), (16, (vi r_.2.2.1))], [(0, some (Blk.box t_impl_Local [(vs 3 t_byte), (vs 4 t_impl_Service)])), (1, some (Blk.box t_impl_Local [(vs 5 t_byte), (vs 6 t_impl_Service)])), (2, some (Blk.box t_impl_Service [(vs 7 t_byte), (vs 8 t_impl_Check)])), (3, some (Blk.row t_byte true r_.2.2.2.1)), (4, some (Blk.row t_impl_Service true r_.2.2.2.2.1)), (5, some (Blk.row t_byte true r_.2.2.2.2.2.1)), (6, some (Blk.row t_impl_Service true r_.2.2.2.2.2.2.1)), (7, some (Blk.row t_byte true r_.2.2.2.2.2.2.2.1)), (8, some (Blk.row t_impl_Check true r_.2.2.2.2.2.2.2.2))], 9, []⟩ : St))]
def s106_0 : SS := ⟨[(2, (.one (.bp 0 0))), (3, (.one (.bp 1 0))), (6, (.one (.bp 2 0))), (14, (.one (.inl t_impl_Service))), (15, (.one (.int .i64))), (16, (.one (.int .i64))), (25, (.one (.inl t_impl_Check))), (26, (.one (.int .i64))), (27, (.one (.int .i64)))], [(.box t_impl_Local [(.sl 3 t_byte), (.sl 4 t_impl_Service)]), (.box t_impl_Local [(.sl 5 t_byte), (.sl 6 t_impl_Service)]), (.box t_impl_Service [(.sl 7 t_byte), (.sl 8 t_impl_Check)]), (.row t_byte true), (.row t_impl_Service true), (.row t_byte true), (.row t_impl_Service true), (.row t_byte true), (.row t_impl_Check true)], 9, []⟩
noncomputable def l106_0 : LE := le0 7 s106_0 (fun st => impl_Local_own_l7 ((((sv st 7).I) - ((sv st 8).I)).toNat + 1) ((sv st 3).L) ((sv st 4).I) ((sv st 5).I) ((sv st 6).L) ((sv st 7).I) ((sv st 8).I) (br st 3) (br st 4) (br st 5) (br st 6) (br st 7) (br st 8)) a106_0
def a106_1 (r_ : List V × List V × List V × List V) : List (Ex × St) := [((Ex.exit 0), (⟨[(2, (V.bp 0 0)), (3, (V.bp 1 0))], [(0, some (Blk.box t_impl_Local [(vs 2 t_byte), (vs 3 t_impl_Service)])), (1, some (Blk.box t_impl_Local [(vs 4 t_byte), (vs 5 t_impl_Service)])), (2, some (Blk.row t_byte true r_.1)), (3, some (Blk.row t_impl_Service true r_.2.1)), (4, some (Blk.row t_byte true r_.2.2.1)), (5, some (Blk.row t_impl_Service true r_.2.2.2))], 6, []⟩ : St))]
def s106_1 : SS := ⟨[(2, (.one (.bp 0 0))), (3, (.one (.bp 1 0))), (14, (.one (.inl t_impl_Service))), (15, (.one (.int .i64))), (16, (.one (.int .i64)))], [(.box t_impl_Local [(.sl 2 t_byte), (.sl 3 t_impl_Service)]), (.box t_impl_Local [(.sl 4 t_byte), (.sl 5 t_impl_Service)]), (.row t_byte true), (.row t_impl_Service true), (.row t_byte true), (.row t_impl_Service true)], 6, []⟩
noncomputable def l106_1 : LE := le0 3 s106_1 (fun st => impl_Local_own_l3 ((((sv st 3).I) - ((sv st 4).I)).toNat + 1) ((sv st 2).L) ((sv st 3).I) ((sv st 4).I) (br st 2) (br st 3) (br st 4) (br st 5)) a106_1
noncomputable def L106 : Loops := ⟨fun k => (look [(3, [2, 3, 14, 15, 16]), (7, [2, 3, 6, 14, 15, 16, 25, 26, 27])] k).getD [], fun k => (look [(3, [⟨2, some 0, true⟩, ⟨2, some 1, true⟩, ⟨3, some 1, true⟩]), (7, [⟨6, some 1, true⟩])] k).getD [], fun k => (look [(3, [2, 3]), (7, [2, 3, 6, 14, 15, 16])] k).getD [], runL [l106_0, l106_1], []⟩
theorem t106_0 (k_ : Nat) : ∀ (v14 : List V) (v15 : Int) (v16 : Int) (v25 : List V) (v26 : Int) (v27 : Int) (r3 : List V) (r4 : List V) (r5 : List V) (r6 : List V) (r7 : List V) (r8 : List V), Agr id (pk0 a106_0) (impl_Local_own_l7 k_ v14 v15 v16 v25 v26 v27 r3 r4 r5 r6 r7 r8) (rounds c106 L106 (lpB Try.f106 1) k_ (s106_0.mk' (stv [.dead, .dead, .dead, V.inl 0 v14, vi v15, vi v16, V.inl 0 v25, vi v26, vi v27] [none, none, none, rb r3, rb r4, rb r5, rb r6, rb r7, rb r8]))) := by
  induction k_ with
  | zero => exact fun _ _ _ _ _ _ _ _ _ _ _ _ => g0
  | succ k_ ih => exact fun _ _ _ _ _ _ _ _ _ _ _ _ => gA (g1 (g1 (g2 fun _ => g1 (ih _ _ _ _ _ _ _ _ _ _ _ _) g0) g0) g4) (by kernel_rfl)
theorem t106_1 (k_ : Nat) : ∀ (v14 : List V) (v15 : Int) (v16 : Int) (r2 : List V) (r3 : List V) (r4 : List V) (r5 : List V), Agr id (pk0 a106_1) (impl_Local_own_l3 k_ v14 v15 v16 r2 r3 r4 r5) (rounds c106 L106 (lpB Try.f106 0) k_ (s106_1.mk' (stv [.dead, .dead, V.inl 0 v14, vi v15, vi v16] [none, none, rb r2, rb r3, rb r4, rb r5]))) := by
  induction k_ with
  | zero => exact fun _ _ _ _ _ _ _ => g0
  | succ k_ ih => exact fun _ _ _ _ _ _ _ => gA (g1 (g1 (g2 fun _ => g2 fun _ => g1 (ih _ _ _ _ _ _ _) g0) g0) g4) (by kernel_rfl)
theorem o106 : LoopsOk c106 L106 (bodyOf Try.f106) := GoodAll.ok (l := [l106_0, l106_1]) (.cons 1 (by kernel_rfl) (gd0 (fun st => (((sv st 7).I) - ((sv st 8).I)).toNat + 1) (fun st => t106_0 _ _ _ _ _ _ _ _ _ _ _ _ _) fun st => by kernel_rfl) (.cons 0 (by kernel_rfl) (gd0 (fun st => (((sv st 3).I) - ((sv st 4).I)).toNat + 1) (fun st => t106_1 _ _ _ _ _ _ _ _) fun st => by kernel_rfl) (.nil))) rfl
noncomputable def e106 : En Try.prog tab := enP base [e56, e63] false [] Try.func106 (L := L106) o106 [(.agg [(.inl t_byte), (.inl t_impl_Service)])] (fun a => impl_Local_own (rd a 0)) (fun r_ : V => ((h4 r_), [])) [q5] [] [none] false (by kernel_rfl) fun _ => gA (g2 fun _ => g2 fun _ => g4) (by kernel_rfl)
noncomputable def e108 : En Try.prog tab := enT base [e62] false [] Try.func108 noLo [(.agg [(.inl t_byte), (.inl t_impl_Check)]), (.one (.inl t_byte))] (fun a => impl_Local_service_1 (rd a 0) ((rd a 1).L)) (fun r_ : Int => ((vi r_), [])) [] [] [none, some t_byte] false (by kernel_rfl) fun _ => gT g7 (by kernel_rfl)
noncomputable def c107 : Cfg := cfgOf (P := Try.prog) (tab := tab) [e108] false []
def a107_0 (r_ : List V × List V × Int × Int) : List (Ex × St) := [((Ex.exit 0), (⟨[(0, (V.inl t_impl_Service r_.1)), (1, (V.inl t_byte r_.2.1)), (2, (V.fn 108 [])), (8, (vi r_.2.2.1)), (9, (vi r_.2.2.2))], [], 0, []⟩ : St))]
def s107_0 : SS := ⟨[(0, (.one (.inl t_impl_Service))), (1, (.one (.inl t_byte))), (2, (.fn 108 [])), (8, (.one (.int .i64))), (9, (.one (.int .i64))), (10, (.one (.int .i64)))], [], 0, []⟩
noncomputable def l107_0 : LE := le0 3 s107_0 (fun st => slices_BinarySearchFunc_byte_l3 ((((sv st 5).I) - ((sv st 4).I)).toNat + 1) ((sv st 0).L) ((sv st 1).L) ((sv st 3).I) ((sv st 4).I) ((sv st 5).I)) a107_0
noncomputable def L107 : Loops := ⟨fun k => (look [(3, [0, 1, 2, 8, 9, 10])] k).getD [], fun _ => [], fun k => (look [(3, [0, 1, 2, 8, 9])] k).getD [], runL [l107_0], []⟩
theorem t107_0 (k_ : Nat) : ∀ (x0 : List V) (target1 : List V) (n8 : Int) (i9 : Int) (j10 : Int), Agr id (pk0 a107_0) (slices_BinarySearchFunc_byte_l3 k_ x0 target1 n8 i9 j10) (rounds c107 L107 (lpB Try.f107 0) k_ (s107_0.mk' (stv [V.inl 0 x0, V.inl 0 target1, V.fn 0 [], vi n8, vi i9, vi j10] []))) := by
  induction k_ with
  | zero => exact fun _ _ _ _ _ => g0
  | succ k_ ih => exact fun _ _ _ _ _ => gA (g1 (g1 (g1 (ih _ _ _ _ _) (ih _ _ _ _ _)) g0) g4) (by kernel_rfl)
theorem o107 : LoopsOk c107 L107 (bodyOf Try.f107) := GoodAll.ok (l := [l107_0]) (.cons 0 (by kernel_rfl) (gd0 (fun st => (((sv st 5).I) - ((sv st 4).I)).toNat + 1) (fun st => t107_0 _ _ _ _ _ _) fun st => by kernel_rfl) (.nil)) rfl
noncomputable def e107 : En Try.prog tab := enP base [e108] false [] Try.func107 (L := L107) o107 [(.one (.inl t_impl_Service)), (.one (.inl t_byte)), (.fn 108 [])] (fun a => slices_BinarySearchFunc_byte ((rd a 0).L) ((rd a 1).L)) (fun r_ : Int × Bool => ((V.tup [(vi r_.1), (V.bool r_.2)]), [])) [] [] [some t_impl_Service, some t_byte, none] false (by kernel_rfl) fun _ => gA (g2 fun _ => g1 (g1 g4 g0) g4) (by kernel_rfl)
noncomputable def e48 : En Try.prog tab := enP base [e107] false [] Try.func48 noLo [(.agg [(.inl t_byte), (.inl t_impl_Service)]), (.one (.inl t_byte))] (fun a => impl_Local_service (rd a 0) ((rd a 1).L)) (fun r_ : Int × Bool => ((V.tup [(vi r_.1), (V.bool r_.2)]), [])) [] [] [none, some t_byte] false (by kernel_rfl) fun _ => gA (g2 fun _ => g4) (by kernel_rfl)
noncomputable def e55 : En Try.prog tab := enIns base Try.func55 (by kernel_rfl) t_impl_Service rfl true 48 rfl ins55 [some t_impl_Service, none, some t_impl_Service]
noncomputable def e54 : En Try.prog tab := enP base [e48, e56, e55] false [] Try.func54 noLo [(.rf t_impl_Local q5), (.ep [(.inl t_byte)] 0)] (fun a => impl_LocalAdd_1 ((rd a 0).unbox) ((rd a 1).unbox)) (fun r_ : Bool × V => ((V.bool r_.1), [(V.rf t_impl_Local (l7 r_.2))])) [] [q5] [none] false (by kernel_rfl) fun _ => gA (g2 fun _ => g1 (g2 fun _ => g2 fun _ => g4) g4) (by kernel_rfl)
set_option maxRecDepth 100000 in
noncomputable def e46v1 : En Try.prog tab := enP base [e105, e106, e54] false [] Try.func46 noLo [(.agg [(.inl t_byte), (.inl t_impl_Service)]), (.fn 54 [[(.inl t_byte)]])] (fun a => impl_changed_v1 (rd a 0) ((rd (rd a 1).caps 0).unbox)) (fun r_ : V × Bool => ((V.tup [(h4 r_.1), (V.bool r_.2)]), [])) [q5] [] [none, none] false (by kernel_rfl) fun _ => gA (g2 fun _ => g1 g4 (g2 fun _ => g2 fun _ => g1 (g2 fun _ => g4) (g2 fun _ => g1 (g2 fun _ => g4) g4))) (by kernel_rfl)
noncomputable def e19 : En Try.prog tab := enP base [e46v1] false [] Try.func19 noLo [(.agg [(.inl t_byte), (.inl t_impl_Service)]), (.one (.inl t_byte))] (fun a => impl_LocalAdd (rd a 0) ((rd a 1).L)) (fun r_ : V × Bool => ((V.tup [(h4 r_.1), (V.bool r_.2)]), [])) [q5] [] [none, some t_byte] false (by kernel_rfl) fun _ => gA (g2 fun _ => g4) (by kernel_rfl)
noncomputable def c14 : Cfg := cfgOf (P := Try.prog) (tab := tab) [] false []
def a14_0 (r_ : Nat × Bool) : List (Ex × St) := [(Ex.ret, (⟨[(4, (V.bool r_.2))], [], 0, []⟩ : St)), ((Ex.exit 0), (⟨[(4, V.dead)], [], 0, []⟩ : St))]
def s14_0 : SS := ⟨[(0, (.one (.inl t_byte))), (1, (.one (.inl t_byte))), (5, (.one (.int .i64)))], [], 0, []⟩
noncomputable def l14_0 : LE := le1 4 s14_0 (fun st => laws_eqByteS_l4 ((((((sv st 0).L).length : Nat) : Int) - ((sv st 2).I)).toNat + 1) ((sv st 0).L) ((sv st 1).L) ((sv st 2).I)) a14_0
noncomputable def L14 : Loops := ⟨fun k => (look [(4, [0, 1, 5])] k).getD [], fun _ => [], fun k => (look [(4, [4])] k).getD [], runL [l14_0], []⟩
theorem t14_0 (k_ : Nat) : ∀ (a0 : List V) (b1 : List V) (i5 : Int), Agr id (pk1 a14_0) (laws_eqByteS_l4 k_ a0 b1 i5) (rounds c14 L14 (lpB Try.f14 0) k_ (s14_0.mk' (stv [V.inl 0 a0, V.inl 0 b1, vi i5] []))) := by
  induction k_ with
  | zero => exact fun _ _ _ => g0
  | succ k_ ih => exact fun _ _ _ => gA (g1 (g1 (g1 (g1 g4 (ih _ _ _)) g0) g0) g4) (by kernel_rfl)
theorem o14 : LoopsOk c14 L14 (bodyOf Try.f14) := GoodAll.ok (l := [l14_0]) (.cons 0 (by kernel_rfl) (gd1 (fun st => (((((sv st 0).L).length : Nat) : Int) - ((sv st 2).I)).toNat + 1) (fun st => t14_0 _ _ _ _) fun st => by kernel_rfl) (.nil)) rfl
noncomputable def e14 : En Try.prog tab := enP base [] false [] Try.func14 (L := L14) o14 [(.one (.inl t_byte)), (.one (.inl t_byte))] (fun a => laws_eqByteS ((rd a 0).L) ((rd a 1).L)) (fun r_ : Bool => ((V.bool r_), [])) [] [] [some t_byte, some t_byte] false (by kernel_rfl) fun _ => gA (g1 g4 (g2 fun _ => g1 g4 g4)) (by kernel_rfl)
set_option maxRecDepth 100000 in
noncomputable def e24 : En Try.prog tab := enP base [e14] false [] Try.func24 noLo [(.agg q0), (.agg q0)] (fun a => laws_eqCheck (rd a 0) (rd a 1)) (fun r_ : Bool => ((V.bool r_), [])) [] [] [none, none] false (by kernel_rfl) fun _ => gA (g2 fun _ => g1 g4 (g1 g4 (g1 g4 (g1 g4 (g1 g4 (g1 g4 g4)))))) (by kernel_rfl)
noncomputable def c163 : Cfg := cfgOf (P := Try.prog) (tab := tab) [e24] false []
def a163_0 (r_ : Nat × Bool) : List (Ex × St) := [(Ex.ret, (⟨[(4, (V.bool r_.2))], [], 0, []⟩ : St)), ((Ex.exit 0), (⟨[(4, V.dead)], [], 0, []⟩ : St))]
def s163_0 : SS := ⟨[(0, (.one (.inl t_impl_Check))), (1, (.one (.inl t_impl_Check))), (5, (.one (.int .i64)))], [], 0, []⟩
noncomputable def l163_0 : LE := le1 4 s163_0 (fun st => laws_eqCheckS_l4 ((((((sv st 0).L).length : Nat) : Int) - ((sv st 2).I)).toNat + 1) ((sv st 0).L) ((sv st 1).L) ((sv st 2).I)) a163_0
noncomputable def L163 : Loops := ⟨fun k => (look [(4, [0, 1, 5])] k).getD [], fun _ => [], fun k => (look [(4, [4])] k).getD [], runL [l163_0], []⟩
theorem t163_0 (k_ : Nat) : ∀ (a0 : List V) (b1 : List V) (i5 : Int), Agr id (pk1 a163_0) (laws_eqCheckS_l4 k_ a0 b1 i5) (rounds c163 L163 (lpB Try.f163 0) k_ (s163_0.mk' (stv [V.inl 0 a0, V.inl 0 b1, vi i5] []))) := by
  induction k_ with
  | zero => exact fun _ _ _ => g0
  | succ k_ ih => exact fun _ _ _ => gA (g1 (g1 (g1 (g2 fun _ => g1 g4 (ih _ _ _)) g0) g0) g4) (by kernel_rfl)
theorem o163 : LoopsOk c163 L163 (bodyOf Try.f163) := GoodAll.ok (l := [l163_0]) (.cons 0 (by kernel_rfl) (gd1 (fun st => (((((sv st 0).L).length : Nat) : Int) - ((sv st 2).I)).toNat + 1) (fun st => t163_0 _ _ _ _) fun st => by kernel_rfl) (.nil)) rfl
noncomputable def e163 : En Try.prog tab := enP base [e24] false [] Try.func163 (L := L163) o163 [(.one (.inl t_impl_Check)), (.one (.inl t_impl_Check))] (fun a => laws_eqCheckS ((rd a 0).L) ((rd a 1).L)) (fun r_ : Bool => ((V.bool r_), [])) [] [] [some t_impl_Check, some t_impl_Check] false (by kernel_rfl) fun _ => gA (g1 g4 (g2 fun _ => g1 g4 g4)) (by kernel_rfl)
noncomputable def e109 : En Try.prog tab := enP base [e14, e163] false [] Try.func109 noLo [(.agg [(.inl t_byte), (.inl t_impl_Check)]), (.agg [(.inl t_byte), (.inl t_impl_Check)])] (fun a => laws_eqService (rd a 0) (rd a 1)) (fun r_ : Bool => ((V.bool r_), [])) [] [] [none, none] false (by kernel_rfl) fun _ => gA (g2 fun _ => g1 g4 (g2 fun _ => g1 g4 g4)) (by kernel_rfl)
noncomputable def c50 : Cfg := cfgOf (P := Try.prog) (tab := tab) [e109] false []
def a50_0 (r_ : Nat × Bool) : List (Ex × St) := [(Ex.ret, (⟨[(4, (V.bool r_.2))], [], 0, []⟩ : St)), ((Ex.exit 0), (⟨[(4, V.dead)], [], 0, []⟩ : St))]
def s50_0 : SS := ⟨[(0, (.one (.inl t_impl_Service))), (1, (.one (.inl t_impl_Service))), (5, (.one (.int .i64)))], [], 0, []⟩
noncomputable def l50_0 : LE := le1 4 s50_0 (fun st => laws_eqServiceS_l4 ((((((sv st 0).L).length : Nat) : Int) - ((sv st 2).I)).toNat + 1) ((sv st 0).L) ((sv st 1).L) ((sv st 2).I)) a50_0
noncomputable def L50 : Loops := ⟨fun k => (look [(4, [0, 1, 5])] k).getD [], fun _ => [], fun k => (look [(4, [4])] k).getD [], runL [l50_0], []⟩
theorem t50_0 (k_ : Nat) : ∀ (a0 : List V) (b1 : List V) (i5 : Int), Agr id (pk1 a50_0) (laws_eqServiceS_l4 k_ a0 b1 i5) (rounds c50 L50 (lpB Try.f50 0) k_ (s50_0.mk' (stv [V.inl 0 a0, V.inl 0 b1, vi i5] []))) := by
  induction k_ with
  | zero => exact fun _ _ _ => g0
  | succ k_ ih => exact fun _ _ _ => gA (g1 (g1 (g1 (g2 fun _ => g1 g4 (ih _ _ _)) g0) g0) g4) (by kernel_rfl)
theorem o50 : LoopsOk c50 L50 (bodyOf Try.f50) := GoodAll.ok (l := [l50_0]) (.cons 0 (by kernel_rfl) (gd1 (fun st => (((((sv st 0).L).length : Nat) : Int) - ((sv st 2).I)).toNat + 1) (fun st => t50_0 _ _ _ _) fun st => by kernel_rfl) (.nil)) rfl
noncomputable def e50 : En Try.prog tab := enP base [e109] false [] Try.func50 (L := L50) o50 [(.one (.inl t_impl_Service)), (.one (.inl t_impl_Service))] (fun a => laws_eqServiceS ((rd a 0).L) ((rd a 1).L)) (fun r_ : Bool => ((V.bool r_), [])) [] [] [some t_impl_Service, some t_impl_Service] false (by kernel_rfl) fun _ => gA (g1 g4 (g2 fun _ => g1 g4 g4)) (by kernel_rfl)
noncomputable def e13 : En Try.prog tab := enP base [e14, e50] false [] Try.func13 noLo [(.agg [(.inl t_byte), (.inl t_impl_Service)]), (.agg [(.inl t_byte), (.inl t_impl_Service)])] (fun a => laws_eqLocal (rd a 0) (rd a 1)) (fun r_ : Bool => ((V.bool r_), [])) [] [] [none, none] false (by kernel_rfl) fun _ => gA (g2 fun _ => g1 g4 (g2 fun _ => g1 g4 g4)) (by kernel_rfl)
noncomputable def c16 : Cfg := cfgOf (P := Try.prog) (tab := tab) [] false []
def a16_0 (r_ : Int × List V) : List (Ex × St) := [((Ex.exit 0), (⟨[(1, (vi r_.1))], [(0, some (Blk.drow t_byte r_.2))], 1, [0]⟩ : St))]
def s16_0 : SS := ⟨[(0, (.one (.sl 0 t_byte))), (1, (.one (.int .i64))), (5, (.one (.int .i64)))], [(.drow t_byte)], 1, [0]⟩
noncomputable def l16_0 : LE := le0 2 s16_0 (fun st => laws_markByteS_l2 (((((br st 0).length : Nat) : Int) - ((sv st 2).I)).toNat + 1) ((sv st 1).I) ((sv st 2).I) (br st 0)) a16_0
noncomputable def L16 : Loops := ⟨fun k => (look [(2, [0, 1, 5])] k).getD [], fun _ => [], fun k => (look [(2, [1])] k).getD [], runL [l16_0], []⟩
theorem t16_0 (k_ : Nat) : ∀ (k1 : Int) (i5 : Int) (r0 : List V), Agr id (pk0 a16_0) (laws_markByteS_l2 k_ k1 i5 r0) (rounds c16 L16 (lpB Try.f16 0) k_ (s16_0.mk' (stv [.dead, vi k1, vi i5] [rb r0]))) := by
  induction k_ with
  | zero => exact fun _ _ _ => g0
  | succ k_ ih => exact fun _ _ _ => gA (g1 (g1 (ih _ _ _) g0) g4) (by kernel_rfl)
theorem o16 : LoopsOk c16 L16 (bodyOf Try.f16) := GoodAll.ok (l := [l16_0]) (.cons 0 (by kernel_rfl) (gd0 (fun st => ((((br st 0).length : Nat) : Int) - ((sv st 2).I)).toNat + 1) (fun st => t16_0 _ _ _ _) fun st => by kernel_rfl) (.nil)) rfl
noncomputable def e16 : En Try.prog tab := enP base [] false [] Try.func16 (L := L16) o16 [(.one (.dr t_byte)), (.one (.int .i64))] (fun a => laws_markByteS ((rd a 0).L) ((rd a 1).I)) (fun r_ : Int × List V => ((vi r_.1), [(V.dr t_byte r_.2)])) [] [[(.dr t_byte)]] [some t_byte, none] true (by kernel_rfl) fun _ => gA (g2 fun _ => g4) (by kernel_rfl)
noncomputable def c110 : Cfg := cfgOf (P := Try.prog) (tab := tab) [e16] false []
def a110_0 (r_ : Int × List V) : List (Ex × St) := [((Ex.exit 0), (⟨[(1, (vi r_.1))], [(0, some (Blk.drow t_impl_Check r_.2))], 1, [0]⟩ : St))]
def s110_0 : SS := ⟨[(0, (.one (.sl 0 t_impl_Check))), (1, (.one (.int .i64))), (5, (.one (.int .i64)))], [(.drow t_impl_Check)], 1, [0]⟩
noncomputable def l110_0 : LE := le0 2 s110_0 (fun st => laws_markCheckS_l2 (((((br st 0).length : Nat) : Int) - ((sv st 2).I)).toNat + 1) ((sv st 1).I) ((sv st 2).I) (br st 0)) a110_0
noncomputable def L110 : Loops := ⟨fun k => (look [(2, [0, 1, 5])] k).getD [], fun _ => [], fun k => (look [(2, [1])] k).getD [], runL [l110_0], []⟩
set_option maxRecDepth 100000 in
theorem t110_0 (k_ : Nat) : ∀ (k1 : Int) (i5 : Int) (r0 : List V), Agr id (pk0 a110_0) (laws_markCheckS_l2 k_ k1 i5 r0) (rounds c110 L110 (lpB Try.f110 0) k_ (s110_0.mk' (stv [.dead, vi k1, vi i5] [rb r0]))) := by
  induction k_ with
  | zero => exact fun _ _ _ => g0
  | succ k_ ih => exact fun _ _ _ => gA (g1 (g1 (g2 fun _ => g1 (g3 fun _ => g3 fun _ => g1 (g3 fun _ => g1 (g3 fun _ => g1 (g3 fun _ => g1 (g3 fun _ => ih _ _ _) g0) g0) g0) g0) g0) g0) g4) (by kernel_rfl)
theorem o110 : LoopsOk c110 L110 (bodyOf Try.f110) := GoodAll.ok (l := [l110_0]) (.cons 0 (by kernel_rfl) (gd0 (fun st => ((((br st 0).length : Nat) : Int) - ((sv st 2).I)).toNat + 1) (fun st => t110_0 _ _ _ _) fun st => by kernel_rfl) (.nil)) rfl
noncomputable def e110 : En Try.prog tab := enP base [e16] false [] Try.func110 (L := L110) o110 [(.one (.dr t_impl_Check)), (.one (.int .i64))] (fun a => laws_markCheckS ((rd a 0).L) ((rd a 1).I)) (fun r_ : Int × List V => ((vi r_.1), [(V.dr t_impl_Check r_.2)])) [] [[(.dr t_impl_Check)]] [some t_impl_Check, none] true (by kernel_rfl) fun _ => gA (g2 fun _ => g4) (by kernel_rfl)
end Go.Eng.R
open Go Go.Eng Go.Proofs
namespace Go.Eng.R
noncomputable def c51 : Cfg := cfgOf (P := Try.prog) (tab := tab) [e16, e110] false []
def a51_0 (r_ : Int × List V) : List (Ex × St) := [((Ex.exit 0), (⟨[(1, (vi r_.1))], [(0, some (Blk.drow t_impl_Service r_.2))], 1, [0]⟩ : St))]
def s51_0 : SS := ⟨[(0, (.one (.sl 0 t_impl_Service))), (1, (.one (.int .i64))), (5, (.one (.int .i64)))], [(.drow t_impl_Service)], 1, [0]⟩
noncomputable def l51_0 : LE := le0 2 s51_0 (fun st => laws_markServiceS_l2 (((((br st 0).length : Nat) : Int) - ((sv st 2).I)).toNat + 1) ((sv st 1).I) ((sv st 2).I) (br st 0)) a51_0
noncomputable def L51 : Loops := ⟨fun k => (look [(2, [0, 1, 5])] k).getD [], fun k => (look [(2, [⟨0, none, true⟩])] k).getD [], fun k => (look [(2, [1])] k).getD [], runL [l51_0], []⟩
theorem t51_0 (k_ : Nat) : ∀ (k1 : Int) (i5 : Int) (r0 : List V), Agr id (pk0 a51_0) (laws_markServiceS_l2 k_ k1 i5 r0) (rounds c51 L51 (lpB Try.f51 0) k_ (s51_0.mk' (stv [.dead, vi k1, vi i5] [rb r0]))) := by
  induction k_ with
  | zero => exact fun _ _ _ => g0
  | succ k_ ih => exact fun _ _ _ => gA (g1 (g1 (g2 fun _ => g1 (g2 fun _ => ih _ _ _) g0) g0) g4) (by kernel_rfl)
theorem o51 : LoopsOk c51 L51 (bodyOf Try.f51) := GoodAll.ok (l := [l51_0]) (.cons 0 (by kernel_rfl) (gd0 (fun st => ((((br st 0).length : Nat) : Int) - ((sv st 2).I)).toNat + 1) (fun st => t51_0 _ _ _ _) fun st => by kernel_rfl) (.nil)) rfl
noncomputable def e51 : En Try.prog tab := enP base [e16, e110] false [] Try.func51 (L := L51) o51 [(.one (.dr t_impl_Service)), (.one (.int .i64))] (fun a => laws_markServiceS ((rd a 0).L) ((rd a 1).I)) (fun r_ : Int × List V => ((vi r_.1), [(V.dr t_impl_Service r_.2)])) [] [[(.dr t_impl_Service)]] [some t_impl_Service, none] true (by kernel_rfl) fun _ => gA (g2 fun _ => g4) (by kernel_rfl)
noncomputable def e15 : En Try.prog tab := enP base [e16, e51] false [] Try.func15 noLo [(.agg [(.dr t_byte), (.dr t_impl_Service)]), (.one (.int .i64))] (fun a => laws_markLocal (rd a 0) ((rd a 1).I)) (fun r_ : Int × List V × List V => ((vi r_.1), [(V.dr t_byte r_.2.1), (V.dr t_impl_Service r_.2.2)])) [] [[(.dr t_byte)], [(.dr t_impl_Service)]] [none, none] true (by kernel_rfl) fun _ => gA (g2 fun _ => g2 fun _ => g4) (by kernel_rfl)
noncomputable def c52 : Cfg := cfgOf (P := Try.prog) (tab := tab) [] false []
def a52_0 (r_ : Nat × Int × Int) : List (Ex × St) := [(Ex.ret, (⟨[(1, (vi r_.2.1)), (4, (vi r_.2.2))], [], 0, []⟩ : St)), ((Ex.exit 0), (⟨[(1, (vi r_.2.1)), (4, V.dead)], [], 0, []⟩ : St))]
def s52_0 : SS := ⟨[(0, (.one (.inl t_byte))), (1, (.one (.int .i64))), (5, (.one (.int .i64)))], [], 0, []⟩
noncomputable def l52_0 : LE := le1 2 s52_0 (fun st => laws_heldByteS_l2 ((((((sv st 0).L).length : Nat) : Int) - ((sv st 2).I)).toNat + 1) ((sv st 0).L) ((sv st 1).I) ((sv st 2).I)) a52_0
noncomputable def L52 : Loops := ⟨fun k => (look [(2, [0, 1, 5])] k).getD [], fun _ => [], fun k => (look [(2, [1, 4])] k).getD [], runL [l52_0], []⟩
theorem t52_0 (k_ : Nat) : ∀ (a0 : List V) (k1 : Int) (i5 : Int), Agr id (pk1 a52_0) (laws_heldByteS_l2 k_ a0 k1 i5) (rounds c52 L52 (lpB Try.f52 0) k_ (s52_0.mk' (stv [V.inl 0 a0, vi k1, vi i5] []))) := by
  induction k_ with
  | zero => exact fun _ _ _ => g0
  | succ k_ ih => exact fun _ _ _ => gA (g1 (g1 (g1 g4 (ih _ _ _)) g0) g4) (by kernel_rfl)
theorem o52 : LoopsOk c52 L52 (bodyOf Try.f52) := GoodAll.ok (l := [l52_0]) (.cons 0 (by kernel_rfl) (gd1 (fun st => (((((sv st 0).L).length : Nat) : Int) - ((sv st 2).I)).toNat + 1) (fun st => t52_0 _ _ _ _) fun st => by kernel_rfl) (.nil)) rfl
noncomputable def e52 : En Try.prog tab := enP base [] false [] Try.func52 (L := L52) o52 [(.one (.inl t_byte)), (.one (.int .i64))] (fun a => laws_heldByteS ((rd a 0).L) ((rd a 1).I)) (fun r_ : Int => ((vi r_), [])) [] [] [some t_byte, none] false (by kernel_rfl) fun _ => gA (g2 fun _ => g1 g4 g4) (by kernel_rfl)
noncomputable def c111 : Cfg := cfgOf (P := Try.prog) (tab := tab) [e52] false []
def a111_0 (r_ : Nat × Int × Int) : List (Ex × St) := [(Ex.ret, (⟨[(1, (vi r_.2.1)), (4, (vi r_.2.2))], [], 0, []⟩ : St)), ((Ex.exit 0), (⟨[(1, (vi r_.2.1)), (4, V.dead)], [], 0, []⟩ : St))]
def s111_0 : SS := ⟨[(0, (.one (.inl t_impl_Check))), (1, (.one (.int .i64))), (5, (.one (.int .i64)))], [], 0, []⟩
noncomputable def l111_0 : LE := le1 2 s111_0 (fun st => laws_heldCheckS_l2 ((((((sv st 0).L).length : Nat) : Int) - ((sv st 2).I)).toNat + 1) ((sv st 0).L) ((sv st 1).I) ((sv st 2).I)) a111_0
noncomputable def L111 : Loops := ⟨fun k => (look [(2, [0, 1, 5])] k).getD [], fun _ => [], fun k => (look [(2, [1, 4])] k).getD [], runL [l111_0], []⟩
set_option maxRecDepth 100000 in
theorem t111_0 (k_ : Nat) : ∀ (a0 : List V) (k1 : Int) (i5 : Int), Agr id (pk1 a111_0) (laws_heldCheckS_l2 k_ a0 k1 i5) (rounds c111 L111 (lpB Try.f111 0) k_ (s111_0.mk' (stv [V.inl 0 a0, vi k1, vi i5] []))) := by
  induction k_ with
  | zero => exact fun _ _ _ => g0
  | succ k_ ih => exact fun _ _ _ => gA (g1 (g1 (g2 fun _ => g1 g4 (g1 (g1 g4 (g1 (g1 g4 (g1 (g1 g4 (g1 (g1 g4 (g1 (g1 g4 (ih _ _ _)) g0)) g0)) g0)) g0)) g0)) g0) g4) (by kernel_rfl)
theorem o111 : LoopsOk c111 L111 (bodyOf Try.f111) := GoodAll.ok (l := [l111_0]) (.cons 0 (by kernel_rfl) (gd1 (fun st => (((((sv st 0).L).length : Nat) : Int) - ((sv st 2).I)).toNat + 1) (fun st => t111_0 _ _ _ _) fun st => by kernel_rfl) (.nil)) rfl
noncomputable def e111 : En Try.prog tab := enP base [e52] false [] Try.func111 (L := L111) o111 [(.one (.inl t_impl_Check)), (.one (.int .i64))] (fun a => laws_heldCheckS ((rd a 0).L) ((rd a 1).I)) (fun r_ : Int => ((vi r_), [])) [] [] [some t_impl_Check, none] false (by kernel_rfl) fun _ => gA (g2 fun _ => g1 g4 g4) (by kernel_rfl)
noncomputable def c53 : Cfg := cfgOf (P := Try.prog) (tab := tab) [e52, e111] false []
def a53_0 (r_ : Nat × Int × Int) : List (Ex × St) := [(Ex.ret, (⟨[(1, (vi r_.2.1)), (4, (vi r_.2.2))], [], 0, []⟩ : St)), ((Ex.exit 0), (⟨[(1, (vi r_.2.1)), (4, V.dead)], [], 0, []⟩ : St))]
def s53_0 : SS := ⟨[(0, (.one (.inl t_impl_Service))), (1, (.one (.int .i64))), (5, (.one (.int .i64)))], [], 0, []⟩
noncomputable def l53_0 : LE := le1 2 s53_0 (fun st => laws_heldServiceS_l2 ((((((sv st 0).L).length : Nat) : Int) - ((sv st 2).I)).toNat + 1) ((sv st 0).L) ((sv st 1).I) ((sv st 2).I)) a53_0
noncomputable def L53 : Loops := ⟨fun k => (look [(2, [0, 1, 5])] k).getD [], fun _ => [], fun k => (look [(2, [1, 4])] k).getD [], runL [l53_0], []⟩
set_option maxRecDepth 100000 in
theorem t53_0 (k_ : Nat) : ∀ (a0 : List V) (k1 : Int) (i5 : Int), Agr id (pk1 a53_0) (laws_heldServiceS_l2 k_ a0 k1 i5) (rounds c53 L53 (lpB Try.f53 0) k_ (s53_0.mk' (stv [V.inl 0 a0, vi k1, vi i5] []))) := by
  induction k_ with
  | zero => exact fun _ _ _ => g0
  | succ k_ ih => exact fun _ _ _ => gA (g1 (g1 (g2 fun _ => g1 g4 (g1 (g2 fun _ => g1 g4 (ih _ _ _)) g0)) g0) g4) (by kernel_rfl)
theorem o53 : LoopsOk c53 L53 (bodyOf Try.f53) := GoodAll.ok (l := [l53_0]) (.cons 0 (by kernel_rfl) (gd1 (fun st => (((((sv st 0).L).length : Nat) : Int) - ((sv st 2).I)).toNat + 1) (fun st => t53_0 _ _ _ _) fun st => by kernel_rfl) (.nil)) rfl
noncomputable def e53 : En Try.prog tab := enP base [e52, e111] false [] Try.func53 (L := L53) o53 [(.one (.inl t_impl_Service)), (.one (.int .i64))] (fun a => laws_heldServiceS ((rd a 0).L) ((rd a 1).I)) (fun r_ : Int => ((vi r_), [])) [] [] [some t_impl_Service, none] false (by kernel_rfl) fun _ => gA (g2 fun _ => g1 g4 g4) (by kernel_rfl)
noncomputable def e17 : En Try.prog tab := enP base [e52, e53] false [] Try.func17 noLo [(.agg [(.inl t_byte), (.inl t_impl_Service)]), (.one (.int .i64))] (fun a => laws_heldLocal (rd a 0) ((rd a 1).I)) (fun r_ : Int => ((vi r_), [])) [] [] [none, none] false (by kernel_rfl) fun _ => gA (g2 fun _ => g1 g4 (g2 fun _ => g1 g4 g4)) (by kernel_rfl)
set_option maxRecDepth 100000 in
noncomputable def e4 : En Try.prog tab := enP base [e8, e10, e11, e18, e19, e13, e14, e15, e16, e17] true [] Try.func4 noLo [(.agg [(.inl t_byte), (.inl t_laws_Service)]), (.one (.inl t_byte))] (fun a => laws_FnExactLocalAdd (rd a 0) ((rd a 1).L)) (fun r_ : Bool => ((V.bool r_), [])) [] [] [none, some t_byte] false (by kernel_rfl) fun _ => gA (g1 g4 (g2 fun _ => g1 g4 (g2 fun _ => g2 fun _ => g2 fun _ => g2 fun _ => g2 fun _ => g2 fun _ => g2 fun _ => g1 g4 (g1 g4 (g2 fun _ => g2 fun _ => g1 g4 (g2 fun _ => g2 fun _ => g1 g4 (g2 fun _ => g2 fun _ => g1 g4 (g2 fun _ => g1 g4 (g1 g4 (g2 fun _ => g2 fun _ => g1 g4 (g1 g4 (g2 fun _ => g2 fun _ => g2 fun _ => g2 fun _ => g1 g4 (g1 g4 (g2 fun _ => g1 g4 (g1 g4 g4))))))))))))))) (by kernel_rfl)
end Go.Eng.R
open Go Go.Eng
namespace Go.Eng.R
def M_byte (x : V) (k : Int) : Prop := gi x 0 = IntKind.u8.wrap k
def M_int (x : V) (k : Int) : Prop := gi x 0 = k
def M_bool (x : V) (k : Int) : Prop := gb x 0 = decide (k.tmod 3 = 0)
def cnv_byte (x : V) : V := .int .u8 (gi x 0)
def cnv_int (x : V) : V := .int .i64 (gi x 0)
def cnv_bool (x : V) : V := .bool (gb x 0)
theorem cnv_int_W (x : V) (h : W_int x) : W_int (cnv_int x) := h
theorem cnv_int_z (x : V) : z0 (cnv_int x) = z0 x := rfl
theorem cnv_int_c (x : V) : c1 (cnv_int x) = c1 x := rfl
theorem cnv_bool_W (x : V) (h : W_bool x) : W_bool (cnv_bool x) := h
theorem cnv_bool_z (x : V) : z0 (cnv_bool x) = z0 x := rfl
theorem cnv_bool_c (x : V) : c1 (cnv_bool x) = c1 x := rfl
theorem cnv_byte_W (x : V) (h : W_byte x) : W_byte (cnv_byte x) := h
theorem cnv_byte_z (x : V) : z0 (cnv_byte x) = z0 x := rfl
theorem cnv_byte_c (x : V) : c1 (cnv_byte x) = c1 x := rfl
def W_Check (x : V) : Prop := LW W_byte (gl x 0) ∧ I64 (gi x 1) ∧ I64 (gi x 2) ∧ I64 (gi x 3) ∧ I64 (gi x 4) ∧ I64 (gi x 5)
def z_Check (x : V) : Nat := zS z0 (gl x 0)
def c_Check (x : V) : Nat := sumL c1 (gl x 0) + 1 + 1 + 1 + 1 + 1
def ct_Check (x : V) : Nat := sumL c1 (gl x 0)
def M_Check (x : V) (k : Int) : Prop := MS c1 M_byte (gl x 0) (k) ∧ gi x 1 = k + ((sumL c1 (gl x 0) : Nat) : Int) ∧ gi x 2 = k + ((sumL c1 (gl x 0) : Nat) : Int) + 1 ∧ gi x 3 = k + ((sumL c1 (gl x 0) : Nat) : Int) + 1 + 1 ∧ gi x 4 = k + ((sumL c1 (gl x 0) : Nat) : Int) + 1 + 1 + 1 ∧ gi x 5 = k + ((sumL c1 (gl x 0) : Nat) : Int) + 1 + 1 + 1 + 1
def cnv_Check (x : V) : V := V.agg [V.inl t_byte ((gl x 0).map cnv_byte), (V.int .i64 (gi x 1)), (V.int .i64 (gi x 2)), (V.int .i64 (gi x 3)), (V.int .i64 (gi x 4)), (V.int .i64 (gi x 5))]
theorem cnv_Check_W (x : V) (h : W_Check x) : W_Check (cnv_Check x) := ⟨LW.map (h := cnv_byte) cnv_byte_W (h.1), h.2.1, h.2.2.1, h.2.2.2.1, h.2.2.2.2.1, h.2.2.2.2.2⟩
theorem cnv_Check_z (x : V) : z_Check (cnv_Check x) = z_Check x := by
  simp only [z_Check, show gl (cnv_Check x) 0 = (gl x 0).map cnv_byte from rfl, zS_map (h := cnv_byte) cnv_byte_z (gl x 0)]
theorem cnv_Check_c (x : V) : c_Check (cnv_Check x) = c_Check x := by
  simp only [c_Check, show gl (cnv_Check x) 0 = (gl x 0).map cnv_byte from rfl, sumL_map (h := cnv_byte) cnv_byte_c (gl x 0)]
theorem cnv_Check_ct (x : V) : ct_Check (cnv_Check x) = ct_Check x := by
  simp only [ct_Check, show gl (cnv_Check x) 0 = (gl x 0).map cnv_byte from rfl, sumL_map (h := cnv_byte) cnv_byte_c (gl x 0)]
theorem c_Check_cz (x : V) : c_Check x ≤ 5 * (1 + z_Check x) := by
  have h0 : sumL c1 (gl x 0) ≤ 1 * zS z0 (gl x 0) := by rw [sumL_c1, zS_z0]; omega
  simp only [c_Check, z_Check]; omega
theorem ct_Check_cz (x : V) : ct_Check x ≤ 5 * z_Check x := by
  have h0 : sumL c1 (gl x 0) ≤ 1 * zS z0 (gl x 0) := by rw [sumL_c1, zS_z0]; omega
  simp only [ct_Check, z_Check]; omega
def W_Service (x : V) : Prop := LW W_byte (gl x 0) ∧ LW W_Check (gl x 1)
def z_Service (x : V) : Nat := zS z0 (gl x 0) + zS z_Check (gl x 1)
def c_Service (x : V) : Nat := sumL c1 (gl x 0) + sumL c_Check (gl x 1)
def ct_Service (x : V) : Nat := sumL c1 (gl x 0) + sumL c_Check (gl x 1)
def M_Service (x : V) (k : Int) : Prop := MS c1 M_byte (gl x 0) (k) ∧ MS c_Check M_Check (gl x 1) (k + ((sumL c1 (gl x 0) : Nat) : Int))
def cnv_Service (x : V) : V := V.agg [V.inl t_byte ((gl x 0).map cnv_byte), V.inl t_impl_Check ((gl x 1).map cnv_Check)]
theorem cnv_Service_W (x : V) (h : W_Service x) : W_Service (cnv_Service x) := ⟨LW.map (h := cnv_byte) cnv_byte_W (h.1), LW.map (h := cnv_Check) cnv_Check_W (h.2)⟩
theorem cnv_Service_z (x : V) : z_Service (cnv_Service x) = z_Service x := by
  simp only [z_Service, show gl (cnv_Service x) 0 = (gl x 0).map cnv_byte from rfl, show gl (cnv_Service x) 1 = (gl x 1).map cnv_Check from rfl, zS_map (h := cnv_byte) cnv_byte_z (gl x 0), zS_map (h := cnv_Check) cnv_Check_z (gl x 1)]
theorem cnv_Service_c (x : V) : c_Service (cnv_Service x) = c_Service x := by
  simp only [c_Service, show gl (cnv_Service x) 0 = (gl x 0).map cnv_byte from rfl, show gl (cnv_Service x) 1 = (gl x 1).map cnv_Check from rfl, sumL_map (h := cnv_byte) cnv_byte_c (gl x 0), sumL_map (h := cnv_Check) cnv_Check_c (gl x 1)]
theorem cnv_Service_ct (x : V) : ct_Service (cnv_Service x) = ct_Service x := by
  simp only [ct_Service, show gl (cnv_Service x) 0 = (gl x 0).map cnv_byte from rfl, show gl (cnv_Service x) 1 = (gl x 1).map cnv_Check from rfl, sumL_map (h := cnv_byte) cnv_byte_c (gl x 0), sumL_map (h := cnv_Check) cnv_Check_c (gl x 1)]
theorem c_Service_cz (x : V) : c_Service x ≤ 5 * (1 + z_Service x) := by
  have h0 : sumL c1 (gl x 0) ≤ 1 * zS z0 (gl x 0) := by rw [sumL_c1, zS_z0]; omega
  have h1 : sumL c_Check (gl x 1) ≤ 5 * zS z_Check (gl x 1) := sumL_mul 5 fun y _ => c_Check_cz y
  simp only [c_Service, z_Service]; omega
theorem ct_Service_cz (x : V) : ct_Service x ≤ 5 * z_Service x := by
  have h0 : sumL c1 (gl x 0) ≤ 1 * zS z0 (gl x 0) := by rw [sumL_c1, zS_z0]; omega
  have h1 : sumL c_Check (gl x 1) ≤ 5 * zS z_Check (gl x 1) := sumL_mul 5 fun y _ => c_Check_cz y
  simp only [ct_Service, z_Service]; omega
def W_Local (x : V) : Prop := LW W_byte (gl x 0) ∧ LW W_Service (gl x 1)
def z_Local (x : V) : Nat := zS z0 (gl x 0) + zS z_Service (gl x 1)
def c_Local (x : V) : Nat := sumL c1 (gl x 0) + sumL c_Service (gl x 1)
def ct_Local (x : V) : Nat := sumL c1 (gl x 0) + sumL c_Service (gl x 1)
def M_Local (x : V) (k : Int) : Prop := MS c1 M_byte (gl x 0) (k) ∧ MS c_Service M_Service (gl x 1) (k + ((sumL c1 (gl x 0) : Nat) : Int))
def cnv_Local (x : V) : V := V.agg [V.inl t_byte ((gl x 0).map cnv_byte), V.inl t_impl_Service ((gl x 1).map cnv_Service)]
theorem cnv_Local_W (x : V) (h : W_Local x) : W_Local (cnv_Local x) := ⟨LW.map (h := cnv_byte) cnv_byte_W (h.1), LW.map (h := cnv_Service) cnv_Service_W (h.2)⟩
theorem cnv_Local_z (x : V) : z_Local (cnv_Local x) = z_Local x := by
  simp only [z_Local, show gl (cnv_Local x) 0 = (gl x 0).map cnv_byte from rfl, show gl (cnv_Local x) 1 = (gl x 1).map cnv_Service from rfl, zS_map (h := cnv_byte) cnv_byte_z (gl x 0), zS_map (h := cnv_Service) cnv_Service_z (gl x 1)]
theorem cnv_Local_c (x : V) : c_Local (cnv_Local x) = c_Local x := by
  simp only [c_Local, show gl (cnv_Local x) 0 = (gl x 0).map cnv_byte from rfl, show gl (cnv_Local x) 1 = (gl x 1).map cnv_Service from rfl, sumL_map (h := cnv_byte) cnv_byte_c (gl x 0), sumL_map (h := cnv_Service) cnv_Service_c (gl x 1)]
theorem cnv_Local_ct (x : V) : ct_Local (cnv_Local x) = ct_Local x := by
  simp only [ct_Local, show gl (cnv_Local x) 0 = (gl x 0).map cnv_byte from rfl, show gl (cnv_Local x) 1 = (gl x 1).map cnv_Service from rfl, sumL_map (h := cnv_byte) cnv_byte_c (gl x 0), sumL_map (h := cnv_Service) cnv_Service_c (gl x 1)]
theorem c_Local_cz (x : V) : c_Local x ≤ 5 * (1 + z_Local x) := by
  have h0 : sumL c1 (gl x 0) ≤ 1 * zS z0 (gl x 0) := by rw [sumL_c1, zS_z0]; omega
  have h1 : sumL c_Service (gl x 1) ≤ 5 * zS z_Service (gl x 1) := sumL_mul 5 fun y _ => c_Service_cz y
  simp only [c_Local, z_Local]; omega
theorem ct_Local_cz (x : V) : ct_Local x ≤ 5 * z_Local x := by
  have h0 : sumL c1 (gl x 0) ≤ 1 * zS z0 (gl x 0) := by rw [sumL_c1, zS_z0]; omega
  have h1 : sumL c_Service (gl x 1) ≤ 5 * zS z_Service (gl x 1) := sumL_mul 5 fun y _ => c_Service_cz y
  simp only [ct_Local, z_Local]; omega
def W_Timer (x : V) : Prop := I64 (gi x 0) ∧ I64 (gi x 1)
def z_Timer (x : V) : Nat := 0
def c_Timer (x : V) : Nat := 1 + 1
def ct_Timer (x : V) : Nat := 0
def M_Timer (x : V) (k : Int) : Prop := gi x 0 = k ∧ gi x 1 = k + 1
def cnv_Timer (x : V) : V := V.agg [(V.int .i64 (gi x 0)), (V.int .i64 (gi x 1))]
theorem cnv_Timer_W (x : V) (h : W_Timer x) : W_Timer (cnv_Timer x) := ⟨h.1, h.2⟩
theorem cnv_Timer_z (x : V) : z_Timer (cnv_Timer x) = z_Timer x := rfl
theorem cnv_Timer_c (x : V) : c_Timer (cnv_Timer x) = c_Timer x := rfl
theorem cnv_Timer_ct (x : V) : ct_Timer (cnv_Timer x) = ct_Timer x := rfl
theorem c_Timer_cz (x : V) : c_Timer x ≤ 2 * (1 + z_Timer x) := by
  simp only [c_Timer, z_Timer]; omega
theorem ct_Timer_cz (x : V) : ct_Timer x ≤ 2 * z_Timer x := by
  simp only [ct_Timer, z_Timer]; omega
def W_Wheel (x : V) : Prop := I64 (gi x 0) ∧ LW W_Timer (gl x 1)
def z_Wheel (x : V) : Nat := zS z_Timer (gl x 1)
def c_Wheel (x : V) : Nat := 1 + sumL c_Timer (gl x 1)
def ct_Wheel (x : V) : Nat := sumL c_Timer (gl x 1)
def M_Wheel (x : V) (k : Int) : Prop := gi x 0 = k ∧ MS c_Timer M_Timer (gl x 1) (k + 1)
def cnv_Wheel (x : V) : V := V.agg [(V.int .i64 (gi x 0)), V.inl t_impl_Timer ((gl x 1).map cnv_Timer)]
theorem cnv_Wheel_W (x : V) (h : W_Wheel x) : W_Wheel (cnv_Wheel x) := ⟨h.1, LW.map (h := cnv_Timer) cnv_Timer_W (h.2)⟩
theorem cnv_Wheel_z (x : V) : z_Wheel (cnv_Wheel x) = z_Wheel x := by
  simp only [z_Wheel, show gl (cnv_Wheel x) 1 = (gl x 1).map cnv_Timer from rfl, zS_map (h := cnv_Timer) cnv_Timer_z (gl x 1)]
theorem cnv_Wheel_c (x : V) : c_Wheel (cnv_Wheel x) = c_Wheel x := by
  simp only [c_Wheel, show gl (cnv_Wheel x) 1 = (gl x 1).map cnv_Timer from rfl, sumL_map (h := cnv_Timer) cnv_Timer_c (gl x 1)]
theorem cnv_Wheel_ct (x : V) : ct_Wheel (cnv_Wheel x) = ct_Wheel x := by
  simp only [ct_Wheel, show gl (cnv_Wheel x) 1 = (gl x 1).map cnv_Timer from rfl, sumL_map (h := cnv_Timer) cnv_Timer_c (gl x 1)]
theorem c_Wheel_cz (x : V) : c_Wheel x ≤ 2 * (1 + z_Wheel x) := by
  have h0 : sumL c_Timer (gl x 1) ≤ 2 * zS z_Timer (gl x 1) := sumL_mul 2 fun y _ => c_Timer_cz y
  simp only [c_Wheel, z_Wheel]; omega
theorem ct_Wheel_cz (x : V) : ct_Wheel x ≤ 2 * z_Wheel x := by
  have h0 : sumL c_Timer (gl x 1) ≤ 2 * zS z_Timer (gl x 1) := sumL_mul 2 fun y _ => c_Timer_cz y
  simp only [ct_Wheel, z_Wheel]; omega
def W_Duty (x : V) : Prop := I64 (gi x 0) ∧ I64 (gi x 1) ∧ LW W_Timer (gl x 2)
def z_Duty (x : V) : Nat := zS z_Timer (gl x 2)
def c_Duty (x : V) : Nat := 1 + 1 + sumL c_Timer (gl x 2)
def ct_Duty (x : V) : Nat := sumL c_Timer (gl x 2)
def M_Duty (x : V) (k : Int) : Prop := gi x 0 = k ∧ gi x 1 = k + 1 ∧ MS c_Timer M_Timer (gl x 2) (k + 1 + 1)
def cnv_Duty (x : V) : V := V.agg [(V.int .i64 (gi x 0)), (V.int .i64 (gi x 1)), V.inl t_impl_Timer ((gl x 2).map cnv_Timer)]
theorem cnv_Duty_W (x : V) (h : W_Duty x) : W_Duty (cnv_Duty x) := ⟨h.1, h.2.1, LW.map (h := cnv_Timer) cnv_Timer_W (h.2.2)⟩
theorem cnv_Duty_z (x : V) : z_Duty (cnv_Duty x) = z_Duty x := by
  simp only [z_Duty, show gl (cnv_Duty x) 2 = (gl x 2).map cnv_Timer from rfl, zS_map (h := cnv_Timer) cnv_Timer_z (gl x 2)]
theorem cnv_Duty_c (x : V) : c_Duty (cnv_Duty x) = c_Duty x := by
  simp only [c_Duty, show gl (cnv_Duty x) 2 = (gl x 2).map cnv_Timer from rfl, sumL_map (h := cnv_Timer) cnv_Timer_c (gl x 2)]
theorem cnv_Duty_ct (x : V) : ct_Duty (cnv_Duty x) = ct_Duty x := by
  simp only [ct_Duty, show gl (cnv_Duty x) 2 = (gl x 2).map cnv_Timer from rfl, sumL_map (h := cnv_Timer) cnv_Timer_c (gl x 2)]
theorem c_Duty_cz (x : V) : c_Duty x ≤ 2 * (1 + z_Duty x) := by
  have h0 : sumL c_Timer (gl x 2) ≤ 2 * zS z_Timer (gl x 2) := sumL_mul 2 fun y _ => c_Timer_cz y
  simp only [c_Duty, z_Duty]; omega
theorem ct_Duty_cz (x : V) : ct_Duty x ≤ 2 * z_Duty x := by
  have h0 : sumL c_Timer (gl x 2) ≤ 2 * zS z_Timer (gl x 2) := sumL_mul 2 fun y _ => c_Timer_cz y
  simp only [ct_Duty, z_Duty]; omega
def W_Row (x : V) : Prop := LW W_byte (gl x 0) ∧ LW W_byte (gl x 1) ∧ I64 (gi x 2) ∧ I64 (gi x 3)
def z_Row (x : V) : Nat := zS z0 (gl x 0) + zS z0 (gl x 1)
def c_Row (x : V) : Nat := sumL c1 (gl x 0) + sumL c1 (gl x 1) + 1 + 1
def ct_Row (x : V) : Nat := sumL c1 (gl x 0) + sumL c1 (gl x 1)
def M_Row (x : V) (k : Int) : Prop := MS c1 M_byte (gl x 0) (k) ∧ MS c1 M_byte (gl x 1) (k + ((sumL c1 (gl x 0) : Nat) : Int)) ∧ gi x 2 = k + ((sumL c1 (gl x 0) : Nat) : Int) + ((sumL c1 (gl x 1) : Nat) : Int) ∧ gi x 3 = k + ((sumL c1 (gl x 0) : Nat) : Int) + ((sumL c1 (gl x 1) : Nat) : Int) + 1
def cnv_Row (x : V) : V := V.agg [V.inl t_byte ((gl x 0).map cnv_byte), V.inl t_byte ((gl x 1).map cnv_byte), (V.int .i64 (gi x 2)), (V.int .i64 (gi x 3))]
theorem cnv_Row_W (x : V) (h : W_Row x) : W_Row (cnv_Row x) := ⟨LW.map (h := cnv_byte) cnv_byte_W (h.1), LW.map (h := cnv_byte) cnv_byte_W (h.2.1), h.2.2.1, h.2.2.2⟩
theorem cnv_Row_z (x : V) : z_Row (cnv_Row x) = z_Row x := by
  simp only [z_Row, show gl (cnv_Row x) 0 = (gl x 0).map cnv_byte from rfl, show gl (cnv_Row x) 1 = (gl x 1).map cnv_byte from rfl, zS_map (h := cnv_byte) cnv_byte_z (gl x 0), zS_map (h := cnv_byte) cnv_byte_z (gl x 1)]
theorem cnv_Row_c (x : V) : c_Row (cnv_Row x) = c_Row x := by
  simp only [c_Row, show gl (cnv_Row x) 0 = (gl x 0).map cnv_byte from rfl, show gl (cnv_Row x) 1 = (gl x 1).map cnv_byte from rfl, sumL_map (h := cnv_byte) cnv_byte_c (gl x 0), sumL_map (h := cnv_byte) cnv_byte_c (gl x 1)]
theorem cnv_Row_ct (x : V) : ct_Row (cnv_Row x) = ct_Row x := by
  simp only [ct_Row, show gl (cnv_Row x) 0 = (gl x 0).map cnv_byte from rfl, show gl (cnv_Row x) 1 = (gl x 1).map cnv_byte from rfl, sumL_map (h := cnv_byte) cnv_byte_c (gl x 0), sumL_map (h := cnv_byte) cnv_byte_c (gl x 1)]
theorem c_Row_cz (x : V) : c_Row x ≤ 2 * (1 + z_Row x) := by
  have h0 : sumL c1 (gl x 0) ≤ 1 * zS z0 (gl x 0) := by rw [sumL_c1, zS_z0]; omega
  have h1 : sumL c1 (gl x 1) ≤ 1 * zS z0 (gl x 1) := by rw [sumL_c1, zS_z0]; omega
  simp only [c_Row, z_Row]; omega
theorem ct_Row_cz (x : V) : ct_Row x ≤ 2 * z_Row x := by
  have h0 : sumL c1 (gl x 0) ≤ 1 * zS z0 (gl x 0) := by rw [sumL_c1, zS_z0]; omega
  have h1 : sumL c1 (gl x 1) ≤ 1 * zS z0 (gl x 1) := by rw [sumL_c1, zS_z0]; omega
  simp only [ct_Row, z_Row]; omega
def W_Tomb (x : V) : Prop := LW W_byte (gl x 0) ∧ I64 (gi x 1)
def z_Tomb (x : V) : Nat := zS z0 (gl x 0)
def c_Tomb (x : V) : Nat := sumL c1 (gl x 0) + 1
def ct_Tomb (x : V) : Nat := sumL c1 (gl x 0)
def M_Tomb (x : V) (k : Int) : Prop := MS c1 M_byte (gl x 0) (k) ∧ gi x 1 = k + ((sumL c1 (gl x 0) : Nat) : Int)
def cnv_Tomb (x : V) : V := V.agg [V.inl t_byte ((gl x 0).map cnv_byte), (V.int .i64 (gi x 1))]
theorem cnv_Tomb_W (x : V) (h : W_Tomb x) : W_Tomb (cnv_Tomb x) := ⟨LW.map (h := cnv_byte) cnv_byte_W (h.1), h.2⟩
theorem cnv_Tomb_z (x : V) : z_Tomb (cnv_Tomb x) = z_Tomb x := by
  simp only [z_Tomb, show gl (cnv_Tomb x) 0 = (gl x 0).map cnv_byte from rfl, zS_map (h := cnv_byte) cnv_byte_z (gl x 0)]
theorem cnv_Tomb_c (x : V) : c_Tomb (cnv_Tomb x) = c_Tomb x := by
  simp only [c_Tomb, show gl (cnv_Tomb x) 0 = (gl x 0).map cnv_byte from rfl, sumL_map (h := cnv_byte) cnv_byte_c (gl x 0)]
theorem cnv_Tomb_ct (x : V) : ct_Tomb (cnv_Tomb x) = ct_Tomb x := by
  simp only [ct_Tomb, show gl (cnv_Tomb x) 0 = (gl x 0).map cnv_byte from rfl, sumL_map (h := cnv_byte) cnv_byte_c (gl x 0)]
theorem c_Tomb_cz (x : V) : c_Tomb x ≤ 1 * (1 + z_Tomb x) := by
  have h0 : sumL c1 (gl x 0) ≤ 1 * zS z0 (gl x 0) := by rw [sumL_c1, zS_z0]; omega
  simp only [c_Tomb, z_Tomb]; omega
theorem ct_Tomb_cz (x : V) : ct_Tomb x ≤ 1 * z_Tomb x := by
  have h0 : sumL c1 (gl x 0) ≤ 1 * zS z0 (gl x 0) := by rw [sumL_c1, zS_z0]; omega
  simp only [ct_Tomb, z_Tomb]; omega
def W_Session (x : V) : Prop := I64 (gi x 0) ∧ True
def z_Session (x : V) : Nat := 0
def c_Session (x : V) : Nat := 1 + 1
def ct_Session (x : V) : Nat := 0
def M_Session (x : V) (k : Int) : Prop := gi x 0 = k ∧ gb x 1 = decide ((k + 1).tmod 3 = 0)
def cnv_Session (x : V) : V := V.agg [(V.int .i64 (gi x 0)), (V.bool (gb x 1))]
theorem cnv_Session_W (x : V) (h : W_Session x) : W_Session (cnv_Session x) := ⟨h.1, h.2⟩
theorem cnv_Session_z (x : V) : z_Session (cnv_Session x) = z_Session x := rfl
theorem cnv_Session_c (x : V) : c_Session (cnv_Session x) = c_Session x := rfl
theorem cnv_Session_ct (x : V) : ct_Session (cnv_Session x) = ct_Session x := rfl
theorem c_Session_cz (x : V) : c_Session x ≤ 2 * (1 + z_Session x) := by
  simp only [c_Session, z_Session]; omega
theorem ct_Session_cz (x : V) : ct_Session x ≤ 2 * z_Session x := by
  simp only [ct_Session, z_Session]; omega
def W_Last (x : V) : Prop := I64 (gi x 0) ∧ I64 (gi x 1) ∧ I64 (gi x 2) ∧ I64 (gi x 3)
def z_Last (x : V) : Nat := 0
def c_Last (x : V) : Nat := 1 + 1 + 1 + 1
def ct_Last (x : V) : Nat := 0
def M_Last (x : V) (k : Int) : Prop := gi x 0 = k ∧ gi x 1 = k + 1 ∧ gi x 2 = k + 1 + 1 ∧ gi x 3 = k + 1 + 1 + 1
def cnv_Last (x : V) : V := V.agg [(V.int .i64 (gi x 0)), (V.int .i64 (gi x 1)), (V.int .i64 (gi x 2)), (V.int .i64 (gi x 3))]
theorem cnv_Last_W (x : V) (h : W_Last x) : W_Last (cnv_Last x) := ⟨h.1, h.2.1, h.2.2.1, h.2.2.2⟩
theorem cnv_Last_z (x : V) : z_Last (cnv_Last x) = z_Last x := rfl
theorem cnv_Last_c (x : V) : c_Last (cnv_Last x) = c_Last x := rfl
theorem cnv_Last_ct (x : V) : ct_Last (cnv_Last x) = ct_Last x := rfl
theorem c_Last_cz (x : V) : c_Last x ≤ 4 * (1 + z_Last x) := by
  simp only [c_Last, z_Last]; omega
theorem ct_Last_cz (x : V) : ct_Last x ≤ 4 * z_Last x := by
  simp only [ct_Last, z_Last]; omega
def W_State (x : V) : Prop := I64 (gi x 0) ∧ LW W_Row (gl x 1) ∧ LW W_Tomb (gl x 2) ∧ I64 (gi x 3) ∧ LW W_Session (gl x 4) ∧ LW W_Last (gl x 5)
def z_State (x : V) : Nat := zS z_Row (gl x 1) + zS z_Tomb (gl x 2) + zS z_Session (gl x 4) + zS z_Last (gl x 5)
def c_State (x : V) : Nat := 1 + sumL c_Row (gl x 1) + sumL c_Tomb (gl x 2) + 1 + sumL c_Session (gl x 4) + sumL c_Last (gl x 5)
def ct_State (x : V) : Nat := sumL c_Row (gl x 1) + sumL c_Tomb (gl x 2) + sumL c_Session (gl x 4) + sumL c_Last (gl x 5)
def M_State (x : V) (k : Int) : Prop := gi x 0 = k ∧ MS c_Row M_Row (gl x 1) (k + 1) ∧ MS c_Tomb M_Tomb (gl x 2) (k + 1 + ((sumL c_Row (gl x 1) : Nat) : Int)) ∧ gi x 3 = k + 1 + ((sumL c_Row (gl x 1) : Nat) : Int) + ((sumL c_Tomb (gl x 2) : Nat) : Int) ∧ MS c_Session M_Session (gl x 4) (k + 1 + ((sumL c_Row (gl x 1) : Nat) : Int) + ((sumL c_Tomb (gl x 2) : Nat) : Int) + 1) ∧ MS c_Last M_Last (gl x 5) (k + 1 + ((sumL c_Row (gl x 1) : Nat) : Int) + ((sumL c_Tomb (gl x 2) : Nat) : Int) + 1 + ((sumL c_Session (gl x 4) : Nat) : Int))
def cnv_State (x : V) : V := V.agg [(V.int .i64 (gi x 0)), V.inl t_impl_Row ((gl x 1).map cnv_Row), V.inl t_impl_Tomb ((gl x 2).map cnv_Tomb), (V.int .i64 (gi x 3)), V.inl t_impl_Session ((gl x 4).map cnv_Session), V.inl t_impl_Last ((gl x 5).map cnv_Last)]
theorem cnv_State_W (x : V) (h : W_State x) : W_State (cnv_State x) := ⟨h.1, LW.map (h := cnv_Row) cnv_Row_W (h.2.1), LW.map (h := cnv_Tomb) cnv_Tomb_W (h.2.2.1), h.2.2.2.1, LW.map (h := cnv_Session) cnv_Session_W (h.2.2.2.2.1), LW.map (h := cnv_Last) cnv_Last_W (h.2.2.2.2.2)⟩
theorem cnv_State_z (x : V) : z_State (cnv_State x) = z_State x := by
  simp only [z_State, show gl (cnv_State x) 1 = (gl x 1).map cnv_Row from rfl, show gl (cnv_State x) 2 = (gl x 2).map cnv_Tomb from rfl, show gl (cnv_State x) 4 = (gl x 4).map cnv_Session from rfl, show gl (cnv_State x) 5 = (gl x 5).map cnv_Last from rfl, zS_map (h := cnv_Row) cnv_Row_z (gl x 1), zS_map (h := cnv_Tomb) cnv_Tomb_z (gl x 2), zS_map (h := cnv_Session) cnv_Session_z (gl x 4), zS_map (h := cnv_Last) cnv_Last_z (gl x 5)]
theorem cnv_State_c (x : V) : c_State (cnv_State x) = c_State x := by
  simp only [c_State, show gl (cnv_State x) 1 = (gl x 1).map cnv_Row from rfl, show gl (cnv_State x) 2 = (gl x 2).map cnv_Tomb from rfl, show gl (cnv_State x) 4 = (gl x 4).map cnv_Session from rfl, show gl (cnv_State x) 5 = (gl x 5).map cnv_Last from rfl, sumL_map (h := cnv_Row) cnv_Row_c (gl x 1), sumL_map (h := cnv_Tomb) cnv_Tomb_c (gl x 2), sumL_map (h := cnv_Session) cnv_Session_c (gl x 4), sumL_map (h := cnv_Last) cnv_Last_c (gl x 5)]
theorem cnv_State_ct (x : V) : ct_State (cnv_State x) = ct_State x := by
  simp only [ct_State, show gl (cnv_State x) 1 = (gl x 1).map cnv_Row from rfl, show gl (cnv_State x) 2 = (gl x 2).map cnv_Tomb from rfl, show gl (cnv_State x) 4 = (gl x 4).map cnv_Session from rfl, show gl (cnv_State x) 5 = (gl x 5).map cnv_Last from rfl, sumL_map (h := cnv_Row) cnv_Row_c (gl x 1), sumL_map (h := cnv_Tomb) cnv_Tomb_c (gl x 2), sumL_map (h := cnv_Session) cnv_Session_c (gl x 4), sumL_map (h := cnv_Last) cnv_Last_c (gl x 5)]
theorem c_State_cz (x : V) : c_State x ≤ 4 * (1 + z_State x) := by
  have h0 : sumL c_Row (gl x 1) ≤ 2 * zS z_Row (gl x 1) := sumL_mul 2 fun y _ => c_Row_cz y
  have h1 : sumL c_Tomb (gl x 2) ≤ 1 * zS z_Tomb (gl x 2) := sumL_mul 1 fun y _ => c_Tomb_cz y
  have h2 : sumL c_Session (gl x 4) ≤ 2 * zS z_Session (gl x 4) := sumL_mul 2 fun y _ => c_Session_cz y
  have h3 : sumL c_Last (gl x 5) ≤ 4 * zS z_Last (gl x 5) := sumL_mul 4 fun y _ => c_Last_cz y
  simp only [c_State, z_State]; omega
theorem ct_State_cz (x : V) : ct_State x ≤ 4 * z_State x := by
  have h0 : sumL c_Row (gl x 1) ≤ 2 * zS z_Row (gl x 1) := sumL_mul 2 fun y _ => c_Row_cz y
  have h1 : sumL c_Tomb (gl x 2) ≤ 1 * zS z_Tomb (gl x 2) := sumL_mul 1 fun y _ => c_Tomb_cz y
  have h2 : sumL c_Session (gl x 4) ≤ 2 * zS z_Session (gl x 4) := sumL_mul 2 fun y _ => c_Session_cz y
  have h3 : sumL c_Last (gl x 5) ≤ 4 * zS z_Last (gl x 5) := sumL_mul 4 fun y _ => c_Last_cz y
  simp only [ct_State, z_State]; omega
def W_Op (x : V) : Prop := I64 (gi x 0) ∧ LW W_byte (gl x 1) ∧ LW W_byte (gl x 2) ∧ I64 (gi x 3)
def z_Op (x : V) : Nat := zS z0 (gl x 1) + zS z0 (gl x 2)
def c_Op (x : V) : Nat := 1 + sumL c1 (gl x 1) + sumL c1 (gl x 2) + 1
def ct_Op (x : V) : Nat := sumL c1 (gl x 1) + sumL c1 (gl x 2)
def M_Op (x : V) (k : Int) : Prop := gi x 0 = k ∧ MS c1 M_byte (gl x 1) (k + 1) ∧ MS c1 M_byte (gl x 2) (k + 1 + ((sumL c1 (gl x 1) : Nat) : Int)) ∧ gi x 3 = k + 1 + ((sumL c1 (gl x 1) : Nat) : Int) + ((sumL c1 (gl x 2) : Nat) : Int)
def cnv_Op (x : V) : V := V.agg [(V.int .i64 (gi x 0)), V.inl t_byte ((gl x 1).map cnv_byte), V.inl t_byte ((gl x 2).map cnv_byte), (V.int .i64 (gi x 3))]
theorem cnv_Op_W (x : V) (h : W_Op x) : W_Op (cnv_Op x) := ⟨h.1, LW.map (h := cnv_byte) cnv_byte_W (h.2.1), LW.map (h := cnv_byte) cnv_byte_W (h.2.2.1), h.2.2.2⟩
theorem cnv_Op_z (x : V) : z_Op (cnv_Op x) = z_Op x := by
  simp only [z_Op, show gl (cnv_Op x) 1 = (gl x 1).map cnv_byte from rfl, show gl (cnv_Op x) 2 = (gl x 2).map cnv_byte from rfl, zS_map (h := cnv_byte) cnv_byte_z (gl x 1), zS_map (h := cnv_byte) cnv_byte_z (gl x 2)]
theorem cnv_Op_c (x : V) : c_Op (cnv_Op x) = c_Op x := by
  simp only [c_Op, show gl (cnv_Op x) 1 = (gl x 1).map cnv_byte from rfl, show gl (cnv_Op x) 2 = (gl x 2).map cnv_byte from rfl, sumL_map (h := cnv_byte) cnv_byte_c (gl x 1), sumL_map (h := cnv_byte) cnv_byte_c (gl x 2)]
theorem cnv_Op_ct (x : V) : ct_Op (cnv_Op x) = ct_Op x := by
  simp only [ct_Op, show gl (cnv_Op x) 1 = (gl x 1).map cnv_byte from rfl, show gl (cnv_Op x) 2 = (gl x 2).map cnv_byte from rfl, sumL_map (h := cnv_byte) cnv_byte_c (gl x 1), sumL_map (h := cnv_byte) cnv_byte_c (gl x 2)]
theorem c_Op_cz (x : V) : c_Op x ≤ 2 * (1 + z_Op x) := by
  have h0 : sumL c1 (gl x 1) ≤ 1 * zS z0 (gl x 1) := by rw [sumL_c1, zS_z0]; omega
  have h1 : sumL c1 (gl x 2) ≤ 1 * zS z0 (gl x 2) := by rw [sumL_c1, zS_z0]; omega
  simp only [c_Op, z_Op]; omega
theorem ct_Op_cz (x : V) : ct_Op x ≤ 2 * z_Op x := by
  have h0 : sumL c1 (gl x 1) ≤ 1 * zS z0 (gl x 1) := by rw [sumL_c1, zS_z0]; omega
  have h1 : sumL c1 (gl x 2) ≤ 1 * zS z0 (gl x 2) := by rw [sumL_c1, zS_z0]; omega
  simp only [ct_Op, z_Op]; omega
def W_Cmd (x : V) : Prop := I64 (gi x 0) ∧ I64 (gi x 1) ∧ I64 (gi x 2) ∧ LW W_byte (gl x 3) ∧ LW W_byte (gl x 4) ∧ I64 (gi x 5)
def z_Cmd (x : V) : Nat := zS z0 (gl x 3) + zS z0 (gl x 4)
def c_Cmd (x : V) : Nat := 1 + 1 + 1 + sumL c1 (gl x 3) + sumL c1 (gl x 4) + 1
def ct_Cmd (x : V) : Nat := sumL c1 (gl x 3) + sumL c1 (gl x 4)
def M_Cmd (x : V) (k : Int) : Prop := gi x 0 = k ∧ gi x 1 = k + 1 ∧ gi x 2 = k + 1 + 1 ∧ MS c1 M_byte (gl x 3) (k + 1 + 1 + 1) ∧ MS c1 M_byte (gl x 4) (k + 1 + 1 + 1 + ((sumL c1 (gl x 3) : Nat) : Int)) ∧ gi x 5 = k + 1 + 1 + 1 + ((sumL c1 (gl x 3) : Nat) : Int) + ((sumL c1 (gl x 4) : Nat) : Int)
def cnv_Cmd (x : V) : V := V.agg [(V.int .i64 (gi x 0)), (V.int .i64 (gi x 1)), (V.int .i64 (gi x 2)), V.inl t_byte ((gl x 3).map cnv_byte), V.inl t_byte ((gl x 4).map cnv_byte), (V.int .i64 (gi x 5))]
theorem cnv_Cmd_W (x : V) (h : W_Cmd x) : W_Cmd (cnv_Cmd x) := ⟨h.1, h.2.1, h.2.2.1, LW.map (h := cnv_byte) cnv_byte_W (h.2.2.2.1), LW.map (h := cnv_byte) cnv_byte_W (h.2.2.2.2.1), h.2.2.2.2.2⟩
theorem cnv_Cmd_z (x : V) : z_Cmd (cnv_Cmd x) = z_Cmd x := by
  simp only [z_Cmd, show gl (cnv_Cmd x) 3 = (gl x 3).map cnv_byte from rfl, show gl (cnv_Cmd x) 4 = (gl x 4).map cnv_byte from rfl, zS_map (h := cnv_byte) cnv_byte_z (gl x 3), zS_map (h := cnv_byte) cnv_byte_z (gl x 4)]
theorem cnv_Cmd_c (x : V) : c_Cmd (cnv_Cmd x) = c_Cmd x := by
  simp only [c_Cmd, show gl (cnv_Cmd x) 3 = (gl x 3).map cnv_byte from rfl, show gl (cnv_Cmd x) 4 = (gl x 4).map cnv_byte from rfl, sumL_map (h := cnv_byte) cnv_byte_c (gl x 3), sumL_map (h := cnv_byte) cnv_byte_c (gl x 4)]
theorem cnv_Cmd_ct (x : V) : ct_Cmd (cnv_Cmd x) = ct_Cmd x := by
  simp only [ct_Cmd, show gl (cnv_Cmd x) 3 = (gl x 3).map cnv_byte from rfl, show gl (cnv_Cmd x) 4 = (gl x 4).map cnv_byte from rfl, sumL_map (h := cnv_byte) cnv_byte_c (gl x 3), sumL_map (h := cnv_byte) cnv_byte_c (gl x 4)]
theorem c_Cmd_cz (x : V) : c_Cmd x ≤ 4 * (1 + z_Cmd x) := by
  have h0 : sumL c1 (gl x 3) ≤ 1 * zS z0 (gl x 3) := by rw [sumL_c1, zS_z0]; omega
  have h1 : sumL c1 (gl x 4) ≤ 1 * zS z0 (gl x 4) := by rw [sumL_c1, zS_z0]; omega
  simp only [c_Cmd, z_Cmd]; omega
theorem ct_Cmd_cz (x : V) : ct_Cmd x ≤ 4 * z_Cmd x := by
  have h0 : sumL c1 (gl x 3) ≤ 1 * zS z0 (gl x 3) := by rw [sumL_c1, zS_z0]; omega
  have h1 : sumL c1 (gl x 4) ≤ 1 * zS z0 (gl x 4) := by rw [sumL_c1, zS_z0]; omega
  simp only [ct_Cmd, z_Cmd]; omega
def W_Reply (x : V) : Prop := I64 (gi x 0) ∧ I64 (gi x 1)
def z_Reply (x : V) : Nat := 0
def c_Reply (x : V) : Nat := 1 + 1
def ct_Reply (x : V) : Nat := 0
def M_Reply (x : V) (k : Int) : Prop := gi x 0 = k ∧ gi x 1 = k + 1
def cnv_Reply (x : V) : V := V.agg [(V.int .i64 (gi x 0)), (V.int .i64 (gi x 1))]
theorem cnv_Reply_W (x : V) (h : W_Reply x) : W_Reply (cnv_Reply x) := ⟨h.1, h.2⟩
theorem cnv_Reply_z (x : V) : z_Reply (cnv_Reply x) = z_Reply x := rfl
theorem cnv_Reply_c (x : V) : c_Reply (cnv_Reply x) = c_Reply x := rfl
theorem cnv_Reply_ct (x : V) : ct_Reply (cnv_Reply x) = ct_Reply x := rfl
theorem c_Reply_cz (x : V) : c_Reply x ≤ 2 * (1 + z_Reply x) := by
  simp only [c_Reply, z_Reply]; omega
theorem ct_Reply_cz (x : V) : ct_Reply x ≤ 2 * z_Reply x := by
  simp only [ct_Reply, z_Reply]; omega
theorem laws_szByteS_ok (a : List V) (left : Int) (ha : LW W_byte a) (h0 : 0 ≤ left) (h1 : left ≤ 1048576) : ∃ r, laws_szByteS a left = r ∧ (r < 0 ∨ (0 ≤ r ∧ r ≤ 1048576 ∧ r + ((zS z0 a : Nat) : Int) = left)) := by
  have hl := ha.1
  unfold laws_szByteS
  rw [wr64' (by omega) (by omega)]
  by_cases h : left - ((a.length : Nat) : Int) < 0
  · exact ⟨-1, by simp [h], .inl (by omega)⟩
  · exact ⟨left - ((a.length : Nat) : Int), by simp [h], .inr ⟨by omega, by omega, by rw [zS_z0]; omega⟩⟩
theorem laws_szCheck_ok (x : V) (left : Int) (hx : W_Check x) (h0 : 0 ≤ left) (h1 : left ≤ 1048576) : ∃ r, laws_szCheck x left = r ∧ (r < 0 ∨ (0 ≤ r ∧ r ≤ 1048576 ∧ r + ((z_Check x : Nat) : Int) = left)) := by
  unfold laws_szCheck
  obtain ⟨r0, e0, q0⟩ := laws_szByteS_ok (gl x 0) left hx.1 h0 h1
  simp only [e0]
  rcases q0 with q0 | ⟨a0, b0, s0⟩
  · exact ⟨-1, by simp only [show decide (r0 < 0) = true from by simp; omega, cond_true], .inl (by omega)⟩
  simp only [show decide (r0 < 0) = false from by simp; omega, cond_false]
  exact ⟨r0, rfl, .inr ⟨a0, b0, by simp only [z_Check]; omega⟩⟩
theorem laws_szCheckS_ok (a : List V) (left : Int) (ha : LW W_Check a) (h0 : 0 ≤ left) (h1 : left ≤ 1048576) : ∃ r, laws_szCheckS a left = some (r) ∧ (r < 0 ∨ (0 ≤ r ∧ r ≤ 1048576 ∧ r + ((zS z_Check a : Nat) : Int) = left)) := by
  have hl := ha.1
  unfold laws_szCheckS
  rw [wr64' (by omega) (by omega)]
  by_cases h : left - ((a.length : Nat) : Int) < 0
  · exact ⟨-1, by simp [h], .inl (by omega)⟩
  rw [show decide (left - ((a.length : Nat) : Int) < 0) = false from by simp; omega, cond_false, fuel_eq]
  have key : (fun q : Option (Nat × Int × Int) => ∃ p, q = some p ∧ ((p.1 = 0 ∧ p.2.2 = -1) ∨ (p.1 = 1 ∧ 0 ≤ p.2.1 ∧ p.2.1 ≤ 1048576 ∧ p.2.1 + ((sumL z_Check a : Nat) : Int) = left - ((a.length : Nat) : Int)))) (laws_szCheckS_l5 (a.length + 1) a (left - ((a.length : Nat) : Int)) 0) := by
    refine loop_run0 (F := fun m s i => laws_szCheckS_l5 m a s i) (fun i s => 0 ≤ s ∧ s ≤ 1048576 ∧ s + ((sumL z_Check (a.take i) : Nat) : Int) = left - ((a.length : Nat) : Int)) (fun q : Option (Nat × Int × Int) => ∃ p, q = some p ∧ ((p.1 = 0 ∧ p.2.2 = -1) ∨ (p.1 = 1 ∧ 0 ≤ p.2.1 ∧ p.2.1 ≤ 1048576 ∧ p.2.1 + ((sumL z_Check a : Nat) : Int) = left - ((a.length : Nat) : Int)))) ?_ ?_ (s := left - ((a.length : Nat) : Int)) ⟨by omega, by omega, by simp [sumL]⟩
    · intro m i s hi hI
      obtain ⟨r, e, hr⟩ := laws_szCheck_ok (n_laws_Check (rd a i)) s (ha.rd hi) hI.1 hI.2.1
      simp only [laws_szCheckS_l5, lt_nat hi, idxOk_nat hi, Int.toNat_natCast, cond_true, e, wr_succ hi hl]
      rcases hr with hr | ⟨r1, r2, r3⟩
      · exact .inr ⟨_, by rw [show decide (r < 0) = true from by simp [hr], cond_true], .inl ⟨rfl, rfl⟩⟩
      · refine .inl ⟨r, by rw [show decide (r < 0) = false from by simp; omega, cond_false], r1, r2, ?_⟩
        rw [sum_take_succ _ hi]
        have r3 : r + ((z_Check (rd a i) : Nat) : Int) = s := r3
        omega
    · intro m s hI
      refine ⟨(1, s, 0), by simp only [laws_szCheckS_l5, lt_self, cond_false], .inr ⟨rfl, hI.1, hI.2.1, ?_⟩⟩
      rw [List.take_length] at hI; exact hI.2.2
  obtain ⟨p, e, hp⟩ := key
  rw [e, Option.bind_some]
  rcases hp with ⟨p1, p2⟩ | ⟨p1, p2, p3, p4⟩
  · exact ⟨_, by rw [p1]; rfl, .inl (by omega)⟩
  · exact ⟨p.2.1, by rw [p1]; rfl, .inr ⟨p2, p3, by simp only [zS]; omega⟩⟩
theorem laws_szService_ok (x : V) (left : Int) (hx : W_Service x) (h0 : 0 ≤ left) (h1 : left ≤ 1048576) : ∃ r, laws_szService x left = some (r) ∧ (r < 0 ∨ (0 ≤ r ∧ r ≤ 1048576 ∧ r + ((z_Service x : Nat) : Int) = left)) := by
  unfold laws_szService
  obtain ⟨r0, e0, q0⟩ := laws_szByteS_ok (gl x 0) left hx.1 h0 h1
  simp only [e0]
  rcases q0 with q0 | ⟨a0, b0, s0⟩
  · exact ⟨-1, by simp only [show decide (r0 < 0) = true from by simp; omega, cond_true], .inl (by omega)⟩
  simp only [show decide (r0 < 0) = false from by simp; omega, cond_false]
  obtain ⟨r1, e1, q1⟩ := laws_szCheckS_ok (gl x 1) r0 hx.2 a0 b0
  simp only [e1, Option.bind_some]
  rcases q1 with q1 | ⟨a1, b1, s1⟩
  · exact ⟨-1, by simp only [show decide (r1 < 0) = true from by simp; omega, cond_true], .inl (by omega)⟩
  simp only [show decide (r1 < 0) = false from by simp; omega, cond_false]
  exact ⟨r1, rfl, .inr ⟨a1, b1, by simp only [z_Service]; omega⟩⟩
theorem laws_szServiceS_ok (a : List V) (left : Int) (ha : LW W_Service a) (h0 : 0 ≤ left) (h1 : left ≤ 1048576) : ∃ r, laws_szServiceS a left = some (r) ∧ (r < 0 ∨ (0 ≤ r ∧ r ≤ 1048576 ∧ r + ((zS z_Service a : Nat) : Int) = left)) := by
  have hl := ha.1
  unfold laws_szServiceS
  rw [wr64' (by omega) (by omega)]
  by_cases h : left - ((a.length : Nat) : Int) < 0
  · exact ⟨-1, by simp [h], .inl (by omega)⟩
  rw [show decide (left - ((a.length : Nat) : Int) < 0) = false from by simp; omega, cond_false, fuel_eq]
  have key : (fun q : Option (Nat × Int × Int) => ∃ p, q = some p ∧ ((p.1 = 0 ∧ p.2.2 = -1) ∨ (p.1 = 1 ∧ 0 ≤ p.2.1 ∧ p.2.1 ≤ 1048576 ∧ p.2.1 + ((sumL z_Service a : Nat) : Int) = left - ((a.length : Nat) : Int)))) (laws_szServiceS_l5 (a.length + 1) a (left - ((a.length : Nat) : Int)) 0) := by
    refine loop_run0 (F := fun m s i => laws_szServiceS_l5 m a s i) (fun i s => 0 ≤ s ∧ s ≤ 1048576 ∧ s + ((sumL z_Service (a.take i) : Nat) : Int) = left - ((a.length : Nat) : Int)) (fun q : Option (Nat × Int × Int) => ∃ p, q = some p ∧ ((p.1 = 0 ∧ p.2.2 = -1) ∨ (p.1 = 1 ∧ 0 ≤ p.2.1 ∧ p.2.1 ≤ 1048576 ∧ p.2.1 + ((sumL z_Service a : Nat) : Int) = left - ((a.length : Nat) : Int)))) ?_ ?_ (s := left - ((a.length : Nat) : Int)) ⟨by omega, by omega, by simp [sumL]⟩
    · intro m i s hi hI
      obtain ⟨r, e, hr⟩ := laws_szService_ok (n_laws_Service (rd a i)) s (ha.rd hi) hI.1 hI.2.1
      simp only [laws_szServiceS_l5, lt_nat hi, idxOk_nat hi, Int.toNat_natCast, cond_true, e, Option.bind_some, wr_succ hi hl]
      rcases hr with hr | ⟨r1, r2, r3⟩
      · exact .inr ⟨_, by rw [show decide (r < 0) = true from by simp [hr], cond_true], .inl ⟨rfl, rfl⟩⟩
      · refine .inl ⟨r, by rw [show decide (r < 0) = false from by simp; omega, cond_false], r1, r2, ?_⟩
        rw [sum_take_succ _ hi]
        have r3 : r + ((z_Service (rd a i) : Nat) : Int) = s := r3
        omega
    · intro m s hI
      refine ⟨(1, s, 0), by simp only [laws_szServiceS_l5, lt_self, cond_false], .inr ⟨rfl, hI.1, hI.2.1, ?_⟩⟩
      rw [List.take_length] at hI; exact hI.2.2
  obtain ⟨p, e, hp⟩ := key
  rw [e, Option.bind_some]
  rcases hp with ⟨p1, p2⟩ | ⟨p1, p2, p3, p4⟩
  · exact ⟨_, by rw [p1]; rfl, .inl (by omega)⟩
  · exact ⟨p.2.1, by rw [p1]; rfl, .inr ⟨p2, p3, by simp only [zS]; omega⟩⟩
theorem laws_szLocal_ok (x : V) (left : Int) (hx : W_Local x) (h0 : 0 ≤ left) (h1 : left ≤ 1048576) : ∃ r, laws_szLocal x left = some (r) ∧ (r < 0 ∨ (0 ≤ r ∧ r ≤ 1048576 ∧ r + ((z_Local x : Nat) : Int) = left)) := by
  unfold laws_szLocal
  obtain ⟨r0, e0, q0⟩ := laws_szByteS_ok (gl x 0) left hx.1 h0 h1
  simp only [e0]
  rcases q0 with q0 | ⟨a0, b0, s0⟩
  · exact ⟨-1, by simp only [show decide (r0 < 0) = true from by simp; omega, cond_true], .inl (by omega)⟩
  simp only [show decide (r0 < 0) = false from by simp; omega, cond_false]
  obtain ⟨r1, e1, q1⟩ := laws_szServiceS_ok (gl x 1) r0 hx.2 a0 b0
  simp only [e1, Option.bind_some]
  rcases q1 with q1 | ⟨a1, b1, s1⟩
  · exact ⟨-1, by simp only [show decide (r1 < 0) = true from by simp; omega, cond_true], .inl (by omega)⟩
  simp only [show decide (r1 < 0) = false from by simp; omega, cond_false]
  exact ⟨r1, rfl, .inr ⟨a1, b1, by simp only [z_Local]; omega⟩⟩
theorem laws_toByteS_ok (a : List V) (ha : LW W_byte a) (hz : zS z0 a ≤ 1048576) : laws_toByteS a = some (a.map cnv_byte) := by
  have hl := ha.1
  have hn : a.length ≤ 1048576 := by simp only [zS] at hz; omega
  unfold laws_toByteS
  rw [fuel_eq, show (((a.length : Nat) : Int)).toNat = a.length from by omega, roomy_of (n := a.length) (by omega) hl]
  simp only [Int.natCast_nonneg, decide_true, Bool.and_self, cond_true]
  rw [to_loop (F := fun m r i => laws_toByteS_l3 m a i r) (f := cnv_byte) ?_ ?_ (by simp)]
  · rfl
  · intro m i r hi hr
    have hr' : i < r.length := by omega
    simp only [laws_toByteS_l3, lt_nat hi, idxOk_nat hi, idxOk_nat hr', Int.toNat_natCast, Nat.zero_add, cond_true, wr_succ hi hl]
    rfl
  · intro m r
    simp only [laws_toByteS_l3, lt_self, cond_false]
theorem laws_toCheck_ok (x : V) (hx : W_Check x) (hz : z_Check x ≤ 1048576) : laws_toCheck x = some (cnv_Check x) := by
  simp only [z_Check] at hz
  unfold laws_toCheck
  rw [laws_toByteS_ok (gl x 0) hx.1 (by omega)]
  simp only [Option.bind_some]
  rfl
theorem laws_toCheckS_ok (a : List V) (ha : LW W_Check a) (hz : zS z_Check a ≤ 1048576) : laws_toCheckS a = some (a.map cnv_Check) := by
  have hl := ha.1
  have hn : a.length ≤ 1048576 := by simp only [zS] at hz; omega
  unfold laws_toCheckS
  rw [fuel_eq, show (((a.length : Nat) : Int)).toNat = a.length from by omega, roomy_of (n := a.length) (by omega) hl]
  simp only [Int.natCast_nonneg, decide_true, Bool.and_self, cond_true]
  have hz' : ∀ i, i < a.length → z_Check (rd a i) ≤ 1048576 := fun i hi => by
    have := sum_take_succ z_Check hi
    have := sumL_take_le z_Check a (i + 1)
    simp only [zS] at hz; omega
  rw [to_loop (F := fun m r i => laws_toCheckS_l3 m a i r) (f := cnv_Check) ?_ ?_ (by simp)]
  · rfl
  · intro m i r hi hr
    have hr' : i < r.length := by omega
    have e := laws_toCheck_ok (n_laws_Check (rd a i)) (ha.rd hi) (hz' i hi)
    simp only [laws_toCheckS_l3, lt_nat hi, idxOk_nat hi, idxOk_nat hr', Int.toNat_natCast, Nat.zero_add, cond_true, e, Option.bind_some, wr_succ hi hl]
    rfl
  · intro m r
    simp only [laws_toCheckS_l3, lt_self, cond_false]
theorem laws_toService_ok (x : V) (hx : W_Service x) (hz : z_Service x ≤ 1048576) : laws_toService x = some (cnv_Service x) := by
  simp only [z_Service] at hz
  unfold laws_toService
  rw [laws_toByteS_ok (gl x 0) hx.1 (by omega)]
  simp only [Option.bind_some]
  rw [laws_toCheckS_ok (gl x 1) hx.2 (by omega)]
  simp only [Option.bind_some]
  rfl
theorem laws_toServiceS_ok (a : List V) (ha : LW W_Service a) (hz : zS z_Service a ≤ 1048576) : laws_toServiceS a = some (a.map cnv_Service) := by
  have hl := ha.1
  have hn : a.length ≤ 1048576 := by simp only [zS] at hz; omega
  unfold laws_toServiceS
  rw [fuel_eq, show (((a.length : Nat) : Int)).toNat = a.length from by omega, roomy_of (n := a.length) (by omega) hl]
  simp only [Int.natCast_nonneg, decide_true, Bool.and_self, cond_true]
  have hz' : ∀ i, i < a.length → z_Service (rd a i) ≤ 1048576 := fun i hi => by
    have := sum_take_succ z_Service hi
    have := sumL_take_le z_Service a (i + 1)
    simp only [zS] at hz; omega
  rw [to_loop (F := fun m r i => laws_toServiceS_l3 m a i r) (f := cnv_Service) ?_ ?_ (by simp)]
  · rfl
  · intro m i r hi hr
    have hr' : i < r.length := by omega
    have e := laws_toService_ok (n_laws_Service (rd a i)) (ha.rd hi) (hz' i hi)
    simp only [laws_toServiceS_l3, lt_nat hi, idxOk_nat hi, idxOk_nat hr', Int.toNat_natCast, Nat.zero_add, cond_true, e, Option.bind_some, wr_succ hi hl]
    rfl
  · intro m r
    simp only [laws_toServiceS_l3, lt_self, cond_false]
theorem laws_toLocal_ok (x : V) (hx : W_Local x) (hz : z_Local x ≤ 1048576) : laws_toLocal x = some (cnv_Local x) := by
  simp only [z_Local] at hz
  unfold laws_toLocal
  rw [laws_toByteS_ok (gl x 0) hx.1 (by omega)]
  simp only [Option.bind_some]
  rw [laws_toServiceS_ok (gl x 1) hx.2 (by omega)]
  simp only [Option.bind_some]
  rfl
theorem laws_eqByteS_ok (a : List V) (ha : LW W_byte a) : laws_eqByteS a a = some (true) := by
  have hl := ha.1
  unfold laws_eqByteS
  simp only [decide_true, Bool.not_true, cond_false]
  rw [fuel_eq]
  rw [skip_loop (F := fun m i => laws_eqByteS_l4 m a a i) (n := a.length) (out := some (1, false)) ?_ ?_]
  · rfl
  · intro m i hi
    simp only [laws_eqByteS_l4, lt_nat hi, idxOk_nat hi, Int.toNat_natCast, cond_true, wr_succ hi hl, decide_true, Bool.not_true, cond_false]
  · intro m
    simp only [laws_eqByteS_l4, lt_self, cond_false]
theorem laws_eqCheck_ok (x : V) (hx : W_Check x) : laws_eqCheck x x = some (true) := by
  unfold laws_eqCheck
  simp only [decide_true, Bool.not_true, cond_false, Option.bind_some, laws_eqByteS_ok (gl x 0) hx.1]
theorem laws_eqCheckS_ok (a : List V) (ha : LW W_Check a) : laws_eqCheckS a a = some (true) := by
  have hl := ha.1
  unfold laws_eqCheckS
  simp only [decide_true, Bool.not_true, cond_false]
  rw [fuel_eq]
  rw [skip_loop (F := fun m i => laws_eqCheckS_l4 m a a i) (n := a.length) (out := some (1, false)) ?_ ?_]
  · rfl
  · intro m i hi
    have e := laws_eqCheck_ok (n_laws_Check (rd a i)) (ha.rd hi)
    simp only [laws_eqCheckS_l4, lt_nat hi, idxOk_nat hi, Int.toNat_natCast, cond_true, e, Option.bind_some, wr_succ hi hl, Bool.not_true, cond_false]
  · intro m
    simp only [laws_eqCheckS_l4, lt_self, cond_false]
theorem laws_eqService_ok (x : V) (hx : W_Service x) : laws_eqService x x = some (true) := by
  unfold laws_eqService
  simp only [Bool.not_true, cond_false, Option.bind_some, laws_eqByteS_ok (gl x 0) hx.1, laws_eqCheckS_ok (gl x 1) hx.2]
theorem laws_eqServiceS_ok (a : List V) (ha : LW W_Service a) : laws_eqServiceS a a = some (true) := by
  have hl := ha.1
  unfold laws_eqServiceS
  simp only [decide_true, Bool.not_true, cond_false]
  rw [fuel_eq]
  rw [skip_loop (F := fun m i => laws_eqServiceS_l4 m a a i) (n := a.length) (out := some (1, false)) ?_ ?_]
  · rfl
  · intro m i hi
    have e := laws_eqService_ok (n_impl_Service (rd a i)) (ha.rd hi)
    simp only [laws_eqServiceS_l4, lt_nat hi, idxOk_nat hi, Int.toNat_natCast, cond_true, e, Option.bind_some, wr_succ hi hl, Bool.not_true, cond_false]
  · intro m
    simp only [laws_eqServiceS_l4, lt_self, cond_false]
theorem laws_eqLocal_ok (x : V) (hx : W_Local x) : laws_eqLocal x x = some (true) := by
  unfold laws_eqLocal
  simp only [Bool.not_true, cond_false, Option.bind_some, laws_eqByteS_ok (gl x 0) hx.1, laws_eqServiceS_ok (gl x 1) hx.2]
theorem laws_markByteS_ok (a : List V) (k : Int) (ha : LW W_byte a) (hk : 0 ≤ k) (hs : k + ((sumL c1 a : Nat) : Int) ≤ 9223372036854775807) : ∃ b, laws_markByteS a k = some (k + ((sumL c1 a : Nat) : Int), b) ∧ MS c1 M_byte b k ∧ sumL c1 b = sumL c1 a := by
  have hl := ha.1
  unfold laws_markByteS
  rw [fuel_eq]
  obtain ⟨b, e1, e2, e3, e4⟩ := mark_loop (F := fun m k i r => laws_markByteS_l2 m k i r) (c := c1) (M := M_byte) (w := W_byte) (by
    intro x k hx hk hs
    simp only [c1] at hs
    refine ⟨V.int .u8 (IntKind.u8.wrap k), rfl, rfl, fun m pre rest hlen => ?_⟩
    have hi : pre.length < (pre ++ x :: rest).length := by simp
    simp only [laws_markByteS_l2, lt_mid, idxOk_mid, Int.toNat_natCast, Nat.zero_add, set_mid, cond_true, wr_succ hi hlen]
    rw [wr64' (by omega) (by omega)]
    rfl)
    (by intro m k pre; simp only [laws_markByteS_l2, lt_self, cond_false]) a (a.length + 1) k [] (by omega) (by simpa using hl) ha.2 hk hs
  simp only [List.nil_append, List.length_nil, Int.natCast_zero] at e4
  rw [e4]
  exact ⟨b, rfl, ⟨by omega, e3⟩, e2⟩
theorem laws_markCheckS_ok (a : List V) (k : Int) (ha : LW W_Check a) (hk : 0 ≤ k) (hs : k + ((sumL c_Check a : Nat) : Int) ≤ 9223372036854775807) : ∃ b, laws_markCheckS a k = some (k + ((sumL c_Check a : Nat) : Int), b) ∧ MS c_Check M_Check b k ∧ sumL c_Check b = sumL c_Check a := by
  have hl := ha.1
  unfold laws_markCheckS
  rw [fuel_eq]
  obtain ⟨b, e1, e2, e3, e4⟩ := mark_loop (F := fun m k i r => laws_markCheckS_l2 m k i r) (c := c_Check) (M := M_Check) (w := W_Check) (by
    intro x k hx hk hs
    simp only [c_Check] at hs
    obtain ⟨b0, f0, g0, s0⟩ := laws_markByteS_ok (gl x 0) (k) (hx.1) (by omega) (by omega)
    refine ⟨V.agg [V.inl t_byte b0, V.int .i64 (k + ((sumL c1 (gl x 0) : Nat) : Int)), V.int .i64 (k + ((sumL c1 (gl x 0) : Nat) : Int) + 1), V.int .i64 (k + ((sumL c1 (gl x 0) : Nat) : Int) + 1 + 1), V.int .i64 (k + ((sumL c1 (gl x 0) : Nat) : Int) + 1 + 1 + 1), V.int .i64 (k + ((sumL c1 (gl x 0) : Nat) : Int) + 1 + 1 + 1 + 1)], ?_, ?_, fun m pre rest hlen => ?_⟩
    · simp only [M_Check, gl_c0, gi_c0, gi_cs, and_true, s0]
      exact g0
    · simp only [c_Check, gl_c0, s0]
    · have hi : pre.length < (pre ++ x :: rest).length := by simp
      simp (disch := omega) only [laws_markCheckS_l2, rlet, lt_mid, idxOk_mid, Int.toNat_natCast, Nat.zero_add, set_mid, rd_mid, gi_c0, gi_cs, gl_c0, cond_true, wr_succ hi hlen, wr64', Option.bind_some, f0]
      congr 1
      simp only [c_Check]; omega)
    (by intro m k pre; simp only [laws_markCheckS_l2, lt_self, cond_false]) a (a.length + 1) k [] (by omega) (by simpa using hl) ha.2 hk hs
  simp only [List.nil_append, List.length_nil, Int.natCast_zero] at e4
  rw [e4]
  exact ⟨b, rfl, ⟨by omega, e3⟩, e2⟩
theorem laws_markServiceS_ok (a : List V) (k : Int) (ha : LW W_Service a) (hk : 0 ≤ k) (hs : k + ((sumL c_Service a : Nat) : Int) ≤ 9223372036854775807) : ∃ b, laws_markServiceS a k = some (k + ((sumL c_Service a : Nat) : Int), b) ∧ MS c_Service M_Service b k ∧ sumL c_Service b = sumL c_Service a := by
  have hl := ha.1
  unfold laws_markServiceS
  rw [fuel_eq]
  obtain ⟨b, e1, e2, e3, e4⟩ := mark_loop (F := fun m k i r => laws_markServiceS_l2 m k i r) (c := c_Service) (M := M_Service) (w := W_Service) (by
    intro x k hx hk hs
    simp only [c_Service] at hs
    obtain ⟨b0, f0, g0, s0⟩ := laws_markByteS_ok (gl x 0) (k) (hx.1) (by omega) (by omega)
    obtain ⟨b1, f1, g1, s1⟩ := laws_markCheckS_ok (gl x 1) (k + ((sumL c1 (gl x 0) : Nat) : Int)) (hx.2) (by omega) (by omega)
    refine ⟨V.agg [V.inl t_byte b0, V.inl t_impl_Check b1], ?_, ?_, fun m pre rest hlen => ?_⟩
    · simp only [M_Service, gl_c0, gl_cs, s0]
      exact ⟨g0, g1⟩
    · simp only [c_Service, gl_c0, gl_cs, s0, s1]
    · have hi : pre.length < (pre ++ x :: rest).length := by simp
      simp (disch := omega) only [laws_markServiceS_l2, lt_mid, idxOk_mid, Int.toNat_natCast, Nat.zero_add, set_mid, rd_mid, gl_c0, gl_cs, cond_true, wr_succ hi hlen, Option.bind_some, f0, f1]
      congr 1
      simp only [c_Service]; omega)
    (by intro m k pre; simp only [laws_markServiceS_l2, lt_self, cond_false]) a (a.length + 1) k [] (by omega) (by simpa using hl) ha.2 hk hs
  simp only [List.nil_append, List.length_nil, Int.natCast_zero] at e4
  rw [e4]
  exact ⟨b, rfl, ⟨by omega, e3⟩, e2⟩
theorem laws_markLocal_ok (x : V) (k : Int) (hx : W_Local x) (hk : 0 ≤ k) (hs : k + ((ct_Local x : Nat) : Int) ≤ 9223372036854775807) : ∃ b0 b1, laws_markLocal x k = some (k + ((ct_Local x : Nat) : Int), b0, b1) ∧ MS c1 M_byte b0 (k) ∧ sumL c1 b0 = sumL c1 (gl x 0) ∧ MS c_Service M_Service b1 (k + ((sumL c1 (gl x 0) : Nat) : Int)) ∧ sumL c_Service b1 = sumL c_Service (gl x 1) := by
  simp only [ct_Local] at hs ⊢
  unfold laws_markLocal
  obtain ⟨b0, f0, g0, s0⟩ := laws_markByteS_ok (gl x 0) (k) hx.1 (by omega) (by omega)
  simp only [f0, Option.bind_some]
  obtain ⟨b1, f1, g1, s1⟩ := laws_markServiceS_ok (gl x 1) (k + ((sumL c1 (gl x 0) : Nat) : Int)) hx.2 (by omega) (by omega)
  simp only [f1, Option.bind_some]
  refine ⟨b0, b1, ?_, ?_, s0, ?_, s1⟩
  · first | rfl | (congr 2; omega)
  · first | exact g0 | (refine cast (congrArg _ ?_) g0; omega)
  · first | exact g1 | (refine cast (congrArg _ ?_) g1; omega)
theorem laws_heldByteS_ok (a : List V) (k : Int) (hM : MS c1 M_byte a k) (hk : 0 ≤ k) (hs : k + ((sumL c1 a : Nat) : Int) ≤ 9223372036854775807) : laws_heldByteS a k = some (k + ((sumL c1 a : Nat) : Int)) := by
  have hl := hM.1
  unfold laws_heldByteS
  rw [fuel_eq]
  rw [held_loop (F := fun m k i => laws_heldByteS_l2 m a k i) (c := c1) (M := M_byte) (l := a) (out := fun k => some (1, k, 0)) ?_ ?_ hk hs hM]
  · rfl
  · intro m k i hi hk hs hM
    simp only [c1] at hs ⊢
    simp only [M_byte] at hM
    simp only [laws_heldByteS_l2, lt_nat hi, idxOk_nat hi, Int.toNat_natCast, hM, decide_true, Bool.not_true, cond_true, cond_false, wr_succ hi hl]
    rw [wr64' (by omega) (by omega)]
    rfl
  · intro m k
    simp only [laws_heldByteS_l2, lt_self, cond_false]
theorem laws_heldCheckS_ok (a : List V) (k : Int) (hM : MS c_Check M_Check a k) (hk : 0 ≤ k) (hs : k + ((sumL c_Check a : Nat) : Int) ≤ 9223372036854775807) : laws_heldCheckS a k = some (k + ((sumL c_Check a : Nat) : Int)) := by
  have hl := hM.1
  unfold laws_heldCheckS
  rw [fuel_eq]
  rw [held_loop (F := fun m k i => laws_heldCheckS_l2 m a k i) (c := c_Check) (M := M_Check) (l := a) (out := fun k => some (1, k, 0)) ?_ ?_ hk hs hM]
  · rfl
  · intro m k i hi hk hs hM
    simp only [c_Check] at hs
    simp only [M_Check] at hM
    obtain ⟨q0, q1, q2, q3, q4, q5⟩ := hM
    have e0 := laws_heldByteS_ok (gl (rd a i) 0) (k) q0 (by omega) (by omega)
    have n0 : decide (k + ((sumL c1 (gl (rd a i) 0) : Nat) : Int) < 0) = false := by simp; omega
    simp (disch := omega) only [laws_heldCheckS_l2, lt_nat hi, idxOk_nat hi, Int.toNat_natCast, wr64', e0, n0, q1, q2, q3, q4, q5, decide_true, Bool.not_true, cond_true, cond_false, Option.bind_some, wr_succ hi hl]
    congr 1
    simp only [c_Check]; omega
  · intro m k
    simp only [laws_heldCheckS_l2, lt_self, cond_false]
theorem laws_heldServiceS_ok (a : List V) (k : Int) (hM : MS c_Service M_Service a k) (hk : 0 ≤ k) (hs : k + ((sumL c_Service a : Nat) : Int) ≤ 9223372036854775807) : laws_heldServiceS a k = some (k + ((sumL c_Service a : Nat) : Int)) := by
  have hl := hM.1
  unfold laws_heldServiceS
  rw [fuel_eq]
  rw [held_loop (F := fun m k i => laws_heldServiceS_l2 m a k i) (c := c_Service) (M := M_Service) (l := a) (out := fun k => some (1, k, 0)) ?_ ?_ hk hs hM]
  · rfl
  · intro m k i hi hk hs hM
    simp only [c_Service] at hs
    simp only [M_Service] at hM
    obtain ⟨q0, q1⟩ := hM
    have e0 := laws_heldByteS_ok (gl (rd a i) 0) (k) q0 (by omega) (by omega)
    have n0 : decide (k + ((sumL c1 (gl (rd a i) 0) : Nat) : Int) < 0) = false := by simp; omega
    have e1 := laws_heldCheckS_ok (gl (rd a i) 1) (k + ((sumL c1 (gl (rd a i) 0) : Nat) : Int)) q1 (by omega) (by omega)
    have n1 : decide (k + ((sumL c1 (gl (rd a i) 0) : Nat) : Int) + ((sumL c_Check (gl (rd a i) 1) : Nat) : Int) < 0) = false := by simp; omega
    simp (disch := omega) only [laws_heldServiceS_l2, lt_nat hi, idxOk_nat hi, Int.toNat_natCast, e0, n0, e1, n1, cond_true, cond_false, Option.bind_some, wr_succ hi hl]
    congr 1
    simp only [c_Service]; omega
  · intro m k
    simp only [laws_heldServiceS_l2, lt_self, cond_false]
theorem laws_heldLocal_ok (x : V) (k : Int) (h0 : MS c1 M_byte (gl x 0) (k)) (h1 : MS c_Service M_Service (gl x 1) (k + ((sumL c1 (gl x 0) : Nat) : Int))) (hk : 0 ≤ k) (hs : k + ((ct_Local x : Nat) : Int) ≤ 9223372036854775807) : laws_heldLocal x k = some (k + ((ct_Local x : Nat) : Int)) := by
  simp only [ct_Local] at hs ⊢
  unfold laws_heldLocal
  rw [laws_heldByteS_ok (gl x 0) (k) h0 (by omega) (by omega)]
  simp only [Option.bind_some, show decide (k + ((sumL c1 (gl x 0) : Nat) : Int) < 0) = false from by simp; omega, cond_false]
  rw [laws_heldServiceS_ok (gl x 1) (k + ((sumL c1 (gl x 0) : Nat) : Int)) h1 (by omega) (by omega)]
  simp only [Option.bind_some, show decide (k + ((sumL c1 (gl x 0) : Nat) : Int) + ((sumL c_Service (gl x 1) : Nat) : Int) < 0) = false from by simp; omega, cond_false]
  try first | rfl | (congr 1; omega)
end Go.Eng.R
open Go Go.Eng
namespace Go.Eng.R
def chB (x : V) : Bool := !decide (gi x 0 < 97) && !decide (122 < gi x 0) || decide (gi x 0 = 47)
theorem all_take_succ {p : V → Bool} {l : List V} {i : Nat} (h : i < l.length) : (l.take (i + 1)).all p = ((l.take i).all p && p (rd l i)) := by
  rw [List.take_add_one, List.all_append]
  have : l[i]? = some (rd l i) := by simp [rd, List.getD, h]
  rw [this]; simp
theorem all_rd_false {p : V → Bool} {l : List V} {i : Nat} (h : i < l.length) (hp : p (rd l i) = false) : l.all p = false := by
  rw [List.all_eq_false]
  refine ⟨rd l i, ?_, by simp [hp]⟩
  have : rd l i = l[i] := by simp [rd, List.getD, h]
  rw [this]; exact List.getElem_mem h
theorem all_loop {ρ : Type} {F : Nat → Int → ρ} {l : List V} {p : V → Bool} {yes no : ρ}
    (h1 : ∀ m (i : Nat), i < l.length → F (m + 1) (i : Int) = bif p (rd l i) then F m ((i + 1 : Nat) : Int) else no) (h0 : ∀ m, F (m + 1) (l.length : Int) = yes) :
    F (l.length + 1) 0 = bif l.all p then yes else no := by
  refine loop_run0 (F := fun m (_ : Unit) i => F m i) (n := l.length) (fun i _ => (l.take i).all p = true) (fun o => o = bif l.all p then yes else no) ?_ ?_ (s := ()) (by simp)
  · intro m i s hi hI
    rw [h1 m i hi]
    cases hp : p (rd l i) with
    | true => exact .inl ⟨(), rfl, by rw [all_take_succ hi, hI, hp]; rfl⟩
    | false => exact .inr (by rw [all_rd_false hi hp]; rfl)
  · intro m s hI
    rw [List.take_length] at hI
    rw [hI]; exact h0 m
def keyB (b : List V) : Bool := decide (1 ≤ b.length) && (decide (b.length ≤ 20) && b.all chB)
theorem spec_l2key_eq {b : List V} (hb : LW W_byte b) : spec_l2key b = some (keyB b) := by
  have hl := hb.1
  unfold spec_l2key keyB
  by_cases h1 : 1 ≤ b.length
  · by_cases h2 : b.length ≤ 20
    · rw [show decide (((b.length : Nat) : Int) < 1) = false from by simp; omega, show decide ((20 : Int) < ((b.length : Nat) : Int)) = false from by simp; omega, cond_false, cond_false, fuel_eq,
        all_loop (F := fun m i => spec_l2key_l4 m b i) (l := b) (p := chB) (yes := some (1, false)) (no := some (0, false)) ?_ ?_]
      · simp only [h1, h2, decide_true, Bool.true_and]
        cases b.all chB <;> rfl
      · intro m i hi
        simp only [spec_l2key_l4, lt_nat hi, idxOk_nat hi, Int.toNat_natCast, cond_true, wr_succ hi hl, chB]
        cases decide (gi (rd b i) 0 < 97) <;> cases decide (122 < gi (rd b i) 0) <;> cases decide (gi (rd b i) 0 = 47) <;> rfl
      · intro m; simp only [spec_l2key_l4, lt_self, cond_false]
    · rw [show decide (((b.length : Nat) : Int) < 1) = false from by simp; omega, show decide ((20 : Int) < ((b.length : Nat) : Int)) = true from by simp; omega]
      simp [h2]
  · rw [show decide (((b.length : Nat) : Int) < 1) = true from by simp; omega]
    simp [h1]
theorem within_eq (n lo hi : Int) : impl_within n lo hi = decide (lo ≤ n ∧ n ≤ hi) := by
  unfold impl_within
  by_cases h : lo ≤ n <;> simp [h]
theorem impl_KeyOk_eq {b : List V} (hb : LW W_byte b) : impl_KeyOk b = some (keyB b) := by
  have hl := hb.1
  unfold impl_KeyOk keyB
  rw [fuel_eq, all_loop (F := fun m i => impl_KeyOk_l2 m b b ((b.length : Nat) : Int) i) (l := b) (p := chB) (yes := some (1, b, false)) (no := some (0, b, false)) ?_ ?_]
  · cases b.all chB with
    | true => simp only [cond_true, Option.bind_some, within_eq]; simp [Nat.beq]; by_cases h1 : 1 ≤ b.length <;> by_cases h2 : b.length ≤ 20 <;> simp [h1, h2] <;> omega
    | false => simp [Nat.beq]
  · intro m i hi
    simp only [impl_KeyOk_l2, lt_nat hi, idxOk_nat hi, Int.toNat_natCast, cond_true, wr_succ hi hl, chB]
    cases decide (gi (rd b i) 0 < 97) <;> cases decide (122 < gi (rd b i) 0) <;> cases decide (gi (rd b i) 0 = 47) <;> rfl
  · intro m; simp only [impl_KeyOk_l2, lt_self, cond_false]
def partB (b : List V) : Bool := (b.all fun x => !decide (gi x 0 = 47)) && keyB b
theorem spec_l14part_eq {b : List V} (hb : LW W_byte b) : spec_l14part b = some (partB b) := by
  have hl := hb.1
  unfold spec_l14part partB
  rw [fuel_eq, all_loop (F := fun m i => spec_l14part_l2 m b i) (l := b) (p := fun x => !decide (gi x 0 = 47)) (yes := some (1, b, false)) (no := some (0, b, false)) ?_ ?_]
  · cases b.all (fun x => !decide (gi x 0 = 47)) with
    | true => simp [Nat.beq, spec_l2key_eq hb]
    | false => simp [Nat.beq]
  · intro m i hi
    simp only [spec_l14part_l2, lt_nat hi, idxOk_nat hi, Int.toNat_natCast, cond_true, wr_succ hi hl]
    cases decide (gi (rd b i) 0 = 47) <;> rfl
  · intro m; simp only [spec_l14part_l2, lt_self, cond_false]
theorem all_rd {l : List V} {p : V → Bool} : l.all p = (List.range l.length).all fun i => p (rd l i) := by
  rw [Bool.eq_iff_iff, List.all_eq_true, List.all_eq_true]
  constructor
  · intro h i hi
    have hi := List.mem_range.1 hi
    rw [rd_eq hi]; exact h _ (List.getElem_mem hi)
  · intro h x hx
    obtain ⟨i, hi, rfl⟩ := List.getElem_of_mem hx
    have := h i (List.mem_range.2 hi)
    rwa [rd_eq hi] at this
theorem contains_eq {b : List V} (hb : LW W_byte b) : slices_Contains_byte b 47 = some (!(b.all fun x => !decide (gi x 0 = 47))) := by
  have hl := hb.1
  unfold slices_Contains_byte slices_Index_byte
  rw [fuel_eq, show (0 : Int) = ((0 : Nat) : Int) from rfl, find_loop (F := fun m i => slices_Index_byte_l2 m b 47 ((b.length : Nat) : Int) i) (n := b.length) (q := fun i => decide ((47 : Int) = gi (rd b i) 0)) (out := fun j => some (0, j)) (no := some (1, 0)) ?_ ?_ (b.length + 1) 0 (by omega) (by omega)]
  · rw [all_rd]
    cases hf : firstI (fun i => decide ((47 : Int) = gi (rd b i) 0)) 0 (b.length - 0) with
    | none =>
      rw [firstI_none] at hf
      have : ((List.range b.length).all fun i => !decide (gi (rd b i) 0 = 47)) = true := by
        rw [List.all_eq_true]
        intro i hi
        have hi := List.mem_range.1 hi
        have := hf i (by omega) (by omega)
        simp at this ⊢
        exact fun e => this e.symm
      rw [this]; rfl
    | some j =>
      obtain ⟨-, hj, hq, -⟩ := firstI_some hf
      have : ((List.range b.length).all fun i => !decide (gi (rd b i) 0 = 47)) = false := by
        rw [List.all_eq_false]
        refine ⟨j, List.mem_range.2 (by omega), ?_⟩
        simp at hq ⊢
        exact hq.symm
      rw [this]
      simp [Nat.beq]
  · intro m i hi
    simp only [slices_Index_byte_l2, lt_nat hi, idxOk_nat hi, Int.toNat_natCast, cond_true, wr_succ hi hl]
  · intro m; simp only [slices_Index_byte_l2, lt_self, cond_false]
theorem impl_isPlain_eq {b : List V} (hb : LW W_byte b) : impl_isPlain b = some (partB b) := by
  unfold impl_isPlain partB
  rw [impl_KeyOk_eq hb, contains_eq hb]
  cases keyB b <;> simp
def checkB (c : V) : Bool := keyB (gl c 0) && decide (0 ≤ gi c 1 ∧ gi c 1 ≤ 1000 ∧ 1 ≤ gi c 2 ∧ gi c 2 ≤ 5 ∧ 0 ≤ gi c 3 ∧ gi c 3 ≤ 2 ∧ 0 ≤ gi c 4 ∧ gi c 4 ≤ 1000 ∧ 0 ≤ gi c 5 ∧ gi c 5 ≤ gi c 2 ∧ (¬ 0 < gi c 1 ∨ ¬ gi c 1 ≤ gi c 4 ∨ gi c 3 = 2) ∧ (¬ gi c 3 = 0 ∨ gi c 5 = 0))
theorem c_some (p x y : Bool) : (bif p then some x else some y) = some (bif p then x else y) := by cases p <;> rfl
theorem c_fl (p x : Bool) : (bif p then false else x) = (!p && x) := by cases p <;> rfl
theorem c_tl (p x : Bool) : (bif p then true else x) = (p || x) := by cases p <;> rfl
theorem c_fr (p x : Bool) : (bif p then x else false) = (p && x) := by cases p <;> simp
theorem c_gen (p x y : Bool) : (bif p then x else y) = ((p && x) || (!p && y)) := by cases p <;> simp
theorem spec_CheckOk_eq {c : V} (hc : W_Check c) : spec_CheckOk c = some (checkB c) := by
  unfold spec_CheckOk checkB
  rw [spec_l2key_eq hc.1]
  cases keyB (gl c 0) with
  | false => simp
  | true =>
    simp only [Option.bind_some, Bool.not_true, cond_false, Bool.true_and, c_some]
    congr 1
    rw [Bool.eq_iff_iff]
    simp only [c_gen, Bool.and_eq_true, Bool.or_eq_true, Bool.not_eq_true', decide_eq_true_eq, decide_eq_false_iff_not, Bool.not_not, Bool.false_eq_true, and_false, false_or, and_true]
    omega
theorem impl_CheckOk_eq {c : V} (hc : W_Check c) : impl_CheckOk c = some (checkB c) := by
  unfold impl_CheckOk checkB
  rw [impl_KeyOk_eq hc.1]
  simp only [within_eq]
  rw [show impl_Check_late (n_laws_Check c) = bif decide (0 < gi c 1) then decide (gi c 1 ≤ gi c 4) else false from rfl]
  cases keyB (gl c 0) with
  | false => simp
  | true =>
    simp only [Option.bind_some, cond_true, Bool.true_and, c_some]
    congr 1
    have hX : (bif (!bif decide (0 < gi c 1) then decide (gi c 1 ≤ gi c 4) else false) then bif (!decide (gi c 3 = 0)) then true else decide (gi c 5 = 0) else bif decide (gi c 3 = 2) then bif (!decide (gi c 3 = 0)) then true else decide (gi c 5 = 0) else false) = decide ((¬ 0 < gi c 1 ∨ ¬ gi c 1 ≤ gi c 4 ∨ gi c 3 = 2) ∧ (¬ gi c 3 = 0 ∨ gi c 5 = 0)) := by
      by_cases b1 : 0 < gi c 1 <;> by_cases b2 : gi c 1 ≤ gi c 4 <;> by_cases b3 : gi c 3 = 2 <;> by_cases b4 : gi c 3 = 0 <;> by_cases b5 : gi c 5 = 0 <;> simp [b1, b2, b3, b4, b5]
    rw [hX]
    simp only [c_fr, ← Bool.decide_and]
    rw [decide_eq_decide]
    omega
end Go.Eng.R
open Go Go.Eng
namespace Go.Eng.R
theorem flatMap_take_rd {l : List V} {f : V → List V} {i : Nat} (h : i < l.length) : (l.take (i + 1)).flatMap f = (l.take i).flatMap f ++ f (rd l i) := by
  rw [List.take_add_one, List.flatMap_append]
  have : l[i]? = some (rd l i) := by simp [rd, List.getD, h]
  rw [this]; simp
theorem flatMap_len {l : List V} {f : V → List V} : (l.flatMap f).length = sumL (fun x => (f x).length) l := by
  induction l with
  | nil => rfl
  | cons x l ih => simp [sumL, ih]
theorem concat_eq {xs : List V} (hx : xs.length ≤ 100) (hz : sumL (fun x => (gl x 0).length) xs ≤ 4194304) : slices_Concat_byte xs = some (xs.flatMap fun x => gl x 0) := by
  have hl : xs.length ≤ 9223372036854775807 := by omega
  unfold slices_Concat_byte
  rw [fuel_eq]
  have l1 : slices_Concat_byte_l3 (xs.length + 1) xs 0 xs ((xs.length : Nat) : Int) 0 = some (xs, ((sumL (fun x => (gl x 0).length) xs : Nat) : Int)) := by
    refine loop_run0 (F := fun m (s : Int) i => slices_Concat_byte_l3 m xs s xs ((xs.length : Nat) : Int) i) (n := xs.length) (fun i s => s = ((sumL (fun x => (gl x 0).length) (xs.take i) : Nat) : Int)) (fun o => o = some (xs, ((sumL (fun x => (gl x 0).length) xs : Nat) : Int))) ?_ ?_ (s := 0) (by simp [sumL])
    · intro m i s hi hI
      subst hI
      have h1 := sum_take_succ (fun x => (gl x 0).length) hi
      have h2 := sumL_take_le (fun x => (gl x 0).length) xs (i + 1)
      refine .inl ⟨((sumL (fun x => (gl x 0).length) (xs.take (i + 1)) : Nat) : Int), ?_, rfl⟩
      simp only [slices_Concat_byte_l3, lt_nat hi, idxOk_nat hi, Int.toNat_natCast, cond_true, wr_succ hi hl]
      have hw : IntKind.i64.wrap (((sumL (fun x => (gl x 0).length) (xs.take i) : Nat) : Int) + (((gl (rd xs i) 0).length : Nat) : Int)) = ((sumL (fun x => (gl x 0).length) (xs.take (i + 1)) : Nat) : Int) := by
        rw [wr64' (by omega) (by omega)]; omega
      simp only [hw]
      rw [decide_eq_false (p := ((sumL (fun x => (gl x 0).length) (xs.take (i + 1)) : Nat) : Int) < (0 : Int)) (by omega), cond_false]
    · intro m s hI
      rw [List.take_length] at hI
      subst hI
      simp only [slices_Concat_byte_l3, lt_self, cond_false]
  rw [l1]
  simp only [Option.bind_some]
  rw [show growV ((sumL (fun x => (gl x 0).length) xs : Nat) : Int) = some [] from by unfold growV; rw [decide_eq_true (by omega), decide_eq_true (by omega)]; rfl]
  simp only [Option.bind_some]
  rw [fuel_eq]
  have l2 : slices_Concat_byte_l11 (xs.length + 1) xs ((xs.length : Nat) : Int) 0 [] = some (xs.flatMap fun x => gl x 0) := by
    refine loop_run0 (F := fun m (s : List V) i => slices_Concat_byte_l11 m xs ((xs.length : Nat) : Int) i s) (n := xs.length) (fun i s => s = (xs.take i).flatMap fun x => gl x 0) (fun o => o = some (xs.flatMap fun x => gl x 0)) ?_ ?_ (s := []) (by simp)
    · intro m i s hi hI
      subst hI
      have h1 := sum_take_succ (fun x => (gl x 0).length) hi
      have h2 := sumL_take_le (fun x => (gl x 0).length) xs (i + 1)
      refine .inl ⟨(xs.take (i + 1)).flatMap (fun x => gl x 0), ?_, rfl⟩
      have h3 : ((xs.take i).flatMap fun x => gl x 0).length = sumL (fun x => (gl x 0).length) (xs.take i) := flatMap_len
      simp only [slices_Concat_byte_l11, lt_nat hi, idxOk_nat hi, Int.toNat_natCast, cond_true, wr_succ hi hl]
      rw [roomy_of (by rw [h3]; omega) (by rw [h3]; omega), Bool.and_self, cond_true, flatMap_take_rd hi]
    · intro m s hI
      rw [List.take_length] at hI
      subst hI
      simp only [slices_Concat_byte_l11, lt_self, cond_false]
  rw [l2]
  rfl
theorem gl_in (T : TypeId) (l : List V) : gl (V.inl T l) 0 = l := rfl
theorem catalogKey_eq {l : V} {nm : List V} (h1 : (gl l 0).length ≤ 1048576) (h2 : nm.length ≤ 1048576) : impl_Local_catalogKey l nm = some (svcL ++ gl l 0 ++ [.int .u8 47] ++ nm) := by
  unfold impl_Local_catalogKey impl_Local_ahead
  rw [concat_eq (by simp) (by simp [sumL, gl_in, show gl (n_impl_Local l) 0 = gl l 0 from rfl]; omega)]
  simp only [Option.bind_some]
  rw [concat_eq (by simp) (by simp [sumL, gl_in, show gl (n_impl_Local l) 0 = gl l 0 from rfl]; omega)]
  simp [gl_in, svcL, show gl (n_impl_Local l) 0 = gl l 0 from rfl]
theorem keyV_eq {a b : List V} (h1 : a.length ≤ 1048576) (h2 : b.length ≤ 1048576) : keyV a b = some (svcL ++ a ++ [.int .u8 47] ++ b) := by
  unfold keyV
  rw [decide_eq_true h1, decide_eq_true h2]; rfl
theorem svc_W {a b : List V} (ha : LW W_byte a) (hb : LW W_byte b) (h1 : a.length ≤ 1048576) (h2 : b.length ≤ 1048576) : LW W_byte (svcL ++ a ++ [.int .u8 47] ++ b) := by
  refine ⟨by simp [svcL]; omega, fun x hx => ?_⟩
  simp only [List.mem_append] at hx
  rcases hx with ((hx | hx) | hx) | hx
  · simp [svcL] at hx
    rcases hx with rfl | rfl | rfl | rfl <;> exact ⟨by decide, by decide⟩
  · exact ha.2 x hx
  · simp at hx; subst hx; exact ⟨by decide, by decide⟩
  · exact hb.2 x hx
def checksB (cs : List V) : Bool := (List.range cs.length).all fun k => checkB (rd cs k) && (decide (k = 0) || nlt (gl (rd cs (k - 1)) 0) (gl (rd cs k) 0))
def servB (node : List V) (s : V) : Bool := partB (gl s 0) && (keyB (svcL ++ node ++ [.int .u8 47] ++ gl s 0) && (decide ((gl s 1).length ≤ 4) && checksB (gl s 1)))
def localB (l : V) : Bool := partB (gl l 0) && (decide ((gl l 1).length ≤ 6) && (List.range (gl l 1).length).all fun i => servB (gl l 0) (rd (gl l 1) i) && (decide (i = 0) || nlt (gl (rd (gl l 1) (i - 1)) 0) (gl (rd (gl l 1) i) 0)))
theorem wr_pred {k n : Nat} (h0 : 0 < k) (h : k ≤ n) (hn : n ≤ 9223372036854775807) : IntKind.i64.wrap ((k : Int) - 1) = ((k - 1 : Nat) : Int) := by rw [wr64' (by omega) (by omega)]; omega
theorem spec_checks_eq {s : V} (hs : LW W_Check (gl s 1)) (i3 : Int) (l : V) : spec_LocalOk_l10 ((gl s 1).length + 1) i3 0 (n_impl_Local l) (n_impl_Service s) = bif checksB (gl s 1) then some (1, false, i3, n_impl_Local l) else some (0, false, i3, n_impl_Local l) := by
  have hl := hs.1
  refine all_loopI (F := fun m i => spec_LocalOk_l10 m i3 i (n_impl_Local l) (n_impl_Service s)) (n := (gl s 1).length) (q := fun k => checkB (rd (gl s 1) k) && (decide (k = 0) || nlt (gl (rd (gl s 1) (k - 1)) 0) (gl (rd (gl s 1) k) 0))) (yes := some (1, false, i3, n_impl_Local l)) (no := some (0, false, i3, n_impl_Local l)) ?_ ?_
  · intro m i hi
    simp only [spec_LocalOk_l10, show gl (n_impl_Service s) 1 = gl s 1 from rfl, lt_nat hi, idxOk_nat hi, Int.toNat_natCast, cond_true, spec_CheckOk_eq (c := n_laws_Check (rd (gl s 1) i)) (hs.rd hi), Option.bind_some, wr_succ hi hl, show checkB (n_laws_Check (rd (gl s 1) i)) = checkB (rd (gl s 1) i) from rfl]
    cases checkB (rd (gl s 1) i) with
    | false => rfl
    | true =>
      by_cases h0 : i = 0
      · subst h0; rfl
      · rw [decide_eq_true (p := (0 : Int) < (i : Int)) (by omega), wr_pred (by omega) (Nat.le_of_lt hi) hl, idxOk_nat (show i - 1 < (gl s 1).length by omega), Int.toNat_natCast, decide_eq_false (p := i = 0) h0]
        change _ = bif nlt _ _ then _ else _
        simp only [Bool.not_true, cond_false, cond_true]
        change (bif !(nlt _ _) then _ else _) = _
        cases nlt (gl (rd (gl s 1) (i - 1)) 0) (gl (rd (gl s 1) i) 0) <;> rfl
  · intro m; simp only [spec_LocalOk_l10, show gl (n_impl_Service s) 1 = gl s 1 from rfl, lt_self, cond_false]; rfl
theorem impl_checks_eq {s : V} (hs : LW W_Check (gl s 1)) (v18 : List V) (v19 v20 : Int) (l : V) : impl_LocalOk_l9 ((gl s 1).length + 1) v18 v19 v20 (gl s 1) (((gl s 1).length : Nat) : Int) 0 (n_impl_Local l) (n_impl_Service s) = bif checksB (gl s 1) then some (1, false, v18, v19, v20, n_impl_Local l) else some (0, false, v18, v19, v20, n_impl_Local l) := by
  have hl := hs.1
  refine all_loopI (F := fun m i => impl_LocalOk_l9 m v18 v19 v20 (gl s 1) (((gl s 1).length : Nat) : Int) i (n_impl_Local l) (n_impl_Service s)) (n := (gl s 1).length) (q := fun k => checkB (rd (gl s 1) k) && (decide (k = 0) || nlt (gl (rd (gl s 1) (k - 1)) 0) (gl (rd (gl s 1) k) 0))) (yes := some (1, false, v18, v19, v20, n_impl_Local l)) (no := some (0, false, v18, v19, v20, n_impl_Local l)) ?_ ?_
  · intro m i hi
    simp only [impl_LocalOk_l9, show gl (n_impl_Service s) 1 = gl s 1 from rfl, lt_nat hi, idxOk_nat hi, Int.toNat_natCast, cond_true, impl_CheckOk_eq (c := n_laws_Check (rd (gl s 1) i)) (hs.rd hi), Option.bind_some, wr_succ hi hl, show checkB (n_laws_Check (rd (gl s 1) i)) = checkB (rd (gl s 1) i) from rfl]
    cases checkB (rd (gl s 1) i) with
    | false => rfl
    | true =>
      by_cases h0 : i = 0
      · subst h0; rfl
      · rw [decide_eq_true (p := (0 : Int) < (i : Int)) (by omega), wr_pred (by omega) (Nat.le_of_lt hi) hl, idxOk_nat (show i - 1 < (gl s 1).length by omega), Int.toNat_natCast, decide_eq_false (p := i = 0) h0, cmpV_nonneg]
        simp only [Bool.not_true, cond_false, cond_true, Bool.true_and, Bool.false_or]
        cases nlt (gl (rd (gl s 1) (i - 1)) 0) (gl (rd (gl s 1) i) 0) <;> rfl
  · intro m; simp only [impl_LocalOk_l9, lt_self, cond_false]; rfl
theorem spec_LocalOk_eq {l : V} (hl : W_Local l) (hz : z_Local l ≤ 4194304) (hb : (gl l 0).length ≤ 1048576) (hn : ∀ x ∈ gl l 1, (gl x 0).length ≤ 1048576) : spec_LocalOk (n_impl_Local l) = some (localB l) := by
  have hS := hl.2.1
  unfold spec_LocalOk localB
  simp only [show gl (n_impl_Local l) 0 = gl l 0 from rfl, show gl (n_impl_Local l) 1 = gl l 1 from rfl, show n_impl_Local (n_impl_Local l) = n_impl_Local l from rfl]
  rw [spec_l14part_eq hl.1]
  cases partB (gl l 0) with
  | false => rfl
  | true =>
    by_cases h6 : (gl l 1).length ≤ 6
    · rw [decide_eq_true h6, decide_eq_false (p := (6 : Int) < (((gl l 1).length : Nat) : Int)) (by omega), fuel_eq,
        all_loopI (F := fun m i => spec_LocalOk_l4 m i (n_impl_Local l)) (n := (gl l 1).length) (q := fun i => servB (gl l 0) (rd (gl l 1) i) && (decide (i = 0) || nlt (gl (rd (gl l 1) (i - 1)) 0) (gl (rd (gl l 1) i) 0))) (yes := some (1, false)) (no := some (0, false)) ?_ ?_]
      · simp only [Option.bind_some, Bool.not_true, cond_false, Bool.true_and]
        cases (List.range (gl l 1).length).all fun i => servB (gl l 0) (rd (gl l 1) i) && (decide (i = 0) || nlt (gl (rd (gl l 1) (i - 1)) 0) (gl (rd (gl l 1) i) 0)) <;> rfl
      · intro m i hi
        have hw := hl.2.rd hi
        have hnm : (gl (rd (gl l 1) i) 0).length ≤ 1048576 := by rw [rd_eq hi]; exact hn _ (List.getElem_mem hi)
        simp only [spec_LocalOk_l4, show gl (n_impl_Local l) 0 = gl l 0 from rfl, show gl (n_impl_Local l) 1 = gl l 1 from rfl, show n_impl_Local (n_impl_Local l) = n_impl_Local l from rfl, lt_nat hi, idxOk_nat hi, Int.toNat_natCast, cond_true, spec_l14part_eq hw.1, keyV_eq hb hnm, spec_l2key_eq (svc_W hl.1 hw.1 hb hnm), Option.bind_some, show gl (n_impl_Service (rd (gl l 1) i)) 1 = gl (rd (gl l 1) i) 1 from rfl, fuel_eq, spec_checks_eq hw.2, servB]
        cases partB (gl (rd (gl l 1) i) 0) with
        | false => rfl
        | true =>
          cases keyB (svcL ++ gl l 0 ++ [V.int .u8 47] ++ gl (rd (gl l 1) i) 0) with
          | false => rfl
          | true =>
            by_cases h4 : (gl (rd (gl l 1) i) 1).length ≤ 4
            · rw [decide_eq_true h4, decide_eq_false (p := (4 : Int) < (((gl (rd (gl l 1) i) 1).length : Nat) : Int)) (by omega)]
              by_cases h0 : i = 0
              · subst h0
                simp only [Bool.not_true, cond_false, Bool.true_and, decide_true, Bool.true_or, Bool.and_true]
                rw [decide_eq_false (p := (0 : Int) < ((0 : Nat) : Int)) (by omega), cond_false]
                cases checksB (gl (rd (gl l 1) 0) 1) with
                | false => rfl
                | true => simp only [cond_true, Option.bind_some, Nat.beq, cond_false, wr_succ hi hS]; rfl
              · rw [decide_eq_true (p := (0 : Int) < (i : Int)) (by omega), wr_pred (by omega) (Nat.le_of_lt hi) hS, idxOk_nat (show i - 1 < (gl l 1).length by omega), Int.toNat_natCast, decide_eq_false (p := i = 0) h0]
                simp only [Bool.not_true, cond_false, cond_true, Bool.true_and, Bool.false_or]
                change (bif !(nlt _ _) then _ else _) = _
                cases nlt (gl (rd (gl l 1) (i - 1)) 0) (gl (rd (gl l 1) i) 0) with
                | false => simp
                | true =>
                  cases checksB (gl (rd (gl l 1) i) 1) with
                  | false => rfl
                  | true => simp only [cond_true, Option.bind_some, Nat.beq, cond_false, wr_succ hi hS, Bool.not_true, Bool.and_self]; rfl
            · rw [decide_eq_false h4, decide_eq_true (p := (4 : Int) < (((gl (rd (gl l 1) i) 1).length : Nat) : Int)) (by omega)]
              rfl
      · intro m; simp only [spec_LocalOk_l4, show gl (n_impl_Local l) 1 = gl l 1 from rfl, lt_self, cond_false]
    · rw [decide_eq_false h6, decide_eq_true (p := (6 : Int) < (((gl l 1).length : Nat) : Int)) (by omega)]
      rfl
theorem impl_LocalOk_eq {l : V} (hl : W_Local l) (hz : z_Local l ≤ 4194304) (hb : (gl l 0).length ≤ 1048576) (hn : ∀ x ∈ gl l 1, (gl x 0).length ≤ 1048576) : impl_LocalOk (n_impl_Local l) = some (localB l) := by
  have hS := hl.2.1
  unfold impl_LocalOk localB
  simp only [show gl (n_impl_Local l) 0 = gl l 0 from rfl, show gl (n_impl_Local l) 1 = gl l 1 from rfl, show n_impl_Local (n_impl_Local l) = n_impl_Local l from rfl]
  rw [impl_isPlain_eq hl.1]
  cases partB (gl l 0) with
  | false => rfl
  | true =>
    by_cases h6 : (gl l 1).length ≤ 6
    · rw [decide_eq_true h6, decide_eq_false (p := (6 : Int) < (((gl l 1).length : Nat) : Int)) (by omega), fuel_eq,
        all_loopI (F := fun m i => impl_LocalOk_l4 m (gl l 1) (((gl l 1).length : Nat) : Int) i (n_impl_Local l)) (n := (gl l 1).length) (q := fun i => servB (gl l 0) (rd (gl l 1) i) && (decide (i = 0) || nlt (gl (rd (gl l 1) (i - 1)) 0) (gl (rd (gl l 1) i) 0))) (yes := some (1, false)) (no := some (0, false)) ?_ ?_]
      · simp only [Option.bind_some, Bool.not_true, cond_false, Bool.true_and]
        cases (List.range (gl l 1).length).all fun i => servB (gl l 0) (rd (gl l 1) i) && (decide (i = 0) || nlt (gl (rd (gl l 1) (i - 1)) 0) (gl (rd (gl l 1) i) 0)) <;> rfl
      · intro m i hi
        have hw := hl.2.rd hi
        have hnm : (gl (rd (gl l 1) i) 0).length ≤ 1048576 := by rw [rd_eq hi]; exact hn _ (List.getElem_mem hi)
        simp only [impl_LocalOk_l4, show gl (n_impl_Local l) 1 = gl l 1 from rfl, show n_impl_Local (n_impl_Local l) = n_impl_Local l from rfl, lt_nat hi, idxOk_nat hi, Int.toNat_natCast, cond_true, impl_isPlain_eq hw.1, catalogKey_eq (l := n_impl_Local l) hb hnm, show gl (n_impl_Local l) 0 = gl l 0 from rfl, impl_KeyOk_eq (svc_W hl.1 hw.1 hb hnm), Option.bind_some, fuel_eq, impl_checks_eq hw.2, servB]
        cases partB (gl (rd (gl l 1) i) 0) with
        | false => rfl
        | true =>
          cases keyB (svcL ++ gl l 0 ++ [V.int .u8 47] ++ gl (rd (gl l 1) i) 0) with
          | false => rfl
          | true =>
            by_cases h4 : (gl (rd (gl l 1) i) 1).length ≤ 4
            · rw [decide_eq_true h4, decide_eq_false (p := (4 : Int) < (((gl (rd (gl l 1) i) 1).length : Nat) : Int)) (by omega)]
              by_cases h0 : i = 0
              · subst h0
                simp only [Bool.not_true, cond_false, Bool.true_and, decide_true, Bool.true_or, Bool.and_true]
                rw [decide_eq_false (p := (0 : Int) < ((0 : Nat) : Int)) (by omega), cond_false]
                cases checksB (gl (rd (gl l 1) 0) 1) with
                | false => rfl
                | true => simp only [cond_true, Option.bind_some, Nat.beq, cond_false, wr_succ hi hS]; rfl
              · rw [decide_eq_true (p := (0 : Int) < (i : Int)) (by omega), wr_pred (by omega) (Nat.le_of_lt hi) hS, idxOk_nat (show i - 1 < (gl l 1).length by omega), Int.toNat_natCast, decide_eq_false (p := i = 0) h0, cmpV_nonneg]
                simp only [Bool.not_true, cond_false, cond_true, Bool.true_and, Bool.false_or]
                cases nlt (gl (rd (gl l 1) (i - 1)) 0) (gl (rd (gl l 1) i) 0) with
                | false => simp
                | true =>
                  cases checksB (gl (rd (gl l 1) i) 1) with
                  | false => rfl
                  | true => simp only [cond_true, Option.bind_some, Nat.beq, cond_false, wr_succ hi hS, Bool.not_true, Bool.and_self]; rfl
            · rw [decide_eq_false h4, decide_eq_true (p := (4 : Int) < (((gl (rd (gl l 1) i) 1).length : Nat) : Int)) (by omega)]
              rfl
      · intro m; simp only [impl_LocalOk_l4, lt_self, cond_false]
    · rw [decide_eq_false h6, decide_eq_true (p := (6 : Int) < (((gl l 1).length : Nat) : Int)) (by omega)]
      rfl
end Go.Eng.R
open Go Go.Eng
namespace Go.Eng.R
theorem push_loop {ρ : Type} {F : Nat → List V → Int → ρ} {a : List V} {f : V → V} {out : List V → ρ}
    (h1 : ∀ m (i : Nat) r, i < a.length → r.length = i → F (m + 1) r (i : Int) = F m (r ++ [f (rd a i)]) ((i + 1 : Nat) : Int))
    (h0 : ∀ m r, F (m + 1) r (a.length : Int) = out r) : F (a.length + 1) [] 0 = out (a.map f) := by
  refine loop_run0 (F := F) (n := a.length) (fun i r => r = (a.take i).map f) (fun o => o = out (a.map f)) ?_ ?_ (by simp)
  · intro m i s hi hI
    subst hI
    refine .inl ⟨_, h1 m i _ hi (by simp; omega), ?_⟩
    rw [List.take_add_one, List.map_append]
    have : a[i]? = some (rd a i) := by simp [rd, List.getD, hi]
    rw [this]; rfl
  · intro m s hI
    rw [List.take_length] at hI
    rw [h0, hI]
def ownS (s : V) : V := V.agg [V.inl t_byte (gl s 0), V.inl t_impl_Check ((gl s 1).map n_laws_Check)]
def ownL (l : V) : V := V.agg [V.inl t_byte (gl l 0), V.inl t_impl_Service ((gl l 1).map ownS)]
theorem clone_eq {b : List V} (h : b.length ≤ 4194304) : slices_Clone_byte b = some b := by
  unfold slices_Clone_byte
  rw [roomy_of (by omega) (by omega)]; rfl
structure Sml (l : V) : Prop where
  w : W_Local l
  z : z_Local l ≤ 4194304
theorem zS_len {z : V → Nat} {l : List V} : l.length ≤ zS z l := by simp [zS]
theorem zS_mem {z : V → Nat} {l : List V} {x : V} (h : x ∈ l) : z x ≤ zS z l := by
  induction l with
  | nil => simp at h
  | cons y l ih =>
    simp only [zS, sumL, List.length_cons] at ih ⊢
    rcases List.mem_cons.1 h with rfl | h
    · omega
    · have := ih h; omega
theorem Sml.b {l : V} (h : Sml l) : (gl l 0).length ≤ 4194304 := by have := h.z; have := zS_len (z := z0) (l := gl l 0); simp only [z_Local] at *; omega
theorem Sml.n {l : V} (h : Sml l) : (gl l 1).length ≤ 4194304 := by have := h.z; have := zS_len (z := z_Service) (l := gl l 1); simp only [z_Local] at *; omega
theorem Sml.s {l : V} (h : Sml l) {x : V} (hx : x ∈ gl l 1) : (gl x 0).length ≤ 4194304 ∧ (gl x 1).length ≤ 4194304 ∧ ∀ c ∈ gl x 1, (gl c 0).length ≤ 4194304 := by
  have h1 := h.z
  have h2 := zS_mem (z := z_Service) hx
  have h3 := zS_len (z := z0) (l := gl x 0)
  have h4 := zS_len (z := z_Check) (l := gl x 1)
  simp only [z_Local, z_Service] at *
  refine ⟨by omega, by omega, fun c hc => ?_⟩
  have h5 := zS_mem (z := z_Check) hc
  have h6 := zS_len (z := z0) (l := gl c 0)
  simp only [z_Check] at *
  omega
theorem spec_l14own_eq {l : V} (h : Sml l) : spec_l14own (n_impl_Local l) = some (ownL l) := by
  have hn := h.n
  have hb := h.b
  unfold spec_l14own
  simp only [show gl (n_impl_Local l) 0 = gl l 0 from rfl, show gl (n_impl_Local l) 1 = gl l 1 from rfl, show n_impl_Local (n_impl_Local l) = n_impl_Local l from rfl, Nat.zero_add, fuel_eq]
  rw [roomy_of (by omega) (by omega), Bool.and_self, cond_true,
    push_loop (F := fun m r i => spec_l14own_l3 m i (n_impl_Local l) [] [] (gl l 0) r) (a := gl l 1) (f := ownS) (out := fun r => some ([], [], gl l 0, r)) ?_ ?_]
  · rfl
  · intro m i r hi hr
    obtain ⟨s1, s2, s3⟩ := h.s (x := rd (gl l 1) i) (by rw [rd_eq hi]; exact List.getElem_mem hi)
    simp only [spec_l14own_l3, show gl (n_impl_Local l) 1 = gl l 1 from rfl, show n_impl_Local (n_impl_Local l) = n_impl_Local l from rfl, lt_nat hi, idxOk_nat hi, Int.toNat_natCast, cond_true, Nat.zero_add]
    rw [roomy_of (by omega) (by omega), Bool.and_self, cond_true, show ((((gl (rd (gl l 1) i) 1).length : Int) - 0).toNat + 1) = (gl (rd (gl l 1) i) 1).length + 1 from by omega,
      push_loop (F := fun m q k => spec_l14own_l7 m (i : Int) k (n_impl_Local l) [] [] (gl l 0) r (gl (rd (gl l 1) i) 0) q) (a := gl (rd (gl l 1) i) 1) (f := n_laws_Check) (out := fun q => some ((i : Int), n_impl_Local l, [], [], gl l 0, r, gl (rd (gl l 1) i) 0, q)) ?_ ?_]
    · simp only [Option.bind_some]
      rw [roomy_of (by rw [hr]; omega) (by rw [hr]; omega), Bool.and_self, cond_true, wr_succ hi (by omega)]
      rfl
    · intro m k q hk hq
      have hc := s3 (rd (gl (rd (gl l 1) i) 1) k) (by rw [rd_eq hk]; exact List.getElem_mem hk)
      simp only [spec_l14own_l7, show gl (n_impl_Local l) 1 = gl l 1 from rfl, show n_impl_Local (n_impl_Local l) = n_impl_Local l from rfl, idxOk_nat hi, Int.toNat_natCast, lt_nat hk, idxOk_nat hk, cond_true, spec_l13own, Nat.zero_add]
      rw [show gl (n_laws_Check (rd (gl (rd (gl l 1) i) 1) k)) 0 = gl (rd (gl (rd (gl l 1) i) 1) k) 0 from rfl, roomy_of (by omega) (by omega), Bool.and_self, cond_true]
      simp only [Option.bind_some]
      rw [roomy_of (by rw [hq]; omega) (by rw [hq]; omega), Bool.and_self, cond_true, wr_succ hk (by omega)]
      rfl
    · intro m q
      simp only [spec_l14own_l7, show gl (n_impl_Local l) 1 = gl l 1 from rfl, idxOk_nat hi, Int.toNat_natCast, lt_self, cond_true, cond_false]
      rfl
  · intro m r
    simp only [spec_l14own_l3, show gl (n_impl_Local l) 1 = gl l 1 from rfl, lt_self, cond_false]
theorem impl_own_eq {l : V} (h : Sml l) : impl_Local_own (n_impl_Local l) = some (ownL l) := by
  have hn := h.n
  have hb := h.b
  unfold impl_Local_own
  simp only [show gl (n_impl_Local l) 0 = gl l 0 from rfl, show gl (n_impl_Local l) 1 = gl l 1 from rfl, fuel_eq, clone_eq hb, Option.bind_some]
  rw [push_loop (F := fun m r i => impl_Local_own_l3 m (gl l 1) (((gl l 1).length : Nat) : Int) i [] [] (gl l 0) r) (a := gl l 1) (f := ownS) (out := fun r => some ([], [], gl l 0, r)) ?_ ?_]
  · rfl
  · intro m i r hi hr
    obtain ⟨s1, s2, s3⟩ := h.s (x := rd (gl l 1) i) (by rw [rd_eq hi]; exact List.getElem_mem hi)
    simp only [impl_Local_own_l3, lt_nat hi, idxOk_nat hi, Int.toNat_natCast, cond_true, clone_eq s1, Option.bind_some, fuel_eq]
    rw [push_loop (F := fun m q k => impl_Local_own_l7 m (gl l 1) (((gl l 1).length : Nat) : Int) (i : Int) (gl (rd (gl l 1) i) 1) (((gl (rd (gl l 1) i) 1).length : Nat) : Int) k [] [] (gl l 0) r (gl (rd (gl l 1) i) 0) q) (a := gl (rd (gl l 1) i) 1) (f := n_laws_Check) (out := fun q => some (gl l 1, (((gl l 1).length : Nat) : Int), (i : Int), [], [], gl l 0, r, gl (rd (gl l 1) i) 0, q)) ?_ ?_]
    · simp only [Option.bind_some]
      rw [roomy_of (by rw [hr]; omega) (by rw [hr]; omega), Bool.and_self, cond_true, wr_succ hi (by omega)]
      rfl
    · intro m k q hk hq
      have hc := s3 (rd (gl (rd (gl l 1) i) 1) k) (by rw [rd_eq hk]; exact List.getElem_mem hk)
      simp only [impl_Local_own_l7, lt_nat hk, idxOk_nat hk, Int.toNat_natCast, cond_true, impl_Check_own]
      rw [show gl (n_laws_Check (rd (gl (rd (gl l 1) i) 1) k)) 0 = gl (rd (gl (rd (gl l 1) i) 1) k) 0 from rfl, clone_eq hc]
      simp only [Option.bind_some]
      rw [roomy_of (by rw [hq]; omega) (by rw [hq]; omega), Bool.and_self, cond_true, wr_succ hk (by omega)]
      rfl
    · intro m q
      simp only [impl_Local_own_l7, lt_self, cond_false]
  · intro m r
    simp only [impl_Local_own_l3, lt_self, cond_false]
theorem rd_map {f : V → V} {l : List V} {i : Nat} (h : i < l.length) : rd (l.map f) i = f (rd l i) := by simp [rd, List.getD, h]
theorem range_all_congr {n : Nat} {p q : Nat → Bool} (h : ∀ i, i < n → p i = q i) : (List.range n).all p = (List.range n).all q := by
  rw [Bool.eq_iff_iff, List.all_eq_true, List.all_eq_true]
  constructor
  · intro k i hi; rw [← h i (List.mem_range.1 hi)]; exact k i hi
  · intro k i hi; rw [h i (List.mem_range.1 hi)]; exact k i hi
theorem checksB_own (cs : List V) : checksB (cs.map n_laws_Check) = checksB cs := by
  unfold checksB
  rw [List.length_map]
  refine range_all_congr fun i hi => ?_
  rw [rd_map hi]
  by_cases h0 : i = 0
  · subst h0; rfl
  · rw [rd_map (show i - 1 < cs.length by omega)]; rfl
theorem servB_own (node : List V) (s : V) : servB node (ownS s) = servB node s := by
  unfold servB
  rw [show gl (ownS s) 0 = gl s 0 from rfl, show gl (ownS s) 1 = (gl s 1).map n_laws_Check from rfl, checksB_own, List.length_map]
theorem localB_own (l : V) : localB (ownL l) = localB l := by
  unfold localB
  rw [show gl (ownL l) 0 = gl l 0 from rfl, show gl (ownL l) 1 = (gl l 1).map ownS from rfl, List.length_map]
  congr 2
  refine range_all_congr fun i hi => ?_
  rw [rd_map hi, servB_own]
  by_cases h0 : i = 0
  · subst h0; rfl
  · rw [rd_map (show i - 1 < (gl l 1).length by omega)]; rfl
theorem ownS_W {s : V} (h : W_Service s) : W_Service (ownS s) := ⟨h.1, LW.map (h := n_laws_Check) (fun x hx => hx) h.2⟩
theorem ownS_z (s : V) : z_Service (ownS s) = z_Service s := by
  simp only [z_Service, show gl (ownS s) 0 = gl s 0 from rfl, show gl (ownS s) 1 = (gl s 1).map n_laws_Check from rfl]
  rw [zS_map (f := z_Check) (g := z_Check) (h := n_laws_Check) (fun x => rfl)]
theorem ownL_W {l : V} (h : W_Local l) : W_Local (ownL l) := ⟨h.1, LW.map (h := ownS) (fun x hx => ownS_W hx) h.2⟩
theorem ownL_z (l : V) : z_Local (ownL l) = z_Local l := by
  simp only [z_Local, show gl (ownL l) 0 = gl l 0 from rfl, show gl (ownL l) 1 = (gl l 1).map ownS from rfl]
  rw [zS_map (f := z_Service) (g := z_Service) (h := ownS) ownS_z]
theorem Sml.own {l : V} (h : Sml l) : Sml (ownL l) := ⟨ownL_W h.w, by rw [ownL_z]; exact h.z⟩
theorem localB_asc {l : V} (h : localB l = true) : AscN (fun s => gl s 0) (gl l 1) := by
  intro i hi
  simp only [localB, Bool.and_eq_true, List.all_eq_true] at h
  have := (h.2.2 (i + 1) (List.mem_range.2 hi)).2
  simpa using this
theorem lbN_map {l : List V} (t : List V) : lbN (fun s => gl s 0) (l.map ownS) t = lbN (fun s => gl s 0) l t := by
  unfold lbN
  rw [List.takeWhile_map, List.length_map]
  rfl
theorem hasN_map {l : List V} (t : List V) : hasN (fun s => gl s 0) (l.map ownS) t = hasN (fun s => gl s 0) l t := by
  unfold hasN
  rw [lbN_map, List.length_map]
  by_cases h : lbN (fun s => gl s 0) l t < l.length
  · rw [rd_map h]; rfl
  · rw [decide_eq_false h]; rfl
theorem spec_find_eq {l : V} (h : Sml l) (ha : AscN (fun s => gl s 0) (gl l 1)) (t : List V) : spec_l14find (n_impl_Local l) t = some (bif hasN (fun s => gl s 0) (gl l 1) t then ((lbN (fun s => gl s 0) (gl l 1) t : Nat) : Int) else -1) := by
  have hn := h.n
  unfold spec_l14find
  simp only [show gl (n_impl_Local l) 1 = gl l 1 from rfl, show n_impl_Local (n_impl_Local l) = n_impl_Local l from rfl, fuel_eq]
  rw [show (0 : Int) = ((0 : Nat) : Int) from rfl, find_loop (F := fun m i => spec_l14find_l2 m t i (n_impl_Local l)) (n := (gl l 1).length) (q := fun i => neq (gl (rd (gl l 1) i) 0) t) (out := fun j => some (0, j)) (no := some (1, 0)) ?_ ?_ ((gl l 1).length + 1) 0 (by omega) (by omega)]
  · rw [Nat.sub_zero, find_asc (nm := fun s => gl s 0) ha]
    cases hasN (fun s => gl s 0) (gl l 1) t <;> rfl
  · intro m i hi
    simp only [spec_l14find_l2, show gl (n_impl_Local l) 1 = gl l 1 from rfl, show n_impl_Local (n_impl_Local l) = n_impl_Local l from rfl, lt_nat hi, idxOk_nat hi, Int.toNat_natCast, cond_true, wr_succ hi (show (gl l 1).length ≤ 9223372036854775807 by omega)]
    rfl
  · intro m; simp only [spec_l14find_l2, show gl (n_impl_Local l) 1 = gl l 1 from rfl, lt_self, cond_false]
theorem bs_eq {S : List V} (hS : S.length ≤ 4194304) (ha : AscN (fun s => gl s 0) S) (t : List V) : slices_BinarySearchFunc_byte S t = some (((lbN (fun s => gl s 0) S t : Nat) : Int), hasN (fun s => gl s 0) S t) := by
  unfold slices_BinarySearchFunc_byte
  have hle := lbN_le (fun s => gl s 0) S t
  rw [fuel_eq, show (0 : Int) = ((0 : Nat) : Int) from rfl, bs_loop (F := fun m i j => slices_BinarySearchFunc_byte_l3 m S t ((S.length : Nat) : Int) i j) (x := S) (p := fun s => nlt (gl s 0) t) (n0 := lbN (fun s => gl s 0) S t) (out := fun i => some (S, t, ((S.length : Nat) : Int), i)) (by omega) (lbN_spec ha t) ?_ ?_ (S.length + 1) 0 S.length (by omega) hle (by omega) (by omega)]
  · simp only [Option.bind_some]
    unfold hasN
    by_cases hc : lbN (fun s => gl s 0) S t < S.length
    · rw [lt_nat hc, cond_true, idxOk_nat hc, cond_true, Int.toNat_natCast, decide_eq_true hc, Bool.true_and]
      congr 2
      exact cmpV_zero' _ _
    · rw [decide_eq_false (p := ((lbN (fun s => gl s 0) S t : Nat) : Int) < ((S.length : Nat) : Int)) (by omega), decide_eq_false hc]
      rfl
  · intro m i j hij hj
    have hw := wr_mid (i := i) (j := j) (by omega)
    simp only [slices_BinarySearchFunc_byte_l3, hw]
    rw [lt_nat hij, cond_true, idxOk_nat (show (i + j) / 2 < S.length by omega), cond_true, Int.toNat_natCast, wr_succ (n := S.length) (show (i + j) / 2 < S.length by omega) (by omega)]
    rw [show decide (impl_Local_service_1 (n_impl_Service (rd S ((i + j) / 2))) t < 0) = nlt (gl (rd S ((i + j) / 2)) 0) t from cmpV_neg _ _]
  · intro m i; simp only [slices_BinarySearchFunc_byte_l3, lt_self, cond_false]
end Go.Eng.R
open Go Go.Eng
namespace Go.Eng.R
structure Nm (l : V) : Prop where
  b : (gl l 0).length ≤ 1048576
  s : ∀ x ∈ gl l 1, (gl x 0).length ≤ 1048576
theorem nm_of {l : V} (hz : z_Local l ≤ 1048576) : Nm l := by
  refine ⟨?_, fun x hx => ?_⟩
  · have := zS_len (z := z0) (l := gl l 0); simp only [z_Local] at *; omega
  · have h2 := zS_mem (z := z_Service) hx
    have h3 := zS_len (z := z0) (l := gl x 0)
    simp only [z_Local, z_Service] at *
    omega
def zeroL : V := V.agg [V.inl t_byte [], V.inl t_impl_Service []]
def putS (l : V) (D : List V) : V := V.agg [V.inl t_byte (gl l 0), V.inl t_impl_Service D]
theorem spec_ok {l : V} (h : Sml l) (hn : Nm l) : spec_LocalOk (n_impl_Local l) = some (localB l) := spec_LocalOk_eq h.w h.z hn.b hn.s
theorem impl_ok {l : V} (h : Sml l) (hn : Nm l) : impl_LocalOk (n_impl_Local l) = some (localB l) := impl_LocalOk_eq h.w h.z hn.b hn.s
theorem Nm.own {l : V} (h : Nm l) : Nm (ownL l) := ⟨h.b, fun x hx => by
  obtain ⟨y, hy, rfl⟩ := List.mem_map.1 (show x ∈ (gl l 1).map ownS from hx)
  exact h.s y hy⟩
theorem done_eq {l : V} (h : Sml l) {D : List V} (hD : Sml (putS l D)) (hN : Nm (putS l D)) :
    spec_l14done (n_impl_Local l) (putS l D) = some (bif localB (putS l D) then (ownL (putS l D), true) else (ownL l, false)) := by
  unfold spec_l14done
  rw [spec_ok hD hN]
  simp only [Option.bind_some]
  cases localB (putS l D) with
  | false =>
    simp only [Bool.not_false, cond_true, cond_false]
    rw [show n_impl_Local (n_impl_Local l) = n_impl_Local l from rfl, spec_l14own_eq h]
    rfl
  | true =>
    simp only [Bool.not_true, cond_true, cond_false]
    rw [spec_l14own_eq hD]
    rfl
theorem zS_append' (z : V → Nat) (a b : List V) : zS z (a ++ b) = zS z a + zS z b := by simp [zS, sumL_append]; omega
theorem zS_take (z : V → Nat) (l : List V) (i : Nat) : zS z (l.take i) + zS z (l.drop i) = zS z l := by
  rw [← zS_append', List.take_append_drop]
theorem zS_drop_le (z : V → Nat) (l : List V) (i : Nat) : zS z (l.drop i) ≤ zS z l := by have := zS_take z l i; omega
theorem hasN_lt {nm : V → List V} {l : List V} {t : List V} (h : hasN nm l t = true) : lbN nm l t < l.length := by
  simp only [hasN, Bool.and_eq_true, decide_eq_true_eq] at h; exact h.1
theorem dropS {l : V} (hl : W_Local l) (hz : z_Local l ≤ 1048576) (i j : Nat) (hij : i ≤ j) : Sml (putS l ((gl l 1).take i ++ (gl l 1).drop j)) ∧ Nm (putS l ((gl l 1).take i ++ (gl l 1).drop j)) ∧ z_Local (putS l ((gl l 1).take i ++ (gl l 1).drop j)) ≤ z_Local l := by
  have hmem : ∀ x ∈ (gl l 1).take i ++ (gl l 1).drop j, x ∈ gl l 1 := fun x hx => by
    rcases List.mem_append.1 hx with hx | hx
    · exact List.mem_of_mem_take hx
    · exact List.mem_of_mem_drop hx
  have hlz : z_Local (putS l ((gl l 1).take i ++ (gl l 1).drop j)) ≤ z_Local l := by
    have h1 := zS_take z_Service (gl l 1) i
    have h2 := zS_drop_le z_Service ((gl l 1).drop i) (j - i)
    rw [List.drop_drop, show i + (j - i) = j from by omega] at h2
    show zS z0 (gl l 0) + zS z_Service ((gl l 1).take i ++ (gl l 1).drop j) ≤ zS z0 (gl l 0) + zS z_Service (gl l 1)
    rw [zS_append']; omega
  have hll := hl.2.1
  exact ⟨⟨⟨hl.1, ⟨by show ((gl l 1).take i ++ (gl l 1).drop j).length ≤ _; simp; omega, fun x hx => hl.2.2 x (hmem x hx)⟩⟩, by omega⟩, ⟨(nm_of hz).b, fun x hx => (nm_of hz).s x (hmem x hx)⟩, hlz⟩
def doneP (l : V) (D : List V) : V × Bool := bif localB (putS l D) then (ownL (putS l D), true) else (ownL l, false)
end Go.Eng.R
open Go Go.Eng
namespace Go.Eng.R
def newS (nm : List V) : V := V.agg [V.inl t_byte nm, V.inl t_impl_Check []]
theorem ownS_new (nm : List V) : ownS (newS nm) = newS nm := rfl
theorem while_loop {ρ : Type} {F : Nat → Int → ρ} {n n0 : Nat} {p : Nat → Bool} {out : Int → ρ} (hp : ∀ i, i < n → p i = decide (i < n0)) (hn : n0 ≤ n)
    (h1 : ∀ m (i : Nat), i < n → F (m + 1) (i : Int) = bif p i then F m ((i + 1 : Nat) : Int) else out (i : Int)) (h0 : ∀ m, F (m + 1) (n : Int) = out (n : Int)) :
    ∀ m (i : Nat), i ≤ n0 → n - i < m → F m (i : Int) = out (n0 : Int)
  | 0, i, _, h => by omega
  | m + 1, i, hi, hm => by
    rcases Nat.lt_or_ge i n with h | h
    · rw [h1 m i h, hp i h]
      by_cases hc : i < n0
      · rw [decide_eq_true hc, cond_true]; exact while_loop hp hn h1 h0 m (i + 1) (by omega) (by omega)
      · rw [decide_eq_false hc, cond_false, show i = n0 from by omega]
    · obtain rfl : i = n := by omega
      rw [h0, show i = n0 from by omega]
theorem addS {l : V} {nm : List V} (hl : W_Local l) (hz : z_Local l ≤ 1048576) (hm : LW W_byte nm) (hlen : nm.length ≤ 1048576) (k : Nat) : Sml (putS l ((gl l 1).take k ++ [newS nm] ++ (gl l 1).drop k)) ∧ Nm (putS l ((gl l 1).take k ++ [newS nm] ++ (gl l 1).drop k)) ∧ z_Local (putS l ((gl l 1).take k ++ [newS nm] ++ (gl l 1).drop k)) ≤ 2097153 := by
  have hmem : ∀ x ∈ (gl l 1).take k ++ [newS nm] ++ (gl l 1).drop k, x ∈ gl l 1 ∨ x = newS nm := fun x hx => by
    rcases List.mem_append.1 hx with hx | hx
    · rcases List.mem_append.1 hx with hx | hx
      · exact .inl (List.mem_of_mem_take hx)
      · exact .inr (by simpa using hx)
    · exact .inl (List.mem_of_mem_drop hx)
  have hns : z_Service (newS nm) = nm.length := by
    show zS z0 nm + zS z_Check [] = _
    rw [zS_z0]; rfl
  have hlz : z_Local (putS l ((gl l 1).take k ++ [newS nm] ++ (gl l 1).drop k)) ≤ 2097153 := by
    have h1 := zS_take z_Service (gl l 1) k
    have h3 : z_Local l = zS z0 (gl l 0) + zS z_Service (gl l 1) := rfl
    show zS z0 (gl l 0) + zS z_Service ((gl l 1).take k ++ [newS nm] ++ (gl l 1).drop k) ≤ _
    rw [zS_append', zS_append']
    have : zS z_Service [newS nm] = 1 + nm.length := by simp [zS, sumL, hns]
    omega
  have hll := hl.2.1
  have hcnt : (gl l 1).length ≤ 1048576 := by have := zS_len (z := z_Service) (l := gl l 1); simp only [z_Local] at *; omega
  refine ⟨⟨⟨hl.1, ⟨by show ((gl l 1).take k ++ [newS nm] ++ (gl l 1).drop k).length ≤ _; simp; omega, fun x hx => ?_⟩⟩, by omega⟩, ⟨(nm_of hz).b, fun x hx => ?_⟩, hlz⟩
  · rcases hmem x hx with h | rfl
    · exact hl.2.2 x h
    · exact ⟨hm, LW.nil⟩
  · rcases hmem x hx with h | rfl
    · exact (nm_of hz).s x h
    · exact hlen
theorem add_eq {l : V} {nm : List V} (hl : W_Local l) (hz : z_Local l ≤ 1048576) (hm : LW W_byte nm) (hlen : nm.length ≤ 1048576) :
    ∃ g b, impl_LocalAdd (n_impl_Local l) nm = some (g, b) ∧ spec_LocalAdd (n_impl_Local l) nm = some (g, b) ∧ W_Local g ∧ z_Local g ≤ 2097153 ∧ n_impl_Local g = g := by
  have hS : Sml l := ⟨hl, by omega⟩
  have hN := nm_of hz
  unfold impl_LocalAdd impl_changed_v1 spec_LocalAdd
  simp only [show n_impl_Local (n_impl_Local l) = n_impl_Local l from rfl, impl_ok hS hN, spec_ok hS hN, Option.bind_some, show gl (n_impl_Local l) 1 = gl l 1 from rfl]
  cases hb : localB l with
  | false => exact ⟨zeroL, false, rfl, rfl, ⟨LW.nil, LW.nil⟩, by decide, rfl⟩
  | true =>
    have ha := localB_asc hb
    have ha' := localB_asc (show localB (ownL l) = true by rw [localB_own]; exact hb)
    simp only [Bool.not_true, cond_false, impl_own_eq hS, Option.bind_some, show n_impl_Local (ownL l) = ownL l from rfl, spec_find_eq hS ha]
    unfold impl_LocalAdd_1 impl_Local_service
    simp only [show n_impl_Local (ownL l) = ownL l from rfl, gl_c0]
    have hbs := bs_eq (S := gl (ownL l) 1) (by rw [show gl (ownL l) 1 = (gl l 1).map ownS from rfl, List.length_map]; exact hS.n) ha' nm
    rw [show lbN (fun s => gl s 0) (gl (ownL l) 1) nm = lbN (fun s => gl s 0) (gl l 1) nm from lbN_map nm, show hasN (fun s => gl s 0) (gl (ownL l) 1) nm = hasN (fun s => gl s 0) (gl l 1) nm from hasN_map nm] at hbs
    rw [hbs]
    simp only [Option.bind_some]
    cases hh : hasN (fun s => gl s 0) (gl l 1) nm with
    | true =>
      refine ⟨ownL l, false, ?_, ?_, ownL_W hl, by rw [ownL_z]; omega, rfl⟩
      · simp only [cond_true, cond_false, Option.bind_some, Bool.not_true, Bool.not_false]; rfl
      · simp only [cond_true]
        rw [decide_eq_true (p := (0 : Int) ≤ ((lbN (fun s => gl s 0) (gl l 1) nm : Nat) : Int)) (by omega)]
        simp only [cond_true, spec_l14own_eq hS, Option.bind_some]; rfl
    | false =>
      have hle := lbN_le (fun s => gl s 0) (gl l 1) nm
      have hsp := lbN_spec ha nm
      obtain ⟨k, hkk⟩ : ∃ k, k = lbN (fun s => gl s 0) (gl l 1) nm := ⟨_, rfl⟩
      rw [← hkk] at hle hsp ⊢
      obtain ⟨d1, d2, d3⟩ := addS hl hz hm hlen k
      have hlen' := hS.n
      have hins : insV 48 ((gl l 1).map ownS) (k : Int) [newS nm] = some (((gl l 1).take k ++ [newS nm] ++ (gl l 1).drop k).map ownS) := by
        unfold insV
        rw [decide_eq_true (p := (0 : Int) ≤ (k : Int)) (by omega), decide_eq_true (p := (k : Int) ≤ ((((gl l 1).map ownS).length : Nat) : Int)) (by simp; omega), roomy_of (by simp; omega) (by simp; omega)]
        simp only [Bool.and_self, cond_true, Int.toNat_natCast, List.map_append, List.map_take, List.map_drop, List.length_singleton, decide_true, List.map_cons, List.map_nil, ownS_new]
      have hd := done_eq hS d1 d2
      have himp := impl_ok d1.own d2.own
      rw [localB_own] at himp
      simp only [Bool.not_false, cond_true, cond_false, clone_eq (b := nm) (by omega), show gl (ownL l) 1 = (gl l 1).map ownS from rfl, show V.agg [V.inl t_byte nm, V.inl t_impl_Check []] = newS nm from rfl, hins, Option.bind_some, Bool.not_true]
      rw [show n_impl_Local (V.agg [V.inl t_byte (gl (ownL l) 0), V.inl t_impl_Service (((gl l 1).take k ++ [newS nm] ++ (gl l 1).drop k).map ownS)]) = n_impl_Local (ownL (putS l ((gl l 1).take k ++ [newS nm] ++ (gl l 1).drop k))) from rfl, himp]
      rw [decide_eq_false (p := (0 : Int) ≤ (-1 : Int)) (by omega), cond_false, fuel_eq, show (0 : Int) = ((0 : Nat) : Int) from rfl,
        while_loop (F := fun m i => spec_LocalAdd_l6 m nm i (n_impl_Local l) [] []) (n := (gl l 1).length) (n0 := k) (p := fun i => nlt (gl (rd (gl l 1) i) 0) nm) (out := fun i => some (nm, i, n_impl_Local l, [], [])) hsp hle ?_ ?_ ((gl l 1).length + 1) 0 (by omega) (by omega)]
      · simp only [Option.bind_some, show gl (n_impl_Local l) 1 = gl l 1 from rfl, show gl (n_impl_Local l) 0 = gl l 0 from rfl, show V.agg [V.inl t_byte nm, V.inl t_impl_Check []] = newS nm from rfl, show n_impl_Local (n_impl_Local l) = n_impl_Local l from rfl]
        rw [decide_eq_true (p := ((0 : Nat) : Int) ≤ (k : Int)) (by omega), decide_eq_true (p := (k : Int) ≤ (((gl l 1).length : Nat) : Int)) (by omega)]
        simp only [Bool.and_self, cond_true, Int.toNat_natCast, Nat.zero_add, Bool.and_true]
        rw [roomy_of (n := ((gl l 1).take k).length) (by simp; omega) (by simp; omega), roomy_of (n := ((gl l 1).take k).length + 1) (by simp; omega) (by simp; omega), roomy_of (n := ((gl l 1).take k ++ [newS nm]).length + ((gl l 1).drop k).length) (by simp; omega) (by simp; omega)]
        simp only [cond_true]
        rw [show (V.agg [(V.inl t_byte (gl l 0)), (V.inl t_impl_Service ((gl l 1).take k ++ [newS nm] ++ (gl l 1).drop k))]) = putS l ((gl l 1).take k ++ [newS nm] ++ (gl l 1).drop k) from rfl, hd]
        simp only [Option.bind_some]
        cases localB (putS l ((gl l 1).take k ++ [newS nm] ++ (gl l 1).drop k)) with
        | false => exact ⟨ownL l, false, rfl, rfl, ownL_W hl, by rw [ownL_z]; omega, rfl⟩
        | true => exact ⟨ownL (putS l ((gl l 1).take k ++ [newS nm] ++ (gl l 1).drop k)), true, rfl, rfl, ownL_W d1.w, by rw [ownL_z]; omega, rfl⟩
      · intro m i hi
        simp only [spec_LocalAdd_l6, show gl (n_impl_Local l) 1 = gl l 1 from rfl, lt_nat hi, idxOk_nat hi, Int.toNat_natCast, cond_true, wr_succ hi (Nat.le_of_lt (by omega))]
        rfl
      · intro m; simp only [spec_LocalAdd_l6, show gl (n_impl_Local l) 1 = gl l 1 from rfl, lt_self, cond_false]; rfl
end Go.Eng.R
open Go Go.Eng
namespace Go.Eng.R
theorem law_LocalAdd {n : V} (hn : W_Local n) {nm : List V} (hm : LW W_byte nm) : laws_FnExactLocalAdd n nm = some true := by
  unfold laws_FnExactLocalAdd
  by_cases hlen : nm.length ≤ 1048576
  case neg => rw [decide_eq_true (p := (1048576 : Int) < ((nm.length : Nat) : Int)) (by omega)]; rfl
  rw [decide_eq_false (p := (1048576 : Int) < ((nm.length : Nat) : Int)) (by omega), cond_false]
  obtain ⟨r, e, hr⟩ := laws_szLocal_ok (n_laws_Local n) 1048576 hn (by omega) (by omega)
  simp only [e, Option.bind_some]
  rcases hr with hr | ⟨r0, r1, hz⟩
  · rw [decide_eq_true hr]; rfl
  rw [decide_eq_false (p := r < 0) (by omega)]
  have hz : r + ((z_Local n : Nat) : Int) = 1048576 := hz
  have hto : laws_toLocal (n_laws_Local n) = some (cnv_Local n) := laws_toLocal_ok (n_laws_Local n) hn (by show z_Local n ≤ _; omega)
  have hmz : zS z0 nm ≤ 1048576 := by rw [zS_z0]; exact hlen
  have htn : laws_toByteS nm = some (nm.map cnv_byte) := laws_toByteS_ok nm hm hmz
  obtain ⟨nm', hnm'⟩ : ∃ q, q = nm.map cnv_byte := ⟨_, rfl⟩
  have hm' : LW W_byte nm' := by subst hnm'; exact LW.map (h := cnv_byte) cnv_byte_W hm
  have hl' : nm'.length ≤ 1048576 := by subst hnm'; rw [List.length_map]; exact hlen
  rw [← hnm'] at htn
  have hy : W_Local (cnv_Local n) := cnv_Local_W n hn
  have hyz : z_Local (cnv_Local n) ≤ 1048576 := by rw [cnv_Local_z]; omega
  obtain ⟨g, b, g1, g2, g3, g4, g5⟩ := add_eq (l := cnv_Local n) (nm := nm') hy hyz hm' hl'
  have hct := ct_Local_cz (cnv_Local n)
  have hcg := ct_Local_cz g
  obtain ⟨b0, b1, f1, -⟩ := laws_markLocal_ok (n_impl_Local (cnv_Local n)) 1 hy (by omega) (by show (1 : Int) + ((ct_Local (cnv_Local n) : Nat) : Int) ≤ _; omega)
  simp only [show ct_Local (n_impl_Local (cnv_Local n)) = ct_Local (cnv_Local n) from rfl] at f1
  have hc1 : sumL c1 nm' = nm'.length := sumL_c1 nm'
  obtain ⟨b2, f2, -⟩ := laws_markByteS_ok nm' (1 + ((ct_Local (cnv_Local n) : Nat) : Int)) hm' (by omega) (by rw [hc1]; omega)
  obtain ⟨d0, d1, f3, q0, s0, q1, s1⟩ := laws_markLocal_ok (n_impl_Local g) 1 g3 (by omega) (by show (1 : Int) + ((ct_Local g : Nat) : Int) ≤ _; omega)
  simp only [show ct_Local (n_impl_Local g) = ct_Local g from rfl] at f3
  have s0 : sumL c1 d0 = sumL c1 (gl g 0) := s0
  have s1 : sumL c_Service d1 = sumL c_Service (gl g 1) := s1
  have q1 : MS c_Service M_Service d1 (1 + ((sumL c1 (gl g 0) : Nat) : Int)) := q1
  have hc : ct_Local (V.agg [(V.inl t_byte d0), (V.inl t_impl_Service d1)]) = ct_Local g := by
    show sumL c1 d0 + sumL c_Service d1 = sumL c1 (gl g 0) + sumL c_Service (gl g 1)
    rw [s0, s1]
  have hh := laws_heldLocal_ok (V.agg [(V.inl t_byte d0), (V.inl t_impl_Service d1)]) 1 q0 (by
    show MS c_Service M_Service d1 (1 + ((sumL c1 d0 : Nat) : Int))
    rw [s0]; exact q1) (by omega) (by rw [hc]; omega)
  rw [hc] at hh
  have eq1 := laws_eqLocal_ok (n_impl_Local g) g3
  have eq2 := laws_eqLocal_ok (n_impl_Local (cnv_Local n)) hy
  have eq3 := laws_eqByteS_ok nm' hm'
  simp only [hto, htn, g1, g2, eq1, eq2, eq3, f1, f2, f3, hh, Option.bind_some, cond_false, Bool.not_true, beq_self_eq_true]
  rw [decide_eq_false (p := (1 : Int) + ((ct_Local (cnv_Local n) : Nat) : Int) + ((sumL c1 nm' : Nat) : Int) < 0) (by omega), decide_eq_false (p := (1 : Int) + ((ct_Local g : Nat) : Int) < 0) (by omega)]
  simp
end Go.Eng.R
open Go Go.Eng
namespace Go.Eng.R
theorem wt_byte {x : V} (h : WtT tab t_byte x) : W_byte x := wt_u8 (h.cell 0 rfl)
theorem wt_laws_Check {x : V} (h : WtT tab t_laws_Check x) : W_Check x := ⟨wt_sl (h.cell 0 rfl) fun _ => wt_byte, wt_i64 (h.cell 1 rfl), wt_i64 (h.cell 2 rfl), wt_i64 (h.cell 3 rfl), wt_i64 (h.cell 4 rfl), wt_i64 (h.cell 5 rfl)⟩
theorem wt_laws_Service {x : V} (h : WtT tab t_laws_Service x) : W_Service x := ⟨wt_sl (h.cell 0 rfl) fun _ => wt_byte, wt_sl (h.cell 1 rfl) fun _ => wt_laws_Check⟩
theorem wt_laws_Local {x : V} (h : WtT tab t_laws_Local x) : W_Local x := ⟨wt_sl (h.cell 0 rfl) fun _ => wt_byte, wt_sl (h.cell 1 rfl) fun _ => wt_laws_Service⟩
theorem wt_sl_byte {x : V} (h : WtT tab t_sl_byte x) : LW W_byte (gl x 0) := wt_sl (h.cell 0 rfl) fun _ => wt_byte
def readable : List TypeId := [3, 5, 22, 23, 25, 40, 145, 147]
end Go.Eng.R
