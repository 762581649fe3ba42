/- An own evaluator of the program's form, proved sound, and what it says of this law's functions: part 3. -/
import Derived.Test.YtmkjebekmeefcaaGreatE2
import Derived.Test.YtmkjebekmeefcaaGreatChecked
set_option linter.unusedVariables false
open Go Go.Eng
namespace Go.Eng.R
def laws_szByteS (a : List V) (left : Int) : Int :=
  bif (decide ((IntKind.i64.wrap (left - ((a.length : Nat) : Int))) < 0)) then
    (-1)
  else (IntKind.i64.wrap (left - ((a.length : Nat) : Int)))
def laws_szOp (a : V) (left : Int) : Int :=
  bif (decide ((laws_szByteS (gl a 1) left) < 0)) then
    (-1)
  else bif (decide ((laws_szByteS (gl a 2) (laws_szByteS (gl a 1) left)) < 0)) then
    (-1)
  else (laws_szByteS (gl a 2) (laws_szByteS (gl a 1) left))
def laws_szCmd (a : V) (left : Int) : Int :=
  bif (decide ((laws_szOp (V.agg [(V.int .i64 (gi a 2)), (V.inl t_byte (gl a 3)), (V.inl t_byte (gl a 4)), (V.int .i64 (gi a 5))]) left) < 0)) then
    (-1)
  else (laws_szOp (V.agg [(V.int .i64 (gi a 2)), (V.inl t_byte (gl a 3)), (V.inl t_byte (gl a 4)), (V.int .i64 (gi a 5))]) left)
def laws_szItem (a : V) (left : Int) : Int :=
  bif (decide ((laws_szCmd (V.agg [(V.int .i64 (gi a 1)), (V.int .i64 (gi a 2)), (V.int .i64 (gi a 3)), (V.inl t_byte (gl a 4)), (V.inl t_byte (gl a 5)), (V.int .i64 (gi a 6))]) left) < 0)) then
    (-1)
  else (laws_szCmd (V.agg [(V.int .i64 (gi a 1)), (V.int .i64 (gi a 2)), (V.int .i64 (gi a 3)), (V.inl t_byte (gl a 4)), (V.inl t_byte (gl a 5)), (V.int .i64 (gi a 6))]) left)
def laws_szItemS_l5 : Nat → List V → Int → Int → Option (Nat × Int × Int)
  | 0, _, _, _ => none
  | k_ + 1, a0, left1, i5 =>
    bif (decide (i5 < ((a0.length : Nat) : Int))) then
      bif (idxOk i5 a0.length) then
        bif (decide ((laws_szItem (n_laws_Item (rd a0 i5.toNat)) left1) < 0)) then
          some (0, laws_szItem (n_laws_Item (rd a0 i5.toNat)) left1, -1)
        else laws_szItemS_l5 k_ a0 (laws_szItem (n_laws_Item (rd a0 i5.toNat)) left1) (IntKind.i64.wrap (i5 + 1))
      else none
    else some (1, left1, 0)
def laws_szItemS (a : List V) (left : Int) : Option (Int) :=
  bif (decide ((IntKind.i64.wrap (left - ((a.length : Nat) : Int))) < 0)) then
    some (-1)
  else Option.bind (laws_szItemS_l5 ((((a.length : Nat) : Int) - 0).toNat + 1) a (IntKind.i64.wrap (left - ((a.length : Nat) : Int))) 0) fun r1 =>
  bif (Nat.beq r1.1 0) then
    some r1.2.2
  else some r1.2.1
def laws_szBoolS (a : List V) (left : Int) : Int :=
  bif (decide ((IntKind.i64.wrap (left - ((a.length : Nat) : Int))) < 0)) then
    (-1)
  else (IntKind.i64.wrap (left - ((a.length : Nat) : Int)))
def laws_szIntS (a : List V) (left : Int) : Int :=
  bif (decide ((IntKind.i64.wrap (left - ((a.length : Nat) : Int))) < 0)) then
    (-1)
  else (IntKind.i64.wrap (left - ((a.length : Nat) : Int)))
def laws_szNode (a : V) (left : Int) : Option (Int) :=
  Option.bind (laws_szItemS (gl a 3) left) fun r2 =>
  bif (decide (r2 < 0)) then
    some (-1)
  else bif (decide ((laws_szBoolS (gl a 8) r2) < 0)) then
    some (-1)
  else bif (decide ((laws_szIntS (gl a 9) (laws_szBoolS (gl a 8) r2)) < 0)) then
    some (-1)
  else bif (decide ((laws_szIntS (gl a 10) (laws_szIntS (gl a 9) (laws_szBoolS (gl a 8) r2))) < 0)) then
    some (-1)
  else some (laws_szIntS (gl a 10) (laws_szIntS (gl a 9) (laws_szBoolS (gl a 8) r2)))
def laws_szMsg (a : V) (left : Int) : Option (Int) :=
  Option.bind (laws_szItemS (gl a 6) left) fun r4 =>
  bif (decide (r4 < 0)) then
    some (-1)
  else some r4
def laws_toByteS_l3 : Nat → List V → Int → List V → Option (List V)
  | 0, _, _, _ => none
  | k_ + 1, a0, i4, r0 =>
    bif (decide (i4 < ((a0.length : Nat) : Int))) then
      bif (idxOk i4 a0.length) then
        bif (idxOk i4 r0.length) then
          laws_toByteS_l3 k_ a0 (IntKind.i64.wrap (i4 + 1)) (r0.set (0 + i4.toNat) (V.int .u8 (gi (rd a0 i4.toNat) 0)))
        else none
      else none
    else some r0
def laws_toByteS (a : List V) : Option (List V) :=
  bif (((decide ((0 : Int) ≤ ((a.length : Nat) : Int))) && decide (((a.length : Nat) : Int) = ((a.length : Nat) : Int))) && (roomy (((a.length : Nat) : Int).toNat) 1)) then
    Option.bind (laws_toByteS_l3 ((((a.length : Nat) : Int) - 0).toNat + 1) a 0 (List.replicate (((a.length : Nat) : Int).toNat) (V.int .u8 0))) fun r6 =>
    some r6
  else none
def laws_toOp (a : V) : Option (V) :=
  Option.bind (laws_toByteS (gl a 1)) fun r7 =>
  Option.bind (laws_toByteS (gl a 2)) fun r8 =>
  some (V.agg [(V.int .i64 (gi a 0)), (V.inl t_byte r7), (V.inl t_byte r8), (V.int .i64 (gi a 3))])
def laws_toCmd (a : V) : Option (V) :=
  Option.bind (laws_toOp (V.agg [(V.int .i64 (gi a 2)), (V.inl t_byte (gl a 3)), (V.inl t_byte (gl a 4)), (V.int .i64 (gi a 5))])) fun r9 =>
  some (V.agg [(V.int .i64 (gi a 0)), (V.int .i64 (gi a 1)), (V.int .i64 (gi r9 0)), (V.inl t_byte (gl r9 1)), (V.inl t_byte (gl r9 2)), (V.int .i64 (gi r9 3))])
def laws_toItem (a : V) : Option (V) :=
  Option.bind (laws_toCmd (V.agg [(V.int .i64 (gi a 1)), (V.int .i64 (gi a 2)), (V.int .i64 (gi a 3)), (V.inl t_byte (gl a 4)), (V.inl t_byte (gl a 5)), (V.int .i64 (gi a 6))])) fun r10 =>
  some (V.agg [(V.int .i64 (gi a 0)), (V.int .i64 (gi r10 0)), (V.int .i64 (gi r10 1)), (V.int .i64 (gi r10 2)), (V.inl t_byte (gl r10 3)), (V.inl t_byte (gl r10 4)), (V.int .i64 (gi r10 5))])
def laws_toItemS_l3 : Nat → List V → Int → List V → Option (List V)
  | 0, _, _, _ => none
  | k_ + 1, a0, i4, r0 =>
    bif (decide (i4 < ((a0.length : Nat) : Int))) then
      bif (idxOk i4 a0.length) then
        Option.bind (laws_toItem (n_laws_Item (rd a0 i4.toNat))) fun r11 =>
        bif (idxOk i4 r0.length) then
          laws_toItemS_l3 k_ a0 (IntKind.i64.wrap (i4 + 1)) (r0.set (0 + i4.toNat) (n_laws_Item r11))
        else none
      else none
    else some r0
def laws_toItemS (a : List V) : Option (List V) :=
  bif (((decide ((0 : Int) ≤ ((a.length : Nat) : Int))) && decide (((a.length : Nat) : Int) = ((a.length : Nat) : Int))) && (roomy (((a.length : Nat) : Int).toNat) 88)) then
    Option.bind (laws_toItemS_l3 ((((a.length : Nat) : Int) - 0).toNat + 1) a 0 (List.replicate (((a.length : Nat) : Int).toNat) (V.agg [(V.int .i64 0), (V.int .i64 0), (V.int .i64 0), (V.int .i64 0), (V.inl t_byte []), (V.inl t_byte []), (V.int .i64 0)]))) fun r12 =>
    some r12
  else none
def laws_toBoolS_l3 : Nat → List V → Int → List V → Option (List V)
  | 0, _, _, _ => none
  | k_ + 1, a0, i4, r0 =>
    bif (decide (i4 < ((a0.length : Nat) : Int))) then
      bif (idxOk i4 a0.length) then
        bif (idxOk i4 r0.length) then
          laws_toBoolS_l3 k_ a0 (IntKind.i64.wrap (i4 + 1)) (r0.set (0 + i4.toNat) (V.bool (gb (rd a0 i4.toNat) 0)))
        else none
      else none
    else some r0
def laws_toBoolS (a : List V) : Option (List V) :=
  bif (((decide ((0 : Int) ≤ ((a.length : Nat) : Int))) && decide (((a.length : Nat) : Int) = ((a.length : Nat) : Int))) && (roomy (((a.length : Nat) : Int).toNat) 1)) then
    Option.bind (laws_toBoolS_l3 ((((a.length : Nat) : Int) - 0).toNat + 1) a 0 (List.replicate (((a.length : Nat) : Int).toNat) (V.bool false))) fun r14 =>
    some r14
  else none
def laws_toIntS_l3 : Nat → List V → Int → List V → Option (List V)
  | 0, _, _, _ => none
  | k_ + 1, a0, i4, r0 =>
    bif (decide (i4 < ((a0.length : Nat) : Int))) then
      bif (idxOk i4 a0.length) then
        bif (idxOk i4 r0.length) then
          laws_toIntS_l3 k_ a0 (IntKind.i64.wrap (i4 + 1)) (r0.set (0 + i4.toNat) (V.int .i64 (gi (rd a0 i4.toNat) 0)))
        else none
      else none
    else some r0
def laws_toIntS (a : List V) : Option (List V) :=
  bif (((decide ((0 : Int) ≤ ((a.length : Nat) : Int))) && decide (((a.length : Nat) : Int) = ((a.length : Nat) : Int))) && (roomy (((a.length : Nat) : Int).toNat) 8)) then
    Option.bind (laws_toIntS_l3 ((((a.length : Nat) : Int) - 0).toNat + 1) a 0 (List.replicate (((a.length : Nat) : Int).toNat) (V.int .i64 0))) fun r16 =>
    some r16
  else none
def laws_toNode (a : V) : Option (V) :=
  Option.bind (laws_toItemS (gl a 3)) fun r13 =>
  Option.bind (laws_toBoolS (gl a 8)) fun r15 =>
  Option.bind (laws_toIntS (gl a 9)) fun r17 =>
  Option.bind (laws_toIntS (gl a 10)) fun r18 =>
  some (V.agg [(V.int .i64 (gi a 0)), (V.int .i64 (gi a 1)), (V.int .i64 (gi a 2)), (V.inl t_impl_Item r13), (V.int .i64 (gi a 4)), (V.int .i64 (gi a 5)), (V.int .i64 (gi a 6)), (V.int .i64 (gi a 7)), (V.inl t_bool r15), (V.inl t_int' r17), (V.inl t_int' r18)])
def laws_toMsg (a : V) : Option (V) :=
  Option.bind (laws_toItemS (gl a 6)) fun r20 =>
  some (V.agg [(V.int .i64 (gi a 0)), (V.int .i64 (gi a 1)), (V.int .i64 (gi a 2)), (V.int .i64 (gi a 3)), (V.int .i64 (gi a 4)), (V.int .i64 (gi a 5)), (V.inl t_impl_Item r20), (V.int .i64 (gi a 7)), (V.bool (gb a 8))])
def spec_l4servers (n : Int) : Bool :=
  bif (decide ((1 : Int) ≤ n)) then
    (decide (n ≤ 5))
  else false
def spec_l3term (n : Int) : Bool :=
  bif (decide ((0 : Int) ≤ n)) then
    (decide (n ≤ 100000))
  else false
def spec_l4who (n : Int) (servers : Int) : Bool :=
  bif (decide ((-1 : Int) ≤ n)) then
    (decide (n < servers))
  else false
def spec_l2val (b : List V) : Bool :=
  (decide (((b.length : Nat) : Int) ≤ 20))
def spec_l2index (n : Int) : Bool :=
  bif (decide ((0 : Int) ≤ n)) then
    (decide (n ≤ 1000000))
  else false
def spec_l2key_l4 : Nat → List V → Int → Option (Nat × Bool)
  | 0, _, _ => none
  | k_ + 1, b0, i3 =>
    bif (decide (i3 < ((b0.length : Nat) : Int))) then
      bif (idxOk i3 b0.length) then
        bif (decide ((gi (rd b0 i3.toNat) 0) < 97)) then
          bif (idxOk i3 b0.length) then
            bif (!(decide ((gi (rd b0 i3.toNat) 0) = 47))) then
              some (0, false)
            else spec_l2key_l4 k_ b0 (IntKind.i64.wrap (i3 + 1))
          else none
        else bif (idxOk i3 b0.length) then
          bif (decide ((122 : Int) < (gi (rd b0 i3.toNat) 0))) then
            bif (idxOk i3 b0.length) then
              bif (!(decide ((gi (rd b0 i3.toNat) 0) = 47))) then
                some (0, false)
              else spec_l2key_l4 k_ b0 (IntKind.i64.wrap (i3 + 1))
            else none
          else spec_l2key_l4 k_ b0 (IntKind.i64.wrap (i3 + 1))
        else none
      else none
    else some (1, false)
def spec_l2key (b : List V) : Option (Bool) :=
  bif (decide (((b.length : Nat) : Int) < 1)) then
    some false
  else bif (decide ((20 : Int) < ((b.length : Nat) : Int))) then
    some false
  else Option.bind (spec_l2key_l4 ((((b.length : Nat) : Int) - 0).toNat + 1) b 0) fun r22 =>
  bif (Nat.beq r22.1 0) then
    some r22.2
  else some true
def spec_OpOk (o : V) : Option (Bool) :=
  bif (decide ((gi o 0) < 0)) then
    some false
  else bif (decide ((7 : Int) < (gi o 0))) then
    some false
  else bif (!(spec_l2val (gl o 2))) then
    some false
  else bif (!(spec_l2index (gi o 3))) then
    some false
  else bif (decide ((gi o 0) = 1)) then
    Option.bind (spec_l2key (gl o 1)) fun r23 =>
    bif (!r23) then
      some false
    else bif (decide ((gi o 0) = 1)) then
      bif (decide ((gi o 0) = 0)) then
        some (decide ((gi o 3) = 0))
      else bif (decide ((gi o 0) = 1)) then
        some (decide ((gi o 3) = 0))
      else bif (decide ((gi o 0) = 3)) then
        some (decide ((gi o 3) = 0))
      else bif (decide ((gi o 0) = 4)) then
        some (decide ((gi o 3) ≤ 1))
      else bif (decide ((gi o 0) = 2)) then
        some true
      else some (decide ((1 : Int) ≤ (gi o 3)))
    else bif (decide ((gi o 0) = 2)) then
      bif (decide ((gi o 0) = 0)) then
        some (decide ((gi o 3) = 0))
      else bif (decide ((gi o 0) = 1)) then
        some (decide ((gi o 3) = 0))
      else bif (decide ((gi o 0) = 3)) then
        some (decide ((gi o 3) = 0))
      else bif (decide ((gi o 0) = 4)) then
        some (decide ((gi o 3) ≤ 1))
      else bif (decide ((gi o 0) = 2)) then
        some true
      else some (decide ((1 : Int) ≤ (gi o 3)))
    else bif (!(decide ((gi o 0) = 6))) then
      bif (decide ((0 : Int) < (((gl o 2).length : Nat) : Int))) then
        some false
      else bif (decide ((gi o 0) = 0)) then
        some (decide ((gi o 3) = 0))
      else bif (decide ((gi o 0) = 1)) then
        some (decide ((gi o 3) = 0))
      else bif (decide ((gi o 0) = 3)) then
        some (decide ((gi o 3) = 0))
      else bif (decide ((gi o 0) = 4)) then
        some (decide ((gi o 3) ≤ 1))
      else bif (decide ((gi o 0) = 2)) then
        some true
      else some (decide ((1 : Int) ≤ (gi o 3)))
    else bif (decide ((gi o 0) = 0)) then
      some (decide ((gi o 3) = 0))
    else bif (decide ((gi o 0) = 1)) then
      some (decide ((gi o 3) = 0))
    else bif (decide ((gi o 0) = 3)) then
      some (decide ((gi o 3) = 0))
    else bif (decide ((gi o 0) = 4)) then
      some (decide ((gi o 3) ≤ 1))
    else bif (decide ((gi o 0) = 2)) then
      some true
    else some (decide ((1 : Int) ≤ (gi o 3)))
  else bif (decide ((gi o 0) = 2)) then
    Option.bind (spec_l2key (gl o 1)) fun r24 =>
    bif (!r24) then
      some false
    else bif (decide ((gi o 0) = 1)) then
      bif (decide ((gi o 0) = 0)) then
        some (decide ((gi o 3) = 0))
      else bif (decide ((gi o 0) = 1)) then
        some (decide ((gi o 3) = 0))
      else bif (decide ((gi o 0) = 3)) then
        some (decide ((gi o 3) = 0))
      else bif (decide ((gi o 0) = 4)) then
        some (decide ((gi o 3) ≤ 1))
      else bif (decide ((gi o 0) = 2)) then
        some true
      else some (decide ((1 : Int) ≤ (gi o 3)))
    else bif (decide ((gi o 0) = 2)) then
      bif (decide ((gi o 0) = 0)) then
        some (decide ((gi o 3) = 0))
      else bif (decide ((gi o 0) = 1)) then
        some (decide ((gi o 3) = 0))
      else bif (decide ((gi o 0) = 3)) then
        some (decide ((gi o 3) = 0))
      else bif (decide ((gi o 0) = 4)) then
        some (decide ((gi o 3) ≤ 1))
      else bif (decide ((gi o 0) = 2)) then
        some true
      else some (decide ((1 : Int) ≤ (gi o 3)))
    else bif (!(decide ((gi o 0) = 6))) then
      bif (decide ((0 : Int) < (((gl o 2).length : Nat) : Int))) then
        some false
      else bif (decide ((gi o 0) = 0)) then
        some (decide ((gi o 3) = 0))
      else bif (decide ((gi o 0) = 1)) then
        some (decide ((gi o 3) = 0))
      else bif (decide ((gi o 0) = 3)) then
        some (decide ((gi o 3) = 0))
      else bif (decide ((gi o 0) = 4)) then
        some (decide ((gi o 3) ≤ 1))
      else bif (decide ((gi o 0) = 2)) then
        some true
      else some (decide ((1 : Int) ≤ (gi o 3)))
    else bif (decide ((gi o 0) = 0)) then
      some (decide ((gi o 3) = 0))
    else bif (decide ((gi o 0) = 1)) then
      some (decide ((gi o 3) = 0))
    else bif (decide ((gi o 0) = 3)) then
      some (decide ((gi o 3) = 0))
    else bif (decide ((gi o 0) = 4)) then
      some (decide ((gi o 3) ≤ 1))
    else bif (decide ((gi o 0) = 2)) then
      some true
    else some (decide ((1 : Int) ≤ (gi o 3)))
  else bif (decide ((gi o 0) = 3)) then
    Option.bind (spec_l2key (gl o 1)) fun r25 =>
    bif (!r25) then
      some false
    else bif (decide ((gi o 0) = 1)) then
      bif (decide ((gi o 0) = 0)) then
        some (decide ((gi o 3) = 0))
      else bif (decide ((gi o 0) = 1)) then
        some (decide ((gi o 3) = 0))
      else bif (decide ((gi o 0) = 3)) then
        some (decide ((gi o 3) = 0))
      else bif (decide ((gi o 0) = 4)) then
        some (decide ((gi o 3) ≤ 1))
      else bif (decide ((gi o 0) = 2)) then
        some true
      else some (decide ((1 : Int) ≤ (gi o 3)))
    else bif (decide ((gi o 0) = 2)) then
      bif (decide ((gi o 0) = 0)) then
        some (decide ((gi o 3) = 0))
      else bif (decide ((gi o 0) = 1)) then
        some (decide ((gi o 3) = 0))
      else bif (decide ((gi o 0) = 3)) then
        some (decide ((gi o 3) = 0))
      else bif (decide ((gi o 0) = 4)) then
        some (decide ((gi o 3) ≤ 1))
      else bif (decide ((gi o 0) = 2)) then
        some true
      else some (decide ((1 : Int) ≤ (gi o 3)))
    else bif (!(decide ((gi o 0) = 6))) then
      bif (decide ((0 : Int) < (((gl o 2).length : Nat) : Int))) then
        some false
      else bif (decide ((gi o 0) = 0)) then
        some (decide ((gi o 3) = 0))
      else bif (decide ((gi o 0) = 1)) then
        some (decide ((gi o 3) = 0))
      else bif (decide ((gi o 0) = 3)) then
        some (decide ((gi o 3) = 0))
      else bif (decide ((gi o 0) = 4)) then
        some (decide ((gi o 3) ≤ 1))
      else bif (decide ((gi o 0) = 2)) then
        some true
      else some (decide ((1 : Int) ≤ (gi o 3)))
    else bif (decide ((gi o 0) = 0)) then
      some (decide ((gi o 3) = 0))
    else bif (decide ((gi o 0) = 1)) then
      some (decide ((gi o 3) = 0))
    else bif (decide ((gi o 0) = 3)) then
      some (decide ((gi o 3) = 0))
    else bif (decide ((gi o 0) = 4)) then
      some (decide ((gi o 3) ≤ 1))
    else bif (decide ((gi o 0) = 2)) then
      some true
    else some (decide ((1 : Int) ≤ (gi o 3)))
  else bif (decide ((gi o 0) = 6)) then
    Option.bind (spec_l2key (gl o 1)) fun r26 =>
    bif (!r26) then
      some false
    else bif (decide ((gi o 0) = 1)) then
      bif (decide ((gi o 0) = 0)) then
        some (decide ((gi o 3) = 0))
      else bif (decide ((gi o 0) = 1)) then
        some (decide ((gi o 3) = 0))
      else bif (decide ((gi o 0) = 3)) then
        some (decide ((gi o 3) = 0))
      else bif (decide ((gi o 0) = 4)) then
        some (decide ((gi o 3) ≤ 1))
      else bif (decide ((gi o 0) = 2)) then
        some true
      else some (decide ((1 : Int) ≤ (gi o 3)))
    else bif (decide ((gi o 0) = 2)) then
      bif (decide ((gi o 0) = 0)) then
        some (decide ((gi o 3) = 0))
      else bif (decide ((gi o 0) = 1)) then
        some (decide ((gi o 3) = 0))
      else bif (decide ((gi o 0) = 3)) then
        some (decide ((gi o 3) = 0))
      else bif (decide ((gi o 0) = 4)) then
        some (decide ((gi o 3) ≤ 1))
      else bif (decide ((gi o 0) = 2)) then
        some true
      else some (decide ((1 : Int) ≤ (gi o 3)))
    else bif (!(decide ((gi o 0) = 6))) then
      bif (decide ((0 : Int) < (((gl o 2).length : Nat) : Int))) then
        some false
      else bif (decide ((gi o 0) = 0)) then
        some (decide ((gi o 3) = 0))
      else bif (decide ((gi o 0) = 1)) then
        some (decide ((gi o 3) = 0))
      else bif (decide ((gi o 0) = 3)) then
        some (decide ((gi o 3) = 0))
      else bif (decide ((gi o 0) = 4)) then
        some (decide ((gi o 3) ≤ 1))
      else bif (decide ((gi o 0) = 2)) then
        some true
      else some (decide ((1 : Int) ≤ (gi o 3)))
    else bif (decide ((gi o 0) = 0)) then
      some (decide ((gi o 3) = 0))
    else bif (decide ((gi o 0) = 1)) then
      some (decide ((gi o 3) = 0))
    else bif (decide ((gi o 0) = 3)) then
      some (decide ((gi o 3) = 0))
    else bif (decide ((gi o 0) = 4)) then
      some (decide ((gi o 3) ≤ 1))
    else bif (decide ((gi o 0) = 2)) then
      some true
    else some (decide ((1 : Int) ≤ (gi o 3)))
  else bif (decide ((gi o 0) = 7)) then
    Option.bind (spec_l2key (gl o 1)) fun r27 =>
    bif (!r27) then
      some false
    else bif (!(decide ((gi o 0) = 7))) then
      bif (decide ((0 : Int) < (((gl o 1).length : Nat) : Int))) then
        some false
      else bif (decide ((gi o 0) = 1)) then
        bif (decide ((gi o 0) = 0)) then
          some (decide ((gi o 3) = 0))
        else bif (decide ((gi o 0) = 1)) then
          some (decide ((gi o 3) = 0))
        else bif (decide ((gi o 0) = 3)) then
          some (decide ((gi o 3) = 0))
        else bif (decide ((gi o 0) = 4)) then
          some (decide ((gi o 3) ≤ 1))
        else bif (decide ((gi o 0) = 2)) then
          some true
        else some (decide ((1 : Int) ≤ (gi o 3)))
      else bif (decide ((gi o 0) = 2)) then
        bif (decide ((gi o 0) = 0)) then
          some (decide ((gi o 3) = 0))
        else bif (decide ((gi o 0) = 1)) then
          some (decide ((gi o 3) = 0))
        else bif (decide ((gi o 0) = 3)) then
          some (decide ((gi o 3) = 0))
        else bif (decide ((gi o 0) = 4)) then
          some (decide ((gi o 3) ≤ 1))
        else bif (decide ((gi o 0) = 2)) then
          some true
        else some (decide ((1 : Int) ≤ (gi o 3)))
      else bif (!(decide ((gi o 0) = 6))) then
        bif (decide ((0 : Int) < (((gl o 2).length : Nat) : Int))) then
          some false
        else bif (decide ((gi o 0) = 0)) then
          some (decide ((gi o 3) = 0))
        else bif (decide ((gi o 0) = 1)) then
          some (decide ((gi o 3) = 0))
        else bif (decide ((gi o 0) = 3)) then
          some (decide ((gi o 3) = 0))
        else bif (decide ((gi o 0) = 4)) then
          some (decide ((gi o 3) ≤ 1))
        else bif (decide ((gi o 0) = 2)) then
          some true
        else some (decide ((1 : Int) ≤ (gi o 3)))
      else bif (decide ((gi o 0) = 0)) then
        some (decide ((gi o 3) = 0))
      else bif (decide ((gi o 0) = 1)) then
        some (decide ((gi o 3) = 0))
      else bif (decide ((gi o 0) = 3)) then
        some (decide ((gi o 3) = 0))
      else bif (decide ((gi o 0) = 4)) then
        some (decide ((gi o 3) ≤ 1))
      else bif (decide ((gi o 0) = 2)) then
        some true
      else some (decide ((1 : Int) ≤ (gi o 3)))
    else bif (decide ((gi o 0) = 1)) then
      bif (decide ((gi o 0) = 0)) then
        some (decide ((gi o 3) = 0))
      else bif (decide ((gi o 0) = 1)) then
        some (decide ((gi o 3) = 0))
      else bif (decide ((gi o 0) = 3)) then
        some (decide ((gi o 3) = 0))
      else bif (decide ((gi o 0) = 4)) then
        some (decide ((gi o 3) ≤ 1))
      else bif (decide ((gi o 0) = 2)) then
        some true
      else some (decide ((1 : Int) ≤ (gi o 3)))
    else bif (decide ((gi o 0) = 2)) then
      bif (decide ((gi o 0) = 0)) then
        some (decide ((gi o 3) = 0))
      else bif (decide ((gi o 0) = 1)) then
        some (decide ((gi o 3) = 0))
      else bif (decide ((gi o 0) = 3)) then
        some (decide ((gi o 3) = 0))
      else bif (decide ((gi o 0) = 4)) then
        some (decide ((gi o 3) ≤ 1))
      else bif (decide ((gi o 0) = 2)) then
        some true
      else some (decide ((1 : Int) ≤ (gi o 3)))
    else bif (!(decide ((gi o 0) = 6))) then
      bif (decide ((0 : Int) < (((gl o 2).length : Nat) : Int))) then
        some false
      else bif (decide ((gi o 0) = 0)) then
        some (decide ((gi o 3) = 0))
      else bif (decide ((gi o 0) = 1)) then
        some (decide ((gi o 3) = 0))
      else bif (decide ((gi o 0) = 3)) then
        some (decide ((gi o 3) = 0))
      else bif (decide ((gi o 0) = 4)) then
        some (decide ((gi o 3) ≤ 1))
      else bif (decide ((gi o 0) = 2)) then
        some true
      else some (decide ((1 : Int) ≤ (gi o 3)))
    else bif (decide ((gi o 0) = 0)) then
      some (decide ((gi o 3) = 0))
    else bif (decide ((gi o 0) = 1)) then
      some (decide ((gi o 3) = 0))
    else bif (decide ((gi o 0) = 3)) then
      some (decide ((gi o 3) = 0))
    else bif (decide ((gi o 0) = 4)) then
      some (decide ((gi o 3) ≤ 1))
    else bif (decide ((gi o 0) = 2)) then
      some true
    else some (decide ((1 : Int) ≤ (gi o 3)))
  else bif (!(decide ((gi o 0) = 7))) then
    bif (decide ((0 : Int) < (((gl o 1).length : Nat) : Int))) then
      some false
    else bif (decide ((gi o 0) = 1)) then
      bif (decide ((gi o 0) = 0)) then
        some (decide ((gi o 3) = 0))
      else bif (decide ((gi o 0) = 1)) then
        some (decide ((gi o 3) = 0))
      else bif (decide ((gi o 0) = 3)) then
        some (decide ((gi o 3) = 0))
      else bif (decide ((gi o 0) = 4)) then
        some (decide ((gi o 3) ≤ 1))
      else bif (decide ((gi o 0) = 2)) then
        some true
      else some (decide ((1 : Int) ≤ (gi o 3)))
    else bif (decide ((gi o 0) = 2)) then
      bif (decide ((gi o 0) = 0)) then
        some (decide ((gi o 3) = 0))
      else bif (decide ((gi o 0) = 1)) then
        some (decide ((gi o 3) = 0))
      else bif (decide ((gi o 0) = 3)) then
        some (decide ((gi o 3) = 0))
      else bif (decide ((gi o 0) = 4)) then
        some (decide ((gi o 3) ≤ 1))
      else bif (decide ((gi o 0) = 2)) then
        some true
      else some (decide ((1 : Int) ≤ (gi o 3)))
    else bif (!(decide ((gi o 0) = 6))) then
      bif (decide ((0 : Int) < (((gl o 2).length : Nat) : Int))) then
        some false
      else bif (decide ((gi o 0) = 0)) then
        some (decide ((gi o 3) = 0))
      else bif (decide ((gi o 0) = 1)) then
        some (decide ((gi o 3) = 0))
      else bif (decide ((gi o 0) = 3)) then
        some (decide ((gi o 3) = 0))
      else bif (decide ((gi o 0) = 4)) then
        some (decide ((gi o 3) ≤ 1))
      else bif (decide ((gi o 0) = 2)) then
        some true
      else some (decide ((1 : Int) ≤ (gi o 3)))
    else bif (decide ((gi o 0) = 0)) then
      some (decide ((gi o 3) = 0))
    else bif (decide ((gi o 0) = 1)) then
      some (decide ((gi o 3) = 0))
    else bif (decide ((gi o 0) = 3)) then
      some (decide ((gi o 3) = 0))
    else bif (decide ((gi o 0) = 4)) then
      some (decide ((gi o 3) ≤ 1))
    else bif (decide ((gi o 0) = 2)) then
      some true
    else some (decide ((1 : Int) ≤ (gi o 3)))
  else bif (decide ((gi o 0) = 1)) then
    bif (decide ((gi o 0) = 0)) then
      some (decide ((gi o 3) = 0))
    else bif (decide ((gi o 0) = 1)) then
      some (decide ((gi o 3) = 0))
    else bif (decide ((gi o 0) = 3)) then
      some (decide ((gi o 3) = 0))
    else bif (decide ((gi o 0) = 4)) then
      some (decide ((gi o 3) ≤ 1))
    else bif (decide ((gi o 0) = 2)) then
      some true
    else some (decide ((1 : Int) ≤ (gi o 3)))
  else bif (decide ((gi o 0) = 2)) then
    bif (decide ((gi o 0) = 0)) then
      some (decide ((gi o 3) = 0))
    else bif (decide ((gi o 0) = 1)) then
      some (decide ((gi o 3) = 0))
    else bif (decide ((gi o 0) = 3)) then
      some (decide ((gi o 3) = 0))
    else bif (decide ((gi o 0) = 4)) then
      some (decide ((gi o 3) ≤ 1))
    else bif (decide ((gi o 0) = 2)) then
      some true
    else some (decide ((1 : Int) ≤ (gi o 3)))
  else bif (!(decide ((gi o 0) = 6))) then
    bif (decide ((0 : Int) < (((gl o 2).length : Nat) : Int))) then
      some false
    else bif (decide ((gi o 0) = 0)) then
      some (decide ((gi o 3) = 0))
    else bif (decide ((gi o 0) = 1)) then
      some (decide ((gi o 3) = 0))
    else bif (decide ((gi o 0) = 3)) then
      some (decide ((gi o 3) = 0))
    else bif (decide ((gi o 0) = 4)) then
      some (decide ((gi o 3) ≤ 1))
    else bif (decide ((gi o 0) = 2)) then
      some true
    else some (decide ((1 : Int) ≤ (gi o 3)))
  else bif (decide ((gi o 0) = 0)) then
    some (decide ((gi o 3) = 0))
  else bif (decide ((gi o 0) = 1)) then
    some (decide ((gi o 3) = 0))
  else bif (decide ((gi o 0) = 3)) then
    some (decide ((gi o 3) = 0))
  else bif (decide ((gi o 0) = 4)) then
    some (decide ((gi o 3) ≤ 1))
  else bif (decide ((gi o 0) = 2)) then
    some true
  else some (decide ((1 : Int) ≤ (gi o 3)))
def spec_CmdOk (c : V) : Option (Bool) :=
  bif (decide ((gi c 0) = (-1))) then
    bif (decide ((gi c 1) = 0)) then
      bif (decide ((gi c 2) = 0)) then
        Option.bind (spec_OpOk (V.agg [(V.int .i64 (gi c 2)), (V.inl t_byte (gl c 3)), (V.inl t_byte (gl c 4)), (V.int .i64 (gi c 5))])) fun r28 =>
        some r28
      else some false
    else some false
  else bif (decide ((0 : Int) ≤ (gi c 0))) then
    bif (decide ((gi c 0) < 4)) then
      bif (decide ((1 : Int) ≤ (gi c 1))) then
        bif (decide ((gi c 1) ≤ 1000000)) then
          Option.bind (spec_OpOk (V.agg [(V.int .i64 (gi c 2)), (V.inl t_byte (gl c 3)), (V.inl t_byte (gl c 4)), (V.int .i64 (gi c 5))])) fun r29 =>
          some r29
        else some false
      else some false
    else some false
  else some false
def spec_ItemOk (x : V) : Option (Bool) :=
  bif (decide ((1 : Int) ≤ (gi x 0))) then
    bif (decide ((gi x 0) ≤ 100000)) then
      Option.bind (spec_CmdOk (V.agg [(V.int .i64 (gi x 1)), (V.int .i64 (gi x 2)), (V.int .i64 (gi x 3)), (V.inl t_byte (gl x 4)), (V.inl t_byte (gl x 5)), (V.int .i64 (gi x 6))])) fun r30 =>
      some r30
    else some false
  else some false
def spec_NodeOk_l4 : Nat → Int → Int → V → Option (Nat × Int × Bool × V)
  | 0, _, _, _ => none
  | k_ + 1, servers1, i5, b0 =>
    bif (decide (i5 < (((gl b0 3).length : Nat) : Int))) then
      bif (idxOk i5 ((gl b0 3).length)) then
        Option.bind (spec_ItemOk (n_laws_Item (rd (gl b0 3) i5.toNat))) fun r31 =>
        bif (!r31) then
          some (0, servers1, false, (n_impl_Node b0))
        else bif (idxOk i5 ((gl b0 3).length)) then
          bif (decide ((gi b0 1) < (gi (rd (gl b0 3) i5.toNat) 0))) then
            some (0, servers1, false, (n_impl_Node b0))
          else bif (decide ((0 : Int) < i5)) then
            bif (idxOk (IntKind.i64.wrap (i5 - 1)) ((gl b0 3).length)) then
              bif (idxOk i5 ((gl b0 3).length)) then
                bif (decide ((gi (rd (gl b0 3) i5.toNat) 0) < (gi (rd (gl b0 3) ((IntKind.i64.wrap (i5 - 1)).toNat)) 0))) then
                  some (0, servers1, false, (n_impl_Node b0))
                else spec_NodeOk_l4 k_ servers1 (IntKind.i64.wrap (i5 + 1)) (n_impl_Node b0)
              else none
            else none
          else spec_NodeOk_l4 k_ servers1 (IntKind.i64.wrap (i5 + 1)) (n_impl_Node b0)
        else none
      else none
    else some (1, servers1, false, (n_impl_Node b0))
def spec_NodeOk_l11 : Nat → Int → Int → V → Option (Nat × Bool × V)
  | 0, _, _, _ => none
  | k_ + 1, servers1, i6, b0 =>
    bif (decide (i6 < servers1)) then
      bif (decide ((gi b0 5) = 2)) then
        bif (idxOk i6 ((gl b0 9).length)) then
          bif (decide ((gi (rd (gl b0 9) i6.toNat) 0) < 1)) then
            some (0, false, (n_impl_Node b0))
          else bif (idxOk i6 ((gl b0 9).length)) then
            bif (decide ((IntKind.i64.wrap ((((gl b0 3).length : Nat) : Int) + 1)) < (gi (rd (gl b0 9) i6.toNat) 0))) then
              some (0, false, (n_impl_Node b0))
            else bif (idxOk i6 ((gl b0 10).length)) then
              bif (decide ((gi (rd (gl b0 10) i6.toNat) 0) < 0)) then
                some (0, false, (n_impl_Node b0))
              else bif (idxOk i6 ((gl b0 10).length)) then
                bif (decide ((((gl b0 3).length : Nat) : Int) < (gi (rd (gl b0 10) i6.toNat) 0))) then
                  some (0, false, (n_impl_Node b0))
                else bif (!(decide ((gi b0 5) = 2))) then
                  bif (idxOk i6 ((gl b0 9).length)) then
                    bif (!(decide ((gi (rd (gl b0 9) i6.toNat) 0) = 0))) then
                      some (0, false, (n_impl_Node b0))
                    else bif (idxOk i6 ((gl b0 10).length)) then
                      bif (!(decide ((gi (rd (gl b0 10) i6.toNat) 0) = 0))) then
                        some (0, false, (n_impl_Node b0))
                      else bif (decide ((gi b0 5) = 0)) then
                        bif (idxOk i6 ((gl b0 8).length)) then
                          bif (gb (rd (gl b0 8) i6.toNat) 0) then
                            some (0, false, (n_impl_Node b0))
                          else spec_NodeOk_l11 k_ servers1 (IntKind.i64.wrap (i6 + 1)) (n_impl_Node b0)
                        else none
                      else spec_NodeOk_l11 k_ servers1 (IntKind.i64.wrap (i6 + 1)) (n_impl_Node b0)
                    else none
                  else none
                else bif (decide ((gi b0 5) = 0)) then
                  bif (idxOk i6 ((gl b0 8).length)) then
                    bif (gb (rd (gl b0 8) i6.toNat) 0) then
                      some (0, false, (n_impl_Node b0))
                    else spec_NodeOk_l11 k_ servers1 (IntKind.i64.wrap (i6 + 1)) (n_impl_Node b0)
                  else none
                else spec_NodeOk_l11 k_ servers1 (IntKind.i64.wrap (i6 + 1)) (n_impl_Node b0)
              else none
            else none
          else none
        else none
      else bif (!(decide ((gi b0 5) = 2))) then
        bif (idxOk i6 ((gl b0 9).length)) then
          bif (!(decide ((gi (rd (gl b0 9) i6.toNat) 0) = 0))) then
            some (0, false, (n_impl_Node b0))
          else bif (idxOk i6 ((gl b0 10).length)) then
            bif (!(decide ((gi (rd (gl b0 10) i6.toNat) 0) = 0))) then
              some (0, false, (n_impl_Node b0))
            else bif (decide ((gi b0 5) = 0)) then
              bif (idxOk i6 ((gl b0 8).length)) then
                bif (gb (rd (gl b0 8) i6.toNat) 0) then
                  some (0, false, (n_impl_Node b0))
                else spec_NodeOk_l11 k_ servers1 (IntKind.i64.wrap (i6 + 1)) (n_impl_Node b0)
              else none
            else spec_NodeOk_l11 k_ servers1 (IntKind.i64.wrap (i6 + 1)) (n_impl_Node b0)
          else none
        else none
      else bif (decide ((gi b0 5) = 0)) then
        bif (idxOk i6 ((gl b0 8).length)) then
          bif (gb (rd (gl b0 8) i6.toNat) 0) then
            some (0, false, (n_impl_Node b0))
          else spec_NodeOk_l11 k_ servers1 (IntKind.i64.wrap (i6 + 1)) (n_impl_Node b0)
        else none
      else spec_NodeOk_l11 k_ servers1 (IntKind.i64.wrap (i6 + 1)) (n_impl_Node b0)
    else some (1, false, (n_impl_Node b0))
def spec_NodeOk (n : V) (servers : Int) : Option (Bool) :=
  bif (!(spec_l4servers servers)) then
    some false
  else bif (decide ((gi n 0) < 0)) then
    some false
  else bif (decide (servers ≤ (gi n 0))) then
    some false
  else bif (!(spec_l3term (gi n 1))) then
    some false
  else bif (!(spec_l4who (gi n 2) servers)) then
    some false
  else bif (decide ((400 : Int) < (((gl n 3).length : Nat) : Int))) then
    some false
  else bif (decide ((gi n 4) < 0)) then
    some false
  else bif (decide ((((gl n 3).length : Nat) : Int) < (gi n 4))) then
    some false
  else bif (decide ((gi n 5) < 0)) then
    some false
  else bif (decide ((2 : Int) < (gi n 5))) then
    some false
  else bif (!(spec_l4who (gi n 6) servers)) then
    some false
  else bif (decide ((gi n 7) < 0)) then
    some false
  else bif (decide ((20 : Int) < (gi n 7))) then
    some false
  else bif (!(decide ((((gl n 8).length : Nat) : Int) = servers))) then
    some false
  else bif (!(decide ((((gl n 9).length : Nat) : Int) = servers))) then
    some false
  else bif (!(decide ((((gl n 10).length : Nat) : Int) = servers))) then
    some false
  else Option.bind (spec_NodeOk_l4 (((((gl (n_impl_Node n) 3).length : Nat) : Int) - 0).toNat + 1) servers 0 (n_impl_Node n)) fun r32 =>
  bif (Nat.beq r32.1 0) then
    some r32.2.2.1
  else bif (!(decide ((gi r32.2.2.2 5) = 0))) then
    bif (decide ((gi r32.2.2.2 1) < 1)) then
      some false
    else bif (!(decide ((gi r32.2.2.2 2) = (gi r32.2.2.2 0)))) then
      some false
    else Option.bind (spec_NodeOk_l11 ((r32.2.1 - 0).toNat + 1) r32.2.1 0 (n_impl_Node r32.2.2.2)) fun r33 =>
    bif (Nat.beq r33.1 0) then
      some r33.2.1
    else bif (!(decide ((gi r33.2.2 5) = 2))) then
      some true
    else some (decide ((gi r33.2.2 6) = (gi r33.2.2 0)))
  else Option.bind (spec_NodeOk_l11 ((r32.2.1 - 0).toNat + 1) r32.2.1 0 (n_impl_Node r32.2.2.2)) fun r34 =>
  bif (Nat.beq r34.1 0) then
    some r34.2.1
  else bif (!(decide ((gi r34.2.2 5) = 2))) then
    some true
  else some (decide ((gi r34.2.2 6) = (gi r34.2.2 0)))
def spec_l3server (n : Int) : Bool :=
  bif (decide ((0 : Int) ≤ n)) then
    (decide (n < 5))
  else false
def spec_l3place (n : Int) : Bool :=
  bif (decide ((0 : Int) ≤ n)) then
    (decide (n ≤ 400))
  else false
def spec_MsgOk_l6 : Nat → Int → V → Option (Nat × Bool × V)
  | 0, _, _ => none
  | k_ + 1, i3, b0 =>
    bif (decide (i3 < (((gl b0 6).length : Nat) : Int))) then
      bif (idxOk i3 ((gl b0 6).length)) then
        Option.bind (spec_ItemOk (n_laws_Item (rd (gl b0 6) i3.toNat))) fun r36 =>
        bif (!r36) then
          some (0, false, (n_impl_Msg b0))
        else bif (idxOk i3 ((gl b0 6).length)) then
          bif (decide ((gi b0 3) < (gi (rd (gl b0 6) i3.toNat) 0))) then
            some (0, false, (n_impl_Msg b0))
          else bif (decide ((0 : Int) < i3)) then
            bif (idxOk (IntKind.i64.wrap (i3 - 1)) ((gl b0 6).length)) then
              bif (idxOk i3 ((gl b0 6).length)) then
                bif (decide ((gi (rd (gl b0 6) i3.toNat) 0) < (gi (rd (gl b0 6) ((IntKind.i64.wrap (i3 - 1)).toNat)) 0))) then
                  some (0, false, (n_impl_Msg b0))
                else bif (idxOk i3 ((gl b0 6).length)) then
                  bif (decide ((gi (rd (gl b0 6) i3.toNat) 0) < (gi b0 5))) then
                    some (0, false, (n_impl_Msg b0))
                  else spec_MsgOk_l6 k_ (IntKind.i64.wrap (i3 + 1)) (n_impl_Msg b0)
                else none
              else none
            else none
          else bif (idxOk i3 ((gl b0 6).length)) then
            bif (decide ((gi (rd (gl b0 6) i3.toNat) 0) < (gi b0 5))) then
              some (0, false, (n_impl_Msg b0))
            else spec_MsgOk_l6 k_ (IntKind.i64.wrap (i3 + 1)) (n_impl_Msg b0)
          else none
        else none
      else none
    else some (1, false, (n_impl_Msg b0))
def spec_MsgOk (m : V) : Option (Bool) :=
  bif (decide ((gi m 0) < 0)) then
    some false
  else bif (decide ((3 : Int) < (gi m 0))) then
    some false
  else bif (!(spec_l3server (gi m 1))) then
    some false
  else bif (!(spec_l3server (gi m 2))) then
    some false
  else bif (decide ((gi m 1) = (gi m 2))) then
    some false
  else bif (decide ((gi m 3) < 1)) then
    some false
  else bif (!(spec_l3term (gi m 3))) then
    some false
  else bif (!(spec_l3place (gi m 4))) then
    some false
  else bif (!(spec_l3term (gi m 5))) then
    some false
  else bif (decide ((gi m 3) < (gi m 5))) then
    some false
  else bif (!(spec_l3place (gi m 7))) then
    some false
  else bif (decide ((4 : Int) < (((gl m 6).length : Nat) : Int))) then
    some false
  else bif (decide ((IntKind.i64.wrap (400 - (gi m 4))) < (((gl m 6).length : Nat) : Int))) then
    some false
  else bif (!((decide ((gi m 4) = 0)) == (decide ((gi m 5) = 0)))) then
    bif (!(decide ((gi m 0) = 3))) then
      bif (!(decide ((gi m 0) = 1))) then
        some false
      else Option.bind (spec_MsgOk_l6 (((((gl (n_impl_Msg m) 6).length : Nat) : Int) - 0).toNat + 1) 0 (n_impl_Msg m)) fun r37 =>
      bif (Nat.beq r37.1 0) then
        some r37.2.1
      else bif (decide ((gi r37.2.2 0) = 0)) then
        bif (decide ((((gl r37.2.2 6).length : Nat) : Int) = 0)) then
          bif (decide ((gi r37.2.2 7) = 0)) then
            some (!(gb r37.2.2 8))
          else some false
        else some false
      else bif (decide ((gi r37.2.2 0) = 1)) then
        bif (decide ((gi r37.2.2 4) = 0)) then
          bif (decide ((gi r37.2.2 5) = 0)) then
            bif (decide ((((gl r37.2.2 6).length : Nat) : Int) = 0)) then
              some (decide ((gi r37.2.2 7) = 0))
            else some false
          else some false
        else some false
      else bif (decide ((gi r37.2.2 0) = 2)) then
        some (!(gb r37.2.2 8))
      else bif (decide ((gi r37.2.2 5) = 0)) then
        bif (decide ((((gl r37.2.2 6).length : Nat) : Int) = 0)) then
          some (decide ((gi r37.2.2 7) = 0))
        else some false
      else some false
    else Option.bind (spec_MsgOk_l6 (((((gl (n_impl_Msg m) 6).length : Nat) : Int) - 0).toNat + 1) 0 (n_impl_Msg m)) fun r38 =>
    bif (Nat.beq r38.1 0) then
      some r38.2.1
    else bif (decide ((gi r38.2.2 0) = 0)) then
      bif (decide ((((gl r38.2.2 6).length : Nat) : Int) = 0)) then
        bif (decide ((gi r38.2.2 7) = 0)) then
          some (!(gb r38.2.2 8))
        else some false
      else some false
    else bif (decide ((gi r38.2.2 0) = 1)) then
      bif (decide ((gi r38.2.2 4) = 0)) then
        bif (decide ((gi r38.2.2 5) = 0)) then
          bif (decide ((((gl r38.2.2 6).length : Nat) : Int) = 0)) then
            some (decide ((gi r38.2.2 7) = 0))
          else some false
        else some false
      else some false
    else bif (decide ((gi r38.2.2 0) = 2)) then
      some (!(gb r38.2.2 8))
    else bif (decide ((gi r38.2.2 5) = 0)) then
      bif (decide ((((gl r38.2.2 6).length : Nat) : Int) = 0)) then
        some (decide ((gi r38.2.2 7) = 0))
      else some false
    else some false
  else Option.bind (spec_MsgOk_l6 (((((gl (n_impl_Msg m) 6).length : Nat) : Int) - 0).toNat + 1) 0 (n_impl_Msg m)) fun r39 =>
  bif (Nat.beq r39.1 0) then
    some r39.2.1
  else bif (decide ((gi r39.2.2 0) = 0)) then
    bif (decide ((((gl r39.2.2 6).length : Nat) : Int) = 0)) then
      bif (decide ((gi r39.2.2 7) = 0)) then
        some (!(gb r39.2.2 8))
      else some false
    else some false
  else bif (decide ((gi r39.2.2 0) = 1)) then
    bif (decide ((gi r39.2.2 4) = 0)) then
      bif (decide ((gi r39.2.2 5) = 0)) then
        bif (decide ((((gl r39.2.2 6).length : Nat) : Int) = 0)) then
          some (decide ((gi r39.2.2 7) = 0))
        else some false
      else some false
    else some false
  else bif (decide ((gi r39.2.2 0) = 2)) then
    some (!(gb r39.2.2 8))
  else bif (decide ((gi r39.2.2 5) = 0)) then
    bif (decide ((((gl r39.2.2 6).length : Nat) : Int) = 0)) then
      some (decide ((gi r39.2.2 7) = 0))
    else some false
  else some false
def spec_l3ownItem (x : V) : Option (V) :=
  bif ((roomy (0 + ((gl x 4).length)) 1) && true) then
    bif ((roomy (0 + ((gl x 5).length)) 1) && true) then
      some (n_laws_Item x)
    else none
  else none
def spec_l3ownItems_l3 : Nat → List V → Int → List V → Option (List V)
  | 0, _, _, _ => none
  | k_ + 1, l0, i4, r0 =>
    bif (decide (i4 < ((l0.length : Nat) : Int))) then
      bif (idxOk i4 l0.length) then
        Option.bind (spec_l3ownItem (n_laws_Item (rd l0 i4.toNat))) fun r41 =>
        bif ((roomy (r0.length + 1) 88) && true) then
          spec_l3ownItems_l3 k_ l0 (IntKind.i64.wrap (i4 + 1)) (r0 ++ [(n_laws_Item r41)])
        else none
      else none
    else some r0
def spec_l3ownItems (l : List V) : Option (List V) :=
  Option.bind (spec_l3ownItems_l3 ((((l.length : Nat) : Int) - 0).toNat + 1) l 0 []) fun r42 =>
  some r42
def spec_l4own (n : V) : Option (V) :=
  Option.bind (spec_l3ownItems (gl n 3)) fun r43 =>
  bif ((roomy (0 + ((gl n 8).length)) 1) && true) then
    bif ((roomy (0 + ((gl n 9).length)) 8) && true) then
      bif ((roomy (0 + ((gl n 10).length)) 8) && true) then
        some (V.agg [(V.int .i64 (gi n 0)), (V.int .i64 (gi n 1)), (V.int .i64 (gi n 2)), (V.inl t_impl_Item r43), (V.int .i64 (gi n 4)), (V.int .i64 (gi n 5)), (V.int .i64 (gi n 6)), (V.int .i64 (gi n 7)), (V.inl t_bool (gl n 8)), (V.inl t_int' (gl n 9)), (V.inl t_int' (gl n 10))])
      else none
    else none
  else none
def spec_l4follow_l6 : Nat → Int → V → List V → List V → List V → List V → Option (V × List V × List V × List V × List V)
  | 0, _, _, _, _, _, _ => none
  | k_ + 1, i4, b0, r1, r2, r3, r4 =>
    bif (decide (i4 < ((r2.length : Nat) : Int))) then
      bif (idxOk i4 r2.length) then
        bif (idxOk i4 r3.length) then
          bif (idxOk i4 r4.length) then
            spec_l4follow_l6 k_ (IntKind.i64.wrap (i4 + 1)) (V.agg [(V.int .i64 (gi b0 0)), (V.int .i64 (gi b0 1)), (V.int .i64 (gi b0 2)), (V.sl 1 t_impl_Item 0 none), (V.int .i64 (gi b0 4)), (V.int .i64 (gi b0 5)), (V.int .i64 (gi b0 6)), (V.int .i64 (gi b0 7)), (V.sl 2 t_bool 0 none), (V.sl 3 t_int' 0 none), (V.sl 4 t_int' 0 none)]) r1 (r2.set (0 + i4.toNat) (V.bool false)) (r3.set (0 + i4.toNat) (V.int .i64 0)) (r4.set (0 + i4.toNat) (V.int .i64 0))
          else none
        else none
      else none
    else some ((V.agg [(V.int .i64 (gi b0 0)), (V.int .i64 (gi b0 1)), (V.int .i64 (gi b0 2)), (V.sl 1 t_impl_Item 0 none), (V.int .i64 (gi b0 4)), (V.int .i64 (gi b0 5)), (V.int .i64 (gi b0 6)), (V.int .i64 (gi b0 7)), (V.sl 2 t_bool 0 none), (V.sl 3 t_int' 0 none), (V.sl 4 t_int' 0 none)]), r1, r2, r3, r4)
def spec_l4follow (n : V) (term_ : Int) : Option (V) :=
  bif (decide ((gi n 1) < term_)) then
    Option.bind (spec_l4follow_l6 (((((gl n 8).length : Nat) : Int) - 0).toNat + 1) 0 (V.agg [(V.int .i64 (gi n 0)), (V.int .i64 term_), (V.int .i64 (-1)), (V.sl 1 t_impl_Item 0 none), (V.int .i64 (gi n 4)), (V.int .i64 0), (V.int .i64 (-1)), (V.int .i64 (gi n 7)), (V.sl 2 t_bool 0 none), (V.sl 3 t_int' 0 none), (V.sl 4 t_int' 0 none)]) (gl n 3) (gl n 8) (gl n 9) (gl n 10)) fun r45 =>
    some (V.agg [(V.int .i64 (gi r45.1 0)), (V.int .i64 (gi r45.1 1)), (V.int .i64 (gi r45.1 2)), (V.inl t_impl_Item r45.2.1), (V.int .i64 (gi r45.1 4)), (V.int .i64 (gi r45.1 5)), (V.int .i64 (gi r45.1 6)), (V.int .i64 (gi r45.1 7)), (V.inl t_bool r45.2.2.1), (V.inl t_int' r45.2.2.2.1), (V.inl t_int' r45.2.2.2.2)])
  else Option.bind (spec_l4follow_l6 (((((gl n 8).length : Nat) : Int) - 0).toNat + 1) 0 (V.agg [(V.int .i64 (gi n 0)), (V.int .i64 (gi n 1)), (V.int .i64 (gi n 2)), (V.sl 1 t_impl_Item 0 none), (V.int .i64 (gi n 4)), (V.int .i64 0), (V.int .i64 (gi n 6)), (V.int .i64 (gi n 7)), (V.sl 2 t_bool 0 none), (V.sl 3 t_int' 0 none), (V.sl 4 t_int' 0 none)]) (gl n 3) (gl n 8) (gl n 9) (gl n 10)) fun r46 =>
  some (V.agg [(V.int .i64 (gi r46.1 0)), (V.int .i64 (gi r46.1 1)), (V.int .i64 (gi r46.1 2)), (V.inl t_impl_Item r46.2.1), (V.int .i64 (gi r46.1 4)), (V.int .i64 (gi r46.1 5)), (V.int .i64 (gi r46.1 6)), (V.int .i64 (gi r46.1 7)), (V.inl t_bool r46.2.2.1), (V.inl t_int' r46.2.2.2.1), (V.inl t_int' r46.2.2.2.2)])
def spec_l4termAt (n : V) (place : Int) : Option (Int) :=
  bif (decide (place < 1)) then
    some 0
  else bif (decide ((((gl n 3).length : Nat) : Int) < place)) then
    some 0
  else bif (idxOk (IntKind.i64.wrap (place - 1)) ((gl n 3).length)) then
    some (gi (rd (gl n 3) ((IntKind.i64.wrap (place - 1)).toNat)) 0)
  else none
def spec_l4vote (n : V) (m : V) : Option (List V × V) :=
  Option.bind (spec_l4termAt (n_impl_Node n) (((gl n 3).length : Nat) : Int)) fun r48 =>
  bif (decide (r48 < (gi m 5))) then
    bif (decide ((gi m 3) = (gi n 1))) then
      bif (decide ((gi n 5) = 0)) then
        bif (decide ((gi n 2) = (-1))) then
          some ([(V.agg [(V.int .i64 1), (V.int .i64 (gi n 0)), (V.int .i64 (gi m 1)), (V.int .i64 (gi n 1)), (V.int .i64 0), (V.int .i64 0), (V.inl t_impl_Item []), (V.int .i64 0), (V.bool true)])], (V.agg [(V.int .i64 (gi n 0)), (V.int .i64 (gi n 1)), (V.int .i64 (gi m 1)), (V.inl t_impl_Item (gl n 3)), (V.int .i64 (gi n 4)), (V.int .i64 (gi n 5)), (V.int .i64 (gi n 6)), (V.int .i64 0), (V.inl t_bool (gl n 8)), (V.inl t_int' (gl n 9)), (V.inl t_int' (gl n 10))]))
        else bif (decide ((gi n 2) = (gi m 1))) then
          some ([(V.agg [(V.int .i64 1), (V.int .i64 (gi n 0)), (V.int .i64 (gi m 1)), (V.int .i64 (gi n 1)), (V.int .i64 0), (V.int .i64 0), (V.inl t_impl_Item []), (V.int .i64 0), (V.bool true)])], (V.agg [(V.int .i64 (gi n 0)), (V.int .i64 (gi n 1)), (V.int .i64 (gi m 1)), (V.inl t_impl_Item (gl n 3)), (V.int .i64 (gi n 4)), (V.int .i64 (gi n 5)), (V.int .i64 (gi n 6)), (V.int .i64 0), (V.inl t_bool (gl n 8)), (V.inl t_int' (gl n 9)), (V.inl t_int' (gl n 10))]))
        else some ([(V.agg [(V.int .i64 1), (V.int .i64 (gi n 0)), (V.int .i64 (gi m 1)), (V.int .i64 (gi n 1)), (V.int .i64 0), (V.int .i64 0), (V.inl t_impl_Item []), (V.int .i64 0), (V.bool false)])], (n_impl_Node n))
      else some ([(V.agg [(V.int .i64 1), (V.int .i64 (gi n 0)), (V.int .i64 (gi m 1)), (V.int .i64 (gi n 1)), (V.int .i64 0), (V.int .i64 0), (V.inl t_impl_Item []), (V.int .i64 0), (V.bool false)])], (n_impl_Node n))
    else some ([(V.agg [(V.int .i64 1), (V.int .i64 (gi n 0)), (V.int .i64 (gi m 1)), (V.int .i64 (gi n 1)), (V.int .i64 0), (V.int .i64 0), (V.inl t_impl_Item []), (V.int .i64 0), (V.bool false)])], (n_impl_Node n))
  else bif (decide ((gi m 5) = r48)) then
    bif (decide ((gi m 3) = (gi n 1))) then
      bif (decide ((gi n 5) = 0)) then
        bif (decide ((gi n 2) = (-1))) then
          bif (decide ((((gl n 3).length : Nat) : Int) ≤ (gi m 4))) then
            some ([(V.agg [(V.int .i64 1), (V.int .i64 (gi n 0)), (V.int .i64 (gi m 1)), (V.int .i64 (gi n 1)), (V.int .i64 0), (V.int .i64 0), (V.inl t_impl_Item []), (V.int .i64 0), (V.bool (decide ((((gl n 3).length : Nat) : Int) ≤ (gi m 4))))])], (V.agg [(V.int .i64 (gi n 0)), (V.int .i64 (gi n 1)), (V.int .i64 (gi m 1)), (V.inl t_impl_Item (gl n 3)), (V.int .i64 (gi n 4)), (V.int .i64 (gi n 5)), (V.int .i64 (gi n 6)), (V.int .i64 0), (V.inl t_bool (gl n 8)), (V.inl t_int' (gl n 9)), (V.inl t_int' (gl n 10))]))
          else some ([(V.agg [(V.int .i64 1), (V.int .i64 (gi n 0)), (V.int .i64 (gi m 1)), (V.int .i64 (gi n 1)), (V.int .i64 0), (V.int .i64 0), (V.inl t_impl_Item []), (V.int .i64 0), (V.bool (decide ((((gl n 3).length : Nat) : Int) ≤ (gi m 4))))])], (n_impl_Node n))
        else bif (decide ((gi n 2) = (gi m 1))) then
          bif (decide ((((gl n 3).length : Nat) : Int) ≤ (gi m 4))) then
            some ([(V.agg [(V.int .i64 1), (V.int .i64 (gi n 0)), (V.int .i64 (gi m 1)), (V.int .i64 (gi n 1)), (V.int .i64 0), (V.int .i64 0), (V.inl t_impl_Item []), (V.int .i64 0), (V.bool (decide ((((gl n 3).length : Nat) : Int) ≤ (gi m 4))))])], (V.agg [(V.int .i64 (gi n 0)), (V.int .i64 (gi n 1)), (V.int .i64 (gi m 1)), (V.inl t_impl_Item (gl n 3)), (V.int .i64 (gi n 4)), (V.int .i64 (gi n 5)), (V.int .i64 (gi n 6)), (V.int .i64 0), (V.inl t_bool (gl n 8)), (V.inl t_int' (gl n 9)), (V.inl t_int' (gl n 10))]))
          else some ([(V.agg [(V.int .i64 1), (V.int .i64 (gi n 0)), (V.int .i64 (gi m 1)), (V.int .i64 (gi n 1)), (V.int .i64 0), (V.int .i64 0), (V.inl t_impl_Item []), (V.int .i64 0), (V.bool (decide ((((gl n 3).length : Nat) : Int) ≤ (gi m 4))))])], (n_impl_Node n))
        else some ([(V.agg [(V.int .i64 1), (V.int .i64 (gi n 0)), (V.int .i64 (gi m 1)), (V.int .i64 (gi n 1)), (V.int .i64 0), (V.int .i64 0), (V.inl t_impl_Item []), (V.int .i64 0), (V.bool false)])], (n_impl_Node n))
      else some ([(V.agg [(V.int .i64 1), (V.int .i64 (gi n 0)), (V.int .i64 (gi m 1)), (V.int .i64 (gi n 1)), (V.int .i64 0), (V.int .i64 0), (V.inl t_impl_Item []), (V.int .i64 0), (V.bool false)])], (n_impl_Node n))
    else some ([(V.agg [(V.int .i64 1), (V.int .i64 (gi n 0)), (V.int .i64 (gi m 1)), (V.int .i64 (gi n 1)), (V.int .i64 0), (V.int .i64 0), (V.inl t_impl_Item []), (V.int .i64 0), (V.bool false)])], (n_impl_Node n))
  else bif (decide ((gi m 3) = (gi n 1))) then
    bif (decide ((gi n 5) = 0)) then
      bif (decide ((gi n 2) = (-1))) then
        some ([(V.agg [(V.int .i64 1), (V.int .i64 (gi n 0)), (V.int .i64 (gi m 1)), (V.int .i64 (gi n 1)), (V.int .i64 0), (V.int .i64 0), (V.inl t_impl_Item []), (V.int .i64 0), (V.bool false)])], (n_impl_Node n))
      else bif (decide ((gi n 2) = (gi m 1))) then
        some ([(V.agg [(V.int .i64 1), (V.int .i64 (gi n 0)), (V.int .i64 (gi m 1)), (V.int .i64 (gi n 1)), (V.int .i64 0), (V.int .i64 0), (V.inl t_impl_Item []), (V.int .i64 0), (V.bool false)])], (n_impl_Node n))
      else some ([(V.agg [(V.int .i64 1), (V.int .i64 (gi n 0)), (V.int .i64 (gi m 1)), (V.int .i64 (gi n 1)), (V.int .i64 0), (V.int .i64 0), (V.inl t_impl_Item []), (V.int .i64 0), (V.bool false)])], (n_impl_Node n))
    else some ([(V.agg [(V.int .i64 1), (V.int .i64 (gi n 0)), (V.int .i64 (gi m 1)), (V.int .i64 (gi n 1)), (V.int .i64 0), (V.int .i64 0), (V.inl t_impl_Item []), (V.int .i64 0), (V.bool false)])], (n_impl_Node n))
  else some ([(V.agg [(V.int .i64 1), (V.int .i64 (gi n 0)), (V.int .i64 (gi m 1)), (V.int .i64 (gi n 1)), (V.int .i64 0), (V.int .i64 0), (V.inl t_impl_Item []), (V.int .i64 0), (V.bool false)])], (n_impl_Node n))
def spec_l4most (k : Int) (servers : Int) : Bool :=
  (decide (servers < (IntKind.i64.wrap (2 * k))))
def spec_l4commit_l7 : Nat → Int → Int → Int → V → List V → List V → List V → List V → Option (Int × Int × V × List V × List V × List V × List V)
  | 0, _, _, _, _, _, _, _, _ => none
  | k_ + 1, p2, k3, i4, b0, r1, r2, r3, r4 =>
    bif (decide (i4 < ((r4.length : Nat) : Int))) then
      bif (idxOk i4 r4.length) then
        bif (decide (p2 ≤ (gi (rd r4 (0 + i4.toNat)) 0))) then
          spec_l4commit_l7 k_ p2 (IntKind.i64.wrap (k3 + 1)) (IntKind.i64.wrap (i4 + 1)) (V.agg [(V.int .i64 (gi b0 0)), (V.int .i64 (gi b0 1)), (V.int .i64 (gi b0 2)), (V.sl 1 t_impl_Item 0 none), (V.int .i64 (gi b0 4)), (V.int .i64 (gi b0 5)), (V.int .i64 (gi b0 6)), (V.int .i64 (gi b0 7)), (V.sl 2 t_bool 0 none), (V.sl 3 t_int' 0 none), (V.sl 4 t_int' 0 none)]) r1 r2 r3 r4
        else spec_l4commit_l7 k_ p2 k3 (IntKind.i64.wrap (i4 + 1)) (V.agg [(V.int .i64 (gi b0 0)), (V.int .i64 (gi b0 1)), (V.int .i64 (gi b0 2)), (V.sl 1 t_impl_Item 0 none), (V.int .i64 (gi b0 4)), (V.int .i64 (gi b0 5)), (V.int .i64 (gi b0 6)), (V.int .i64 (gi b0 7)), (V.sl 2 t_bool 0 none), (V.sl 3 t_int' 0 none), (V.sl 4 t_int' 0 none)]) r1 r2 r3 r4
      else none
    else some (p2, k3, (V.agg [(V.int .i64 (gi b0 0)), (V.int .i64 (gi b0 1)), (V.int .i64 (gi b0 2)), (V.sl 1 t_impl_Item 0 none), (V.int .i64 (gi b0 4)), (V.int .i64 (gi b0 5)), (V.int .i64 (gi b0 6)), (V.int .i64 (gi b0 7)), (V.sl 2 t_bool 0 none), (V.sl 3 t_int' 0 none), (V.sl 4 t_int' 0 none)]), r1, r2, r3, r4)
def spec_l4commit_l3 : Nat → Int → V → List V → List V → List V → List V → Option (Nat × V × List V × List V × List V × List V)
  | 0, _, _, _, _, _, _ => none
  | k_ + 1, p2, b0, r1, r2, r3, r4 =>
    bif (decide ((gi b0 4) < p2)) then
      Option.bind (spec_l4commit_l7 ((((r4.length : Nat) : Int) - 0).toNat + 1) p2 0 0 (V.agg [(V.int .i64 (gi b0 0)), (V.int .i64 (gi b0 1)), (V.int .i64 (gi b0 2)), (V.sl 1 t_impl_Item 0 none), (V.int .i64 (gi b0 4)), (V.int .i64 (gi b0 5)), (V.int .i64 (gi b0 6)), (V.int .i64 (gi b0 7)), (V.sl 2 t_bool 0 none), (V.sl 3 t_int' 0 none), (V.sl 4 t_int' 0 none)]) r1 r2 r3 r4) fun r52 =>
      bif spec_l4most r52.2.1 ((r52.2.2.2.2.2.2.length : Nat) : Int) then
        Option.bind (spec_l4termAt (V.agg [(V.int .i64 (gi r52.2.2.1 0)), (V.int .i64 (gi r52.2.2.1 1)), (V.int .i64 (gi r52.2.2.1 2)), (V.inl t_impl_Item r52.2.2.2.1), (V.int .i64 (gi r52.2.2.1 4)), (V.int .i64 (gi r52.2.2.1 5)), (V.int .i64 (gi r52.2.2.1 6)), (V.int .i64 (gi r52.2.2.1 7)), (V.inl t_bool r52.2.2.2.2.1), (V.inl t_int' r52.2.2.2.2.2.1), (V.inl t_int' r52.2.2.2.2.2.2)]) r52.1) fun r53 =>
        bif (decide (r53 = (gi r52.2.2.1 1))) then
          some (0, (V.agg [(V.int .i64 (gi r52.2.2.1 0)), (V.int .i64 (gi r52.2.2.1 1)), (V.int .i64 (gi r52.2.2.1 2)), (V.sl 1 t_impl_Item 0 none), (V.int .i64 r52.1), (V.int .i64 (gi r52.2.2.1 5)), (V.int .i64 (gi r52.2.2.1 6)), (V.int .i64 (gi r52.2.2.1 7)), (V.sl 2 t_bool 0 none), (V.sl 3 t_int' 0 none), (V.sl 4 t_int' 0 none)]), r52.2.2.2.1, r52.2.2.2.2.1, r52.2.2.2.2.2.1, r52.2.2.2.2.2.2)
        else spec_l4commit_l3 k_ (IntKind.i64.wrap (r52.1 - 1)) (V.agg [(V.int .i64 (gi r52.2.2.1 0)), (V.int .i64 (gi r52.2.2.1 1)), (V.int .i64 (gi r52.2.2.1 2)), (V.sl 1 t_impl_Item 0 none), (V.int .i64 (gi r52.2.2.1 4)), (V.int .i64 (gi r52.2.2.1 5)), (V.int .i64 (gi r52.2.2.1 6)), (V.int .i64 (gi r52.2.2.1 7)), (V.sl 2 t_bool 0 none), (V.sl 3 t_int' 0 none), (V.sl 4 t_int' 0 none)]) r52.2.2.2.1 r52.2.2.2.2.1 r52.2.2.2.2.2.1 r52.2.2.2.2.2.2
      else spec_l4commit_l3 k_ (IntKind.i64.wrap (r52.1 - 1)) (V.agg [(V.int .i64 (gi r52.2.2.1 0)), (V.int .i64 (gi r52.2.2.1 1)), (V.int .i64 (gi r52.2.2.1 2)), (V.sl 1 t_impl_Item 0 none), (V.int .i64 (gi r52.2.2.1 4)), (V.int .i64 (gi r52.2.2.1 5)), (V.int .i64 (gi r52.2.2.1 6)), (V.int .i64 (gi r52.2.2.1 7)), (V.sl 2 t_bool 0 none), (V.sl 3 t_int' 0 none), (V.sl 4 t_int' 0 none)]) r52.2.2.2.1 r52.2.2.2.2.1 r52.2.2.2.2.2.1 r52.2.2.2.2.2.2
    else some (1, (V.agg [(V.int .i64 (gi b0 0)), (V.int .i64 (gi b0 1)), (V.int .i64 (gi b0 2)), (V.sl 1 t_impl_Item 0 none), (V.int .i64 (gi b0 4)), (V.int .i64 (gi b0 5)), (V.int .i64 (gi b0 6)), (V.int .i64 (gi b0 7)), (V.sl 2 t_bool 0 none), (V.sl 3 t_int' 0 none), (V.sl 4 t_int' 0 none)]), r1, r2, r3, r4)
def spec_l4commit (n : V) : Option (V) :=
  bif (idxOk (gi n 0) ((gl n 10).length)) then
    bif (idxOk (gi n 0) ((gl n 9).length)) then
      Option.bind (spec_l4commit_l3 (((((gl n 3).length : Nat) : Int) - (gi (V.agg [(V.int .i64 (gi n 0)), (V.int .i64 (gi n 1)), (V.int .i64 (gi n 2)), (V.sl 1 t_impl_Item 0 none), (V.int .i64 (gi n 4)), (V.int .i64 (gi n 5)), (V.int .i64 (gi n 6)), (V.int .i64 (gi n 7)), (V.sl 2 t_bool 0 none), (V.sl 3 t_int' 0 none), (V.sl 4 t_int' 0 none)]) 4)).toNat + 1) (((gl n 3).length : Nat) : Int) (V.agg [(V.int .i64 (gi n 0)), (V.int .i64 (gi n 1)), (V.int .i64 (gi n 2)), (V.sl 1 t_impl_Item 0 none), (V.int .i64 (gi n 4)), (V.int .i64 (gi n 5)), (V.int .i64 (gi n 6)), (V.int .i64 (gi n 7)), (V.sl 2 t_bool 0 none), (V.sl 3 t_int' 0 none), (V.sl 4 t_int' 0 none)]) (gl n 3) (gl n 8) ((gl n 9).set (0 + ((gi n 0).toNat)) (V.int .i64 (IntKind.i64.wrap ((((gl n 3).length : Nat) : Int) + 1)))) ((gl n 10).set (0 + ((gi n 0).toNat)) (V.int .i64 (((gl n 3).length : Nat) : Int)))) fun r54 =>
      bif (Nat.beq r54.1 0) then
        some (V.agg [(V.int .i64 (gi r54.2.1 0)), (V.int .i64 (gi r54.2.1 1)), (V.int .i64 (gi r54.2.1 2)), (V.inl t_impl_Item r54.2.2.1), (V.int .i64 (gi r54.2.1 4)), (V.int .i64 (gi r54.2.1 5)), (V.int .i64 (gi r54.2.1 6)), (V.int .i64 (gi r54.2.1 7)), (V.inl t_bool r54.2.2.2.1), (V.inl t_int' r54.2.2.2.2.1), (V.inl t_int' r54.2.2.2.2.2)])
      else some (V.agg [(V.int .i64 (gi r54.2.1 0)), (V.int .i64 (gi r54.2.1 1)), (V.int .i64 (gi r54.2.1 2)), (V.inl t_impl_Item r54.2.2.1), (V.int .i64 (gi r54.2.1 4)), (V.int .i64 (gi r54.2.1 5)), (V.int .i64 (gi r54.2.1 6)), (V.int .i64 (gi r54.2.1 7)), (V.inl t_bool r54.2.2.2.1), (V.inl t_int' r54.2.2.2.2.1), (V.inl t_int' r54.2.2.2.2.2)])
    else none
  else none
def spec_l4add_v1_l4 : Nat → Int → V → V → V → List V → List V → List V → List V → List V → List V → Option (V × V × V × List V × List V × List V × List V × List V × List V)
  | 0, _, _, _, _, _, _, _, _, _, _ => none
  | k_ + 1, i7, b0, b1, b2, r3, r4, r5, r6, r7, r8 =>
    bif (decide (i7 < ((r3.length : Nat) : Int))) then
      bif (decide (((r8.length : Nat) : Int) < 4)) then
        bif (idxOk i7 r3.length) then
          bif ((roomy (r8.length + 1) 88) && true) then
            spec_l4add_v1_l4 k_ (IntKind.i64.wrap (i7 + 1)) (V.agg [(V.int .i64 (gi b0 0)), (V.int .i64 (gi b0 1)), (V.int .i64 (gi b0 2)), (V.sl 3 t_impl_Item 0 none), (V.int .i64 (gi b0 4)), (V.int .i64 (gi b0 5)), (V.int .i64 (gi b0 6)), (V.int .i64 (gi b0 7)), (V.sl 4 t_bool 0 none), (V.sl 5 t_int' 0 none), (V.sl 6 t_int' 0 none)]) (V.agg [(V.int .i64 (gi b1 0)), (V.int .i64 (gi b1 1)), (V.int .i64 (gi b1 2)), (V.int .i64 (gi b1 3)), (V.int .i64 (gi b1 4)), (V.int .i64 (gi b1 5)), (V.sl 7 t_impl_Item 0 none), (V.int .i64 (gi b1 7)), (V.bool (gb b1 8))]) (V.agg [(V.int .i64 (gi b2 0)), (V.int .i64 (gi b2 1)), (V.int .i64 (gi b2 2)), (V.int .i64 (gi b2 3)), (V.int .i64 (gi b2 4)), (V.int .i64 (gi b2 5)), (V.sl 8 t_impl_Item 0 none), (V.int .i64 (gi b2 7)), (V.bool (gb b2 8))]) r3 r4 r5 r6 r7 (r8 ++ [(n_laws_Item (rd r3 (0 + i7.toNat)))])
          else none
        else none
      else some ((V.agg [(V.int .i64 (gi b0 0)), (V.int .i64 (gi b0 1)), (V.int .i64 (gi b0 2)), (V.sl 3 t_impl_Item 0 none), (V.int .i64 (gi b0 4)), (V.int .i64 (gi b0 5)), (V.int .i64 (gi b0 6)), (V.int .i64 (gi b0 7)), (V.sl 4 t_bool 0 none), (V.sl 5 t_int' 0 none), (V.sl 6 t_int' 0 none)]), (V.agg [(V.int .i64 (gi b1 0)), (V.int .i64 (gi b1 1)), (V.int .i64 (gi b1 2)), (V.int .i64 (gi b1 3)), (V.int .i64 (gi b1 4)), (V.int .i64 (gi b1 5)), (V.sl 7 t_impl_Item 0 none), (V.int .i64 (gi b1 7)), (V.bool (gb b1 8))]), (V.agg [(V.int .i64 (gi b2 0)), (V.int .i64 (gi b2 1)), (V.int .i64 (gi b2 2)), (V.int .i64 (gi b2 3)), (V.int .i64 (gi b2 4)), (V.int .i64 (gi b2 5)), (V.sl 8 t_impl_Item 0 none), (V.int .i64 (gi b2 7)), (V.bool (gb b2 8))]), r3, r4, r5, r6, r7, r8)
    else some ((V.agg [(V.int .i64 (gi b0 0)), (V.int .i64 (gi b0 1)), (V.int .i64 (gi b0 2)), (V.sl 3 t_impl_Item 0 none), (V.int .i64 (gi b0 4)), (V.int .i64 (gi b0 5)), (V.int .i64 (gi b0 6)), (V.int .i64 (gi b0 7)), (V.sl 4 t_bool 0 none), (V.sl 5 t_int' 0 none), (V.sl 6 t_int' 0 none)]), (V.agg [(V.int .i64 (gi b1 0)), (V.int .i64 (gi b1 1)), (V.int .i64 (gi b1 2)), (V.int .i64 (gi b1 3)), (V.int .i64 (gi b1 4)), (V.int .i64 (gi b1 5)), (V.sl 7 t_impl_Item 0 none), (V.int .i64 (gi b1 7)), (V.bool (gb b1 8))]), (V.agg [(V.int .i64 (gi b2 0)), (V.int .i64 (gi b2 1)), (V.int .i64 (gi b2 2)), (V.int .i64 (gi b2 3)), (V.int .i64 (gi b2 4)), (V.int .i64 (gi b2 5)), (V.sl 8 t_impl_Item 0 none), (V.int .i64 (gi b2 7)), (V.bool (gb b2 8))]), r3, r4, r5, r6, r7, r8)
def spec_l4add_v1 (n : V) (to : Int) : Option (V × V) :=
  bif (idxOk to ((gl n 9).length)) then
    Option.bind (spec_l4termAt (n_impl_Node n) (IntKind.i64.wrap ((gi (rd (gl n 9) (0 + to.toNat)) 0) - 1))) fun r70 =>
    Option.bind (spec_l4add_v1_l4 (((((gl n 3).length : Nat) : Int) - (IntKind.i64.wrap ((gi (rd (gl n 9) (0 + to.toNat)) 0) - 1))).toNat + 1) (IntKind.i64.wrap ((gi (rd (gl n 9) (0 + to.toNat)) 0) - 1)) (V.agg [(V.int .i64 (gi n 0)), (V.int .i64 (gi n 1)), (V.int .i64 (gi n 2)), (V.sl 3 t_impl_Item 0 none), (V.int .i64 (gi n 4)), (V.int .i64 (gi n 5)), (V.int .i64 (gi n 6)), (V.int .i64 (gi n 7)), (V.sl 4 t_bool 0 none), (V.sl 5 t_int' 0 none), (V.sl 6 t_int' 0 none)]) (V.agg [(V.int .i64 0), (V.int .i64 0), (V.int .i64 0), (V.int .i64 0), (V.int .i64 0), (V.int .i64 0), (V.sl 7 t_impl_Item 0 none), (V.int .i64 0), (V.bool false)]) (V.agg [(V.int .i64 2), (V.int .i64 (gi n 0)), (V.int .i64 to), (V.int .i64 (gi n 1)), (V.int .i64 (IntKind.i64.wrap ((gi (rd (gl n 9) (0 + to.toNat)) 0) - 1))), (V.int .i64 r70), (V.sl 8 t_impl_Item 0 none), (V.int .i64 (gi n 4)), (V.bool false)]) (gl n 3) (gl n 8) (gl n 9) (gl n 10) [] []) fun r71 =>
    some ((V.agg [(V.int .i64 (gi r71.2.2.1 0)), (V.int .i64 (gi r71.2.2.1 1)), (V.int .i64 (gi r71.2.2.1 2)), (V.int .i64 (gi r71.2.2.1 3)), (V.int .i64 (gi r71.2.2.1 4)), (V.int .i64 (gi r71.2.2.1 5)), (V.inl t_impl_Item r71.2.2.2.2.2.2.2.2), (V.int .i64 (gi r71.2.2.1 7)), (V.bool (gb r71.2.2.1 8))]), (V.agg [(V.int .i64 (gi r71.1 0)), (V.int .i64 (gi r71.1 1)), (V.int .i64 (gi r71.1 2)), (V.inl t_impl_Item r71.2.2.2.1), (V.int .i64 (gi r71.1 4)), (V.int .i64 (gi r71.1 5)), (V.int .i64 (gi r71.1 6)), (V.int .i64 (gi r71.1 7)), (V.inl t_bool r71.2.2.2.2.1), (V.inl t_int' r71.2.2.2.2.2.1), (V.inl t_int' r71.2.2.2.2.2.2.1)]))
  else none
def spec_l4all_v1_l3 : Nat → Int → V → List V → List V → List V → List V → List V → Option (V × List V × List V × List V × List V × List V)
  | 0, _, _, _, _, _, _, _ => none
  | k_ + 1, i4, b0, r1, r2, r3, r4, r5 =>
    bif (decide (i4 < ((r3.length : Nat) : Int))) then
      bif (!(decide (i4 = (gi b0 0)))) then
        Option.bind (spec_l4add_v1 (V.agg [(V.int .i64 (gi b0 0)), (V.int .i64 (gi b0 1)), (V.int .i64 (gi b0 2)), (V.inl t_impl_Item r2), (V.int .i64 (gi b0 4)), (V.int .i64 (gi b0 5)), (V.int .i64 (gi b0 6)), (V.int .i64 (gi b0 7)), (V.inl t_bool r3), (V.inl t_int' r4), (V.inl t_int' r5)]) i4) fun r73 =>
        bif ((roomy (r1.length + 1) 88) && true) then
          spec_l4all_v1_l3 k_ (IntKind.i64.wrap (i4 + 1)) (V.agg [(V.int .i64 (gi r73.2 0)), (V.int .i64 (gi r73.2 1)), (V.int .i64 (gi r73.2 2)), (V.sl 2 t_impl_Item 0 none), (V.int .i64 (gi r73.2 4)), (V.int .i64 (gi r73.2 5)), (V.int .i64 (gi r73.2 6)), (V.int .i64 (gi r73.2 7)), (V.sl 3 t_bool 0 none), (V.sl 4 t_int' 0 none), (V.sl 5 t_int' 0 none)]) (r1 ++ [(n_impl_Msg r73.1)]) (gl r73.2 3) (gl r73.2 8) (gl r73.2 9) (gl r73.2 10)
        else none
      else spec_l4all_v1_l3 k_ (IntKind.i64.wrap (i4 + 1)) (V.agg [(V.int .i64 (gi b0 0)), (V.int .i64 (gi b0 1)), (V.int .i64 (gi b0 2)), (V.sl 2 t_impl_Item 0 none), (V.int .i64 (gi b0 4)), (V.int .i64 (gi b0 5)), (V.int .i64 (gi b0 6)), (V.int .i64 (gi b0 7)), (V.sl 3 t_bool 0 none), (V.sl 4 t_int' 0 none), (V.sl 5 t_int' 0 none)]) r1 r2 r3 r4 r5
    else some ((V.agg [(V.int .i64 (gi b0 0)), (V.int .i64 (gi b0 1)), (V.int .i64 (gi b0 2)), (V.sl 2 t_impl_Item 0 none), (V.int .i64 (gi b0 4)), (V.int .i64 (gi b0 5)), (V.int .i64 (gi b0 6)), (V.int .i64 (gi b0 7)), (V.sl 3 t_bool 0 none), (V.sl 4 t_int' 0 none), (V.sl 5 t_int' 0 none)]), r1, r2, r3, r4, r5)
def spec_l4all_v1 (n : V) : Option (List V × V) :=
  Option.bind (spec_l4all_v1_l3 (((((gl n 8).length : Nat) : Int) - 0).toNat + 1) 0 (V.agg [(V.int .i64 (gi n 0)), (V.int .i64 (gi n 1)), (V.int .i64 (gi n 2)), (V.sl 2 t_impl_Item 0 none), (V.int .i64 (gi n 4)), (V.int .i64 (gi n 5)), (V.int .i64 (gi n 6)), (V.int .i64 (gi n 7)), (V.sl 3 t_bool 0 none), (V.sl 4 t_int' 0 none), (V.sl 5 t_int' 0 none)]) [] (gl n 3) (gl n 8) (gl n 9) (gl n 10)) fun r74 =>
  some (r74.2.1, (V.agg [(V.int .i64 (gi r74.1 0)), (V.int .i64 (gi r74.1 1)), (V.int .i64 (gi r74.1 2)), (V.inl t_impl_Item r74.2.2.1), (V.int .i64 (gi r74.1 4)), (V.int .i64 (gi r74.1 5)), (V.int .i64 (gi r74.1 6)), (V.int .i64 (gi r74.1 7)), (V.inl t_bool r74.2.2.2.1), (V.inl t_int' r74.2.2.2.2.1), (V.inl t_int' r74.2.2.2.2.2)]))
def spec_l4lead_l3 : Nat → Int → Int → V → List V → List V → List V → List V → Option (Int × V × List V × List V × List V × List V)
  | 0, _, _, _, _, _, _, _ => none
  | k_ + 1, k3, i4, b0, r1, r2, r3, r4 =>
    bif (decide (i4 < ((r2.length : Nat) : Int))) then
      bif (idxOk i4 r2.length) then
        bif (gb (rd r2 (0 + i4.toNat)) 0) then
          spec_l4lead_l3 k_ (IntKind.i64.wrap (k3 + 1)) (IntKind.i64.wrap (i4 + 1)) (V.agg [(V.int .i64 (gi b0 0)), (V.int .i64 (gi b0 1)), (V.int .i64 (gi b0 2)), (V.sl 1 t_impl_Item 0 none), (V.int .i64 (gi b0 4)), (V.int .i64 (gi b0 5)), (V.int .i64 (gi b0 6)), (V.int .i64 (gi b0 7)), (V.sl 2 t_bool 0 none), (V.sl 3 t_int' 0 none), (V.sl 4 t_int' 0 none)]) r1 r2 r3 r4
        else spec_l4lead_l3 k_ k3 (IntKind.i64.wrap (i4 + 1)) (V.agg [(V.int .i64 (gi b0 0)), (V.int .i64 (gi b0 1)), (V.int .i64 (gi b0 2)), (V.sl 1 t_impl_Item 0 none), (V.int .i64 (gi b0 4)), (V.int .i64 (gi b0 5)), (V.int .i64 (gi b0 6)), (V.int .i64 (gi b0 7)), (V.sl 2 t_bool 0 none), (V.sl 3 t_int' 0 none), (V.sl 4 t_int' 0 none)]) r1 r2 r3 r4
      else none
    else some (k3, (V.agg [(V.int .i64 (gi b0 0)), (V.int .i64 (gi b0 1)), (V.int .i64 (gi b0 2)), (V.sl 1 t_impl_Item 0 none), (V.int .i64 (gi b0 4)), (V.int .i64 (gi b0 5)), (V.int .i64 (gi b0 6)), (V.int .i64 (gi b0 7)), (V.sl 2 t_bool 0 none), (V.sl 3 t_int' 0 none), (V.sl 4 t_int' 0 none)]), r1, r2, r3, r4)
def spec_l4lead_l13 : Nat → Int → V → List V → List V → List V → List V → Option (V × List V × List V × List V × List V)
  | 0, _, _, _, _, _, _ => none
  | k_ + 1, i5, b0, r1, r2, r3, r4 =>
    bif (decide (i5 < ((r3.length : Nat) : Int))) then
      bif (idxOk i5 r3.length) then
        bif (idxOk i5 r4.length) then
          spec_l4lead_l13 k_ (IntKind.i64.wrap (i5 + 1)) (V.agg [(V.int .i64 (gi b0 0)), (V.int .i64 (gi b0 1)), (V.int .i64 (gi b0 2)), (V.sl 1 t_impl_Item 0 none), (V.int .i64 (gi b0 4)), (V.int .i64 (gi b0 5)), (V.int .i64 (gi b0 6)), (V.int .i64 (gi b0 7)), (V.sl 2 t_bool 0 none), (V.sl 3 t_int' 0 none), (V.sl 4 t_int' 0 none)]) r1 r2 (r3.set (0 + i5.toNat) (V.int .i64 (IntKind.i64.wrap (((r1.length : Nat) : Int) + 1)))) (r4.set (0 + i5.toNat) (V.int .i64 0))
        else none
      else none
    else some ((V.agg [(V.int .i64 (gi b0 0)), (V.int .i64 (gi b0 1)), (V.int .i64 (gi b0 2)), (V.sl 1 t_impl_Item 0 none), (V.int .i64 (gi b0 4)), (V.int .i64 (gi b0 5)), (V.int .i64 (gi b0 6)), (V.int .i64 (gi b0 7)), (V.sl 2 t_bool 0 none), (V.sl 3 t_int' 0 none), (V.sl 4 t_int' 0 none)]), r1, r2, r3, r4)
def spec_l4lead (n : V) : Option (List V × V) :=
  Option.bind (spec_l4lead_l3 (((((gl n 8).length : Nat) : Int) - 0).toNat + 1) 0 0 (V.agg [(V.int .i64 (gi n 0)), (V.int .i64 (gi n 1)), (V.int .i64 (gi n 2)), (V.sl 1 t_impl_Item 0 none), (V.int .i64 (gi n 4)), (V.int .i64 (gi n 5)), (V.int .i64 (gi n 6)), (V.int .i64 (gi n 7)), (V.sl 2 t_bool 0 none), (V.sl 3 t_int' 0 none), (V.sl 4 t_int' 0 none)]) (gl n 3) (gl n 8) (gl n 9) (gl n 10)) fun r64 =>
  bif (!(spec_l4most r64.1 ((r64.2.2.2.1.length : Nat) : Int))) then
    some ([], (V.agg [(V.int .i64 (gi r64.2.1 0)), (V.int .i64 (gi r64.2.1 1)), (V.int .i64 (gi r64.2.1 2)), (V.inl t_impl_Item r64.2.2.1), (V.int .i64 (gi r64.2.1 4)), (V.int .i64 (gi r64.2.1 5)), (V.int .i64 (gi r64.2.1 6)), (V.int .i64 (gi r64.2.1 7)), (V.inl t_bool r64.2.2.2.1), (V.inl t_int' r64.2.2.2.2.1), (V.inl t_int' r64.2.2.2.2.2)]))
  else Option.bind (spec_l4lead_l13 ((((r64.2.2.2.2.1.length : Nat) : Int) - 0).toNat + 1) 0 (V.agg [(V.int .i64 (gi r64.2.1 0)), (V.int .i64 (gi r64.2.1 1)), (V.int .i64 (gi r64.2.1 2)), (V.sl 1 t_impl_Item 0 none), (V.int .i64 (gi r64.2.1 4)), (V.int .i64 2), (V.int .i64 (gi r64.2.1 0)), (V.int .i64 0), (V.sl 2 t_bool 0 none), (V.sl 3 t_int' 0 none), (V.sl 4 t_int' 0 none)]) r64.2.2.1 r64.2.2.2.1 r64.2.2.2.2.1 r64.2.2.2.2.2) fun r65 =>
  bif (decide (((r65.2.1.length : Nat) : Int) < 400)) then
    bif ((roomy (0 + r65.2.1.length) 88) && true) then
      bif ((roomy (r65.2.1.length + 1) 88) && true) then
        Option.bind (spec_l4commit (V.agg [(V.int .i64 (gi r65.1 0)), (V.int .i64 (gi r65.1 1)), (V.int .i64 (gi r65.1 2)), (V.inl t_impl_Item (r65.2.1 ++ [(V.agg [(V.int .i64 (gi r65.1 1)), (V.int .i64 (-1)), (V.int .i64 0), (V.int .i64 0), (V.inl t_byte []), (V.inl t_byte []), (V.int .i64 0)])])), (V.int .i64 (gi r65.1 4)), (V.int .i64 (gi r65.1 5)), (V.int .i64 (gi r65.1 6)), (V.int .i64 (gi r65.1 7)), (V.inl t_bool r65.2.2.1), (V.inl t_int' r65.2.2.2.1), (V.inl t_int' r65.2.2.2.2)])) fun r66 =>
        Option.bind (spec_l4all_v1 (n_impl_Node r66)) fun r75 =>
        some (r75.1, (n_impl_Node r75.2))
      else none
    else none
  else Option.bind (spec_l4commit (V.agg [(V.int .i64 (gi r65.1 0)), (V.int .i64 (gi r65.1 1)), (V.int .i64 (gi r65.1 2)), (V.inl t_impl_Item r65.2.1), (V.int .i64 (gi r65.1 4)), (V.int .i64 (gi r65.1 5)), (V.int .i64 (gi r65.1 6)), (V.int .i64 (gi r65.1 7)), (V.inl t_bool r65.2.2.1), (V.inl t_int' r65.2.2.2.1), (V.inl t_int' r65.2.2.2.2)])) fun r76 =>
  Option.bind (spec_l4all_v1 (n_impl_Node r76)) fun r77 =>
  some (r77.1, (n_impl_Node r77.2))
def spec_l4take_l13 : Nat → Int → V → V → V → List V → List V → List V → List V → List V → Option (Nat × V × V × List V × List V × List V × List V × List V)
  | 0, _, _, _, _, _, _, _, _, _ => none
  | k_ + 1, i6, b0, b1, b2, r3, r4, r5, r6, r7 =>
    bif (decide (i6 < (((gl b1 6).length : Nat) : Int))) then
      bif (decide ((IntKind.i64.wrap ((gi b1 4) + i6)) < (gi b0 4))) then
        bif (idxOk (IntKind.i64.wrap ((gi b1 4) + i6)) r3.length) then
          bif (idxOk i6 ((gl b1 6).length)) then
            bif (!(decide ((gi (rd r3 (0 + ((IntKind.i64.wrap ((gi b1 4) + i6)).toNat))) 0) = (gi (rd (gl b1 6) i6.toNat) 0)))) then
              some (0, (V.agg [(V.int .i64 (gi b0 0)), (V.int .i64 (gi b0 1)), (V.int .i64 (gi b0 2)), (V.sl 3 t_impl_Item 0 none), (V.int .i64 (gi b0 4)), (V.int .i64 (gi b0 5)), (V.int .i64 (gi b0 6)), (V.int .i64 (gi b0 7)), (V.sl 4 t_bool 0 none), (V.sl 5 t_int' 0 none), (V.sl 6 t_int' 0 none)]), (n_impl_Msg b1), [(V.agg [(V.int .i64 (gi b2 0)), (V.int .i64 (gi b2 1)), (V.int .i64 (gi b2 2)), (V.int .i64 (gi b2 3)), (V.int .i64 (gi b0 4)), (V.int .i64 (gi b2 5)), (V.inl t_impl_Item r7), (V.int .i64 (gi b2 7)), (V.bool (gb b2 8))])], r3, r4, r5, r6)
            else spec_l4take_l13 k_ (IntKind.i64.wrap (i6 + 1)) (V.agg [(V.int .i64 (gi b0 0)), (V.int .i64 (gi b0 1)), (V.int .i64 (gi b0 2)), (V.sl 3 t_impl_Item 0 none), (V.int .i64 (gi b0 4)), (V.int .i64 (gi b0 5)), (V.int .i64 (gi b0 6)), (V.int .i64 (gi b0 7)), (V.sl 4 t_bool 0 none), (V.sl 5 t_int' 0 none), (V.sl 6 t_int' 0 none)]) (n_impl_Msg b1) (V.agg [(V.int .i64 (gi b2 0)), (V.int .i64 (gi b2 1)), (V.int .i64 (gi b2 2)), (V.int .i64 (gi b2 3)), (V.int .i64 (gi b2 4)), (V.int .i64 (gi b2 5)), (V.sl 7 t_impl_Item 0 none), (V.int .i64 (gi b2 7)), (V.bool (gb b2 8))]) r3 r4 r5 r6 r7
          else none
        else none
      else spec_l4take_l13 k_ (IntKind.i64.wrap (i6 + 1)) (V.agg [(V.int .i64 (gi b0 0)), (V.int .i64 (gi b0 1)), (V.int .i64 (gi b0 2)), (V.sl 3 t_impl_Item 0 none), (V.int .i64 (gi b0 4)), (V.int .i64 (gi b0 5)), (V.int .i64 (gi b0 6)), (V.int .i64 (gi b0 7)), (V.sl 4 t_bool 0 none), (V.sl 5 t_int' 0 none), (V.sl 6 t_int' 0 none)]) (n_impl_Msg b1) (V.agg [(V.int .i64 (gi b2 0)), (V.int .i64 (gi b2 1)), (V.int .i64 (gi b2 2)), (V.int .i64 (gi b2 3)), (V.int .i64 (gi b2 4)), (V.int .i64 (gi b2 5)), (V.sl 7 t_impl_Item 0 none), (V.int .i64 (gi b2 7)), (V.bool (gb b2 8))]) r3 r4 r5 r6 r7
    else some (1, (V.agg [(V.int .i64 (gi b0 0)), (V.int .i64 (gi b0 1)), (V.int .i64 (gi b0 2)), (V.sl 2 t_impl_Item 0 none), (V.int .i64 (gi b0 4)), (V.int .i64 (gi b0 5)), (V.int .i64 (gi b0 6)), (V.int .i64 (gi b0 7)), (V.sl 3 t_bool 0 none), (V.sl 4 t_int' 0 none), (V.sl 5 t_int' 0 none)]), (n_impl_Msg b1), r3, r4, r5, r6, [])
def spec_l4take_l20 : Nat → Int → V → V → List V → List V → List V → List V → Option (V × V × List V × List V × List V × List V)
  | 0, _, _, _, _, _, _, _ => none
  | k_ + 1, i8, b0, b1, r2, r3, r4, r5 =>
    bif (decide (i8 < (((gl b1 6).length : Nat) : Int))) then
      bif (decide ((IntKind.i64.wrap ((gi b1 4) + i8)) < ((r2.length : Nat) : Int))) then
        bif (idxOk (IntKind.i64.wrap ((gi b1 4) + i8)) r2.length) then
          bif (idxOk i8 ((gl b1 6).length)) then
            bif (!(decide ((gi (rd r2 (0 + ((IntKind.i64.wrap ((gi b1 4) + i8)).toNat))) 0) = (gi (rd (gl b1 6) i8.toNat) 0)))) then
              bif ((decide ((0 : Int) ≤ (IntKind.i64.wrap ((gi b1 4) + i8)))) && (decide ((IntKind.i64.wrap ((gi b1 4) + i8)) ≤ ((r2.length : Nat) : Int)))) then
                bif ((roomy (0 + ((r2.take ((IntKind.i64.wrap ((gi b1 4) + i8)).toNat)).length)) 88) && true) then
                  bif (decide ((((r2.take ((IntKind.i64.wrap ((gi b1 4) + i8)).toNat)).length : Nat) : Int) ≤ (IntKind.i64.wrap ((gi b1 4) + i8)))) then
                    bif ((roomy (0 + ((r2.take ((IntKind.i64.wrap ((gi b1 4) + i8)).toNat)).length)) 88) && true) then
                      bif (idxOk i8 ((gl b1 6).length)) then
                        bif ((roomy (((r2.take ((IntKind.i64.wrap ((gi b1 4) + i8)).toNat)).length) + 1) 88) && true) then
                          spec_l4take_l20 k_ (IntKind.i64.wrap (i8 + 1)) (V.agg [(V.int .i64 (gi b0 0)), (V.int .i64 (gi b0 1)), (V.int .i64 (gi b0 2)), (V.sl 2 t_impl_Item 0 none), (V.int .i64 (gi b0 4)), (V.int .i64 (gi b0 5)), (V.int .i64 (gi b0 6)), (V.int .i64 (gi b0 7)), (V.sl 3 t_bool 0 none), (V.sl 4 t_int' 0 none), (V.sl 5 t_int' 0 none)]) (n_impl_Msg b1) ((r2.take ((IntKind.i64.wrap ((gi b1 4) + i8)).toNat)) ++ [(n_laws_Item (rd (gl b1 6) i8.toNat))]) r3 r4 r5
                        else none
                      else none
                    else none
                  else spec_l4take_l20 k_ (IntKind.i64.wrap (i8 + 1)) (V.agg [(V.int .i64 (gi b0 0)), (V.int .i64 (gi b0 1)), (V.int .i64 (gi b0 2)), (V.sl 2 t_impl_Item 0 none), (V.int .i64 (gi b0 4)), (V.int .i64 (gi b0 5)), (V.int .i64 (gi b0 6)), (V.int .i64 (gi b0 7)), (V.sl 3 t_bool 0 none), (V.sl 4 t_int' 0 none), (V.sl 5 t_int' 0 none)]) (n_impl_Msg b1) (r2.take ((IntKind.i64.wrap ((gi b1 4) + i8)).toNat)) r3 r4 r5
                else none
              else none
            else bif (decide (((r2.length : Nat) : Int) ≤ (IntKind.i64.wrap ((gi b1 4) + i8)))) then
              bif ((roomy (0 + r2.length) 88) && true) then
                bif (idxOk i8 ((gl b1 6).length)) then
                  bif ((roomy (r2.length + 1) 88) && true) then
                    spec_l4take_l20 k_ (IntKind.i64.wrap (i8 + 1)) (V.agg [(V.int .i64 (gi b0 0)), (V.int .i64 (gi b0 1)), (V.int .i64 (gi b0 2)), (V.sl 2 t_impl_Item 0 none), (V.int .i64 (gi b0 4)), (V.int .i64 (gi b0 5)), (V.int .i64 (gi b0 6)), (V.int .i64 (gi b0 7)), (V.sl 3 t_bool 0 none), (V.sl 4 t_int' 0 none), (V.sl 5 t_int' 0 none)]) (n_impl_Msg b1) (r2 ++ [(n_laws_Item (rd (gl b1 6) i8.toNat))]) r3 r4 r5
                  else none
                else none
              else none
            else spec_l4take_l20 k_ (IntKind.i64.wrap (i8 + 1)) (V.agg [(V.int .i64 (gi b0 0)), (V.int .i64 (gi b0 1)), (V.int .i64 (gi b0 2)), (V.sl 2 t_impl_Item 0 none), (V.int .i64 (gi b0 4)), (V.int .i64 (gi b0 5)), (V.int .i64 (gi b0 6)), (V.int .i64 (gi b0 7)), (V.sl 3 t_bool 0 none), (V.sl 4 t_int' 0 none), (V.sl 5 t_int' 0 none)]) (n_impl_Msg b1) r2 r3 r4 r5
          else none
        else none
      else bif (decide (((r2.length : Nat) : Int) ≤ (IntKind.i64.wrap ((gi b1 4) + i8)))) then
        bif ((roomy (0 + r2.length) 88) && true) then
          bif (idxOk i8 ((gl b1 6).length)) then
            bif ((roomy (r2.length + 1) 88) && true) then
              spec_l4take_l20 k_ (IntKind.i64.wrap (i8 + 1)) (V.agg [(V.int .i64 (gi b0 0)), (V.int .i64 (gi b0 1)), (V.int .i64 (gi b0 2)), (V.sl 2 t_impl_Item 0 none), (V.int .i64 (gi b0 4)), (V.int .i64 (gi b0 5)), (V.int .i64 (gi b0 6)), (V.int .i64 (gi b0 7)), (V.sl 3 t_bool 0 none), (V.sl 4 t_int' 0 none), (V.sl 5 t_int' 0 none)]) (n_impl_Msg b1) (r2 ++ [(n_laws_Item (rd (gl b1 6) i8.toNat))]) r3 r4 r5
            else none
          else none
        else none
      else spec_l4take_l20 k_ (IntKind.i64.wrap (i8 + 1)) (V.agg [(V.int .i64 (gi b0 0)), (V.int .i64 (gi b0 1)), (V.int .i64 (gi b0 2)), (V.sl 2 t_impl_Item 0 none), (V.int .i64 (gi b0 4)), (V.int .i64 (gi b0 5)), (V.int .i64 (gi b0 6)), (V.int .i64 (gi b0 7)), (V.sl 3 t_bool 0 none), (V.sl 4 t_int' 0 none), (V.sl 5 t_int' 0 none)]) (n_impl_Msg b1) r2 r3 r4 r5
    else some ((V.agg [(V.int .i64 (gi b0 0)), (V.int .i64 (gi b0 1)), (V.int .i64 (gi b0 2)), (V.sl 2 t_impl_Item 0 none), (V.int .i64 (gi b0 4)), (V.int .i64 (gi b0 5)), (V.int .i64 (gi b0 6)), (V.int .i64 (gi b0 7)), (V.sl 3 t_bool 0 none), (V.sl 4 t_int' 0 none), (V.sl 5 t_int' 0 none)]), (n_impl_Msg b1), r2, r3, r4, r5)
def spec_l4take (n : V) (m : V) : Option (List V × V) :=
  bif (decide ((gi m 3) < (gi n 1))) then
    some ([(V.agg [(V.int .i64 3), (V.int .i64 (gi n 0)), (V.int .i64 (gi m 1)), (V.int .i64 (gi n 1)), (V.int .i64 0), (V.int .i64 0), (V.inl t_impl_Item []), (V.int .i64 0), (V.bool false)])], (n_impl_Node n))
  else bif (decide ((gi n 5) = 2)) then
    some ([(V.agg [(V.int .i64 3), (V.int .i64 (gi n 0)), (V.int .i64 (gi m 1)), (V.int .i64 (gi n 1)), (V.int .i64 0), (V.int .i64 0), (V.inl t_impl_Item []), (V.int .i64 0), (V.bool false)])], (n_impl_Node n))
  else Option.bind (spec_l4follow (n_impl_Node n) (gi m 3)) fun r84 =>
  bif (decide ((((gl r84 3).length : Nat) : Int) < (gi m 4))) then
    bif (decide ((gi m 4) ≤ (((gl r84 3).length : Nat) : Int))) then
      some ([(V.agg [(V.int .i64 3), (V.int .i64 (gi n 0)), (V.int .i64 (gi m 1)), (V.int .i64 (gi n 1)), (V.int .i64 (IntKind.i64.wrap ((gi m 4) - 1))), (V.int .i64 0), (V.inl t_impl_Item []), (V.int .i64 0), (V.bool false)])], (V.agg [(V.int .i64 (gi r84 0)), (V.int .i64 (gi r84 1)), (V.int .i64 (gi r84 2)), (V.inl t_impl_Item (gl r84 3)), (V.int .i64 (gi r84 4)), (V.int .i64 (gi r84 5)), (V.int .i64 (gi m 1)), (V.int .i64 0), (V.inl t_bool (gl r84 8)), (V.inl t_int' (gl r84 9)), (V.inl t_int' (gl r84 10))]))
    else some ([(V.agg [(V.int .i64 3), (V.int .i64 (gi n 0)), (V.int .i64 (gi m 1)), (V.int .i64 (gi n 1)), (V.int .i64 (((gl r84 3).length : Nat) : Int)), (V.int .i64 0), (V.inl t_impl_Item []), (V.int .i64 0), (V.bool false)])], (V.agg [(V.int .i64 (gi r84 0)), (V.int .i64 (gi r84 1)), (V.int .i64 (gi r84 2)), (V.inl t_impl_Item (gl r84 3)), (V.int .i64 (gi r84 4)), (V.int .i64 (gi r84 5)), (V.int .i64 (gi m 1)), (V.int .i64 0), (V.inl t_bool (gl r84 8)), (V.inl t_int' (gl r84 9)), (V.inl t_int' (gl r84 10))]))
  else Option.bind (spec_l4termAt (V.agg [(V.int .i64 (gi r84 0)), (V.int .i64 (gi r84 1)), (V.int .i64 (gi r84 2)), (V.inl t_impl_Item (gl r84 3)), (V.int .i64 (gi r84 4)), (V.int .i64 (gi r84 5)), (V.int .i64 (gi m 1)), (V.int .i64 0), (V.inl t_bool (gl r84 8)), (V.inl t_int' (gl r84 9)), (V.inl t_int' (gl r84 10))]) (gi m 4)) fun r85 =>
  bif (!(decide (r85 = (gi m 5)))) then
    bif (decide ((gi m 4) ≤ (((gl r84 3).length : Nat) : Int))) then
      some ([(V.agg [(V.int .i64 3), (V.int .i64 (gi n 0)), (V.int .i64 (gi m 1)), (V.int .i64 (gi n 1)), (V.int .i64 (IntKind.i64.wrap ((gi m 4) - 1))), (V.int .i64 0), (V.inl t_impl_Item []), (V.int .i64 0), (V.bool false)])], (V.agg [(V.int .i64 (gi r84 0)), (V.int .i64 (gi r84 1)), (V.int .i64 (gi r84 2)), (V.inl t_impl_Item (gl r84 3)), (V.int .i64 (gi r84 4)), (V.int .i64 (gi r84 5)), (V.int .i64 (gi m 1)), (V.int .i64 0), (V.inl t_bool (gl r84 8)), (V.inl t_int' (gl r84 9)), (V.inl t_int' (gl r84 10))]))
    else some ([(V.agg [(V.int .i64 3), (V.int .i64 (gi n 0)), (V.int .i64 (gi m 1)), (V.int .i64 (gi n 1)), (V.int .i64 (((gl r84 3).length : Nat) : Int)), (V.int .i64 0), (V.inl t_impl_Item []), (V.int .i64 0), (V.bool false)])], (V.agg [(V.int .i64 (gi r84 0)), (V.int .i64 (gi r84 1)), (V.int .i64 (gi r84 2)), (V.inl t_impl_Item (gl r84 3)), (V.int .i64 (gi r84 4)), (V.int .i64 (gi r84 5)), (V.int .i64 (gi m 1)), (V.int .i64 0), (V.inl t_bool (gl r84 8)), (V.inl t_int' (gl r84 9)), (V.inl t_int' (gl r84 10))]))
  else Option.bind (spec_l4take_l13 (((((gl (n_impl_Msg m) 6).length : Nat) : Int) - 0).toNat + 1) 0 (V.agg [(V.int .i64 (gi r84 0)), (V.int .i64 (gi r84 1)), (V.int .i64 (gi r84 2)), (V.sl 3 t_impl_Item 0 none), (V.int .i64 (gi r84 4)), (V.int .i64 (gi r84 5)), (V.int .i64 (gi m 1)), (V.int .i64 0), (V.sl 4 t_bool 0 none), (V.sl 5 t_int' 0 none), (V.sl 6 t_int' 0 none)]) (n_impl_Msg m) (V.agg [(V.int .i64 3), (V.int .i64 (gi n 0)), (V.int .i64 (gi m 1)), (V.int .i64 (gi n 1)), (V.int .i64 0), (V.int .i64 0), (V.sl 7 t_impl_Item 0 none), (V.int .i64 0), (V.bool false)]) (gl r84 3) (gl r84 8) (gl r84 9) (gl r84 10) []) fun r86 =>
  bif (Nat.beq r86.1 0) then
    some (r86.2.2.2.1, (V.agg [(V.int .i64 (gi r86.2.1 0)), (V.int .i64 (gi r86.2.1 1)), (V.int .i64 (gi r86.2.1 2)), (V.inl t_impl_Item r86.2.2.2.2.1), (V.int .i64 (gi r86.2.1 4)), (V.int .i64 (gi r86.2.1 5)), (V.int .i64 (gi r86.2.1 6)), (V.int .i64 (gi r86.2.1 7)), (V.inl t_bool r86.2.2.2.2.2.1), (V.inl t_int' r86.2.2.2.2.2.2.1), (V.inl t_int' r86.2.2.2.2.2.2.2)]))
  else Option.bind (spec_l4take_l20 (((((gl (n_impl_Msg r86.2.2.1) 6).length : Nat) : Int) - 0).toNat + 1) 0 (V.agg [(V.int .i64 (gi r86.2.1 0)), (V.int .i64 (gi r86.2.1 1)), (V.int .i64 (gi r86.2.1 2)), (V.sl 2 t_impl_Item 0 none), (V.int .i64 (gi r86.2.1 4)), (V.int .i64 (gi r86.2.1 5)), (V.int .i64 (gi r86.2.1 6)), (V.int .i64 (gi r86.2.1 7)), (V.sl 3 t_bool 0 none), (V.sl 4 t_int' 0 none), (V.sl 5 t_int' 0 none)]) (n_impl_Msg r86.2.2.1) r86.2.2.2.1 r86.2.2.2.2.1 r86.2.2.2.2.2.1 r86.2.2.2.2.2.2.1) fun r87 =>
  bif (decide ((gi r87.2.1 7) < (IntKind.i64.wrap ((gi r87.2.1 4) + (((gl r87.2.1 6).length : Nat) : Int))))) then
    bif (decide ((gi r87.1 4) < (gi r87.2.1 7))) then
      some ([(V.agg [(V.int .i64 3), (V.int .i64 (gi r87.1 0)), (V.int .i64 (gi r87.2.1 1)), (V.int .i64 (gi r87.1 1)), (V.int .i64 (IntKind.i64.wrap ((gi r87.2.1 4) + (((gl r87.2.1 6).length : Nat) : Int)))), (V.int .i64 0), (V.inl t_impl_Item []), (V.int .i64 0), (V.bool true)])], (V.agg [(V.int .i64 (gi r87.1 0)), (V.int .i64 (gi r87.1 1)), (V.int .i64 (gi r87.1 2)), (V.inl t_impl_Item r87.2.2.1), (V.int .i64 (gi r87.2.1 7)), (V.int .i64 (gi r87.1 5)), (V.int .i64 (gi r87.1 6)), (V.int .i64 (gi r87.1 7)), (V.inl t_bool r87.2.2.2.1), (V.inl t_int' r87.2.2.2.2.1), (V.inl t_int' r87.2.2.2.2.2)]))
    else some ([(V.agg [(V.int .i64 3), (V.int .i64 (gi r87.1 0)), (V.int .i64 (gi r87.2.1 1)), (V.int .i64 (gi r87.1 1)), (V.int .i64 (IntKind.i64.wrap ((gi r87.2.1 4) + (((gl r87.2.1 6).length : Nat) : Int)))), (V.int .i64 0), (V.inl t_impl_Item []), (V.int .i64 0), (V.bool true)])], (V.agg [(V.int .i64 (gi r87.1 0)), (V.int .i64 (gi r87.1 1)), (V.int .i64 (gi r87.1 2)), (V.inl t_impl_Item r87.2.2.1), (V.int .i64 (gi r87.1 4)), (V.int .i64 (gi r87.1 5)), (V.int .i64 (gi r87.1 6)), (V.int .i64 (gi r87.1 7)), (V.inl t_bool r87.2.2.2.1), (V.inl t_int' r87.2.2.2.2.1), (V.inl t_int' r87.2.2.2.2.2)]))
  else bif (decide ((gi r87.1 4) < (IntKind.i64.wrap ((gi r87.2.1 4) + (((gl r87.2.1 6).length : Nat) : Int))))) then
    some ([(V.agg [(V.int .i64 3), (V.int .i64 (gi r87.1 0)), (V.int .i64 (gi r87.2.1 1)), (V.int .i64 (gi r87.1 1)), (V.int .i64 (IntKind.i64.wrap ((gi r87.2.1 4) + (((gl r87.2.1 6).length : Nat) : Int)))), (V.int .i64 0), (V.inl t_impl_Item []), (V.int .i64 0), (V.bool true)])], (V.agg [(V.int .i64 (gi r87.1 0)), (V.int .i64 (gi r87.1 1)), (V.int .i64 (gi r87.1 2)), (V.inl t_impl_Item r87.2.2.1), (V.int .i64 (IntKind.i64.wrap ((gi r87.2.1 4) + (((gl r87.2.1 6).length : Nat) : Int)))), (V.int .i64 (gi r87.1 5)), (V.int .i64 (gi r87.1 6)), (V.int .i64 (gi r87.1 7)), (V.inl t_bool r87.2.2.2.1), (V.inl t_int' r87.2.2.2.2.1), (V.inl t_int' r87.2.2.2.2.2)]))
  else some ([(V.agg [(V.int .i64 3), (V.int .i64 (gi r87.1 0)), (V.int .i64 (gi r87.2.1 1)), (V.int .i64 (gi r87.1 1)), (V.int .i64 (IntKind.i64.wrap ((gi r87.2.1 4) + (((gl r87.2.1 6).length : Nat) : Int)))), (V.int .i64 0), (V.inl t_impl_Item []), (V.int .i64 0), (V.bool true)])], (V.agg [(V.int .i64 (gi r87.1 0)), (V.int .i64 (gi r87.1 1)), (V.int .i64 (gi r87.1 2)), (V.inl t_impl_Item r87.2.2.1), (V.int .i64 (gi r87.1 4)), (V.int .i64 (gi r87.1 5)), (V.int .i64 (gi r87.1 6)), (V.int .i64 (gi r87.1 7)), (V.inl t_bool r87.2.2.2.1), (V.inl t_int' r87.2.2.2.2.1), (V.inl t_int' r87.2.2.2.2.2)]))
def spec_l4ack (n : V) (m : V) : Option (List V × V) :=
  bif (!(decide ((gi n 5) = 2))) then
    some ([], (n_impl_Node n))
  else bif (!(decide ((gi m 3) = (gi n 1)))) then
    some ([], (n_impl_Node n))
  else bif (!(gb m 8)) then
    bif (idxOk (gi m 1) ((gl n 9).length)) then
      bif (decide ((IntKind.i64.wrap ((gi m 4) + 1)) < (IntKind.i64.wrap ((gi (rd (gl n 9) (0 + ((gi m 1).toNat))) 0) - 1)))) then
        bif (decide ((IntKind.i64.wrap ((gi m 4) + 1)) < 1)) then
          bif (idxOk (gi m 1) ((gl n 10).length)) then
            bif (decide ((1 : Int) ≤ (gi (rd (gl n 10) (0 + ((gi m 1).toNat))) 0))) then
              some ([], (n_impl_Node n))
            else bif (idxOk (gi m 1) ((gl n 9).length)) then
              Option.bind (spec_l4add_v1 (V.agg [(V.int .i64 (gi n 0)), (V.int .i64 (gi n 1)), (V.int .i64 (gi n 2)), (V.inl t_impl_Item (gl n 3)), (V.int .i64 (gi n 4)), (V.int .i64 (gi n 5)), (V.int .i64 (gi n 6)), (V.int .i64 (gi n 7)), (V.inl t_bool (gl n 8)), (V.inl t_int' ((gl n 9).set (0 + ((gi m 1).toNat)) (V.int .i64 1))), (V.inl t_int' (gl n 10))]) (gi m 1)) fun r96 =>
              some ([(n_impl_Msg r96.1)], (n_impl_Node r96.2))
            else none
          else none
        else bif (idxOk (gi m 1) ((gl n 10).length)) then
          bif (decide ((IntKind.i64.wrap ((gi m 4) + 1)) ≤ (gi (rd (gl n 10) (0 + ((gi m 1).toNat))) 0))) then
            some ([], (n_impl_Node n))
          else bif (idxOk (gi m 1) ((gl n 9).length)) then
            Option.bind (spec_l4add_v1 (V.agg [(V.int .i64 (gi n 0)), (V.int .i64 (gi n 1)), (V.int .i64 (gi n 2)), (V.inl t_impl_Item (gl n 3)), (V.int .i64 (gi n 4)), (V.int .i64 (gi n 5)), (V.int .i64 (gi n 6)), (V.int .i64 (gi n 7)), (V.inl t_bool (gl n 8)), (V.inl t_int' ((gl n 9).set (0 + ((gi m 1).toNat)) (V.int .i64 (IntKind.i64.wrap ((gi m 4) + 1))))), (V.inl t_int' (gl n 10))]) (gi m 1)) fun r97 =>
            some ([(n_impl_Msg r97.1)], (n_impl_Node r97.2))
          else none
        else none
      else bif (decide ((IntKind.i64.wrap ((gi (rd (gl n 9) (0 + ((gi m 1).toNat))) 0) - 1)) < 1)) then
        bif (idxOk (gi m 1) ((gl n 10).length)) then
          bif (decide ((1 : Int) ≤ (gi (rd (gl n 10) (0 + ((gi m 1).toNat))) 0))) then
            some ([], (n_impl_Node n))
          else bif (idxOk (gi m 1) ((gl n 9).length)) then
            Option.bind (spec_l4add_v1 (V.agg [(V.int .i64 (gi n 0)), (V.int .i64 (gi n 1)), (V.int .i64 (gi n 2)), (V.inl t_impl_Item (gl n 3)), (V.int .i64 (gi n 4)), (V.int .i64 (gi n 5)), (V.int .i64 (gi n 6)), (V.int .i64 (gi n 7)), (V.inl t_bool (gl n 8)), (V.inl t_int' ((gl n 9).set (0 + ((gi m 1).toNat)) (V.int .i64 1))), (V.inl t_int' (gl n 10))]) (gi m 1)) fun r98 =>
            some ([(n_impl_Msg r98.1)], (n_impl_Node r98.2))
          else none
        else none
      else bif (idxOk (gi m 1) ((gl n 10).length)) then
        bif (decide ((IntKind.i64.wrap ((gi (rd (gl n 9) (0 + ((gi m 1).toNat))) 0) - 1)) ≤ (gi (rd (gl n 10) (0 + ((gi m 1).toNat))) 0))) then
          some ([], (n_impl_Node n))
        else bif (idxOk (gi m 1) ((gl n 9).length)) then
          Option.bind (spec_l4add_v1 (V.agg [(V.int .i64 (gi n 0)), (V.int .i64 (gi n 1)), (V.int .i64 (gi n 2)), (V.inl t_impl_Item (gl n 3)), (V.int .i64 (gi n 4)), (V.int .i64 (gi n 5)), (V.int .i64 (gi n 6)), (V.int .i64 (gi n 7)), (V.inl t_bool (gl n 8)), (V.inl t_int' ((gl n 9).set (0 + ((gi m 1).toNat)) (V.int .i64 (IntKind.i64.wrap ((gi (rd (gl n 9) (0 + ((gi m 1).toNat))) 0) - 1))))), (V.inl t_int' (gl n 10))]) (gi m 1)) fun r99 =>
          some ([(n_impl_Msg r99.1)], (n_impl_Node r99.2))
        else none
      else none
    else none
  else bif (decide ((((gl n 3).length : Nat) : Int) < (gi m 4))) then
    some ([], (n_impl_Node n))
  else bif (idxOk (gi m 1) ((gl n 10).length)) then
    bif (decide ((gi m 4) ≤ (gi (rd (gl n 10) (0 + ((gi m 1).toNat))) 0))) then
      some ([], (n_impl_Node n))
    else bif (idxOk (gi m 1) ((gl n 10).length)) then
      bif (idxOk (gi m 1) ((gl n 9).length)) then
        Option.bind (spec_l4commit (V.agg [(V.int .i64 (gi n 0)), (V.int .i64 (gi n 1)), (V.int .i64 (gi n 2)), (V.inl t_impl_Item (gl n 3)), (V.int .i64 (gi n 4)), (V.int .i64 (gi n 5)), (V.int .i64 (gi n 6)), (V.int .i64 (gi n 7)), (V.inl t_bool (gl n 8)), (V.inl t_int' ((gl n 9).set (0 + ((gi m 1).toNat)) (V.int .i64 (IntKind.i64.wrap ((gi m 4) + 1))))), (V.inl t_int' ((gl n 10).set (0 + ((gi m 1).toNat)) (V.int .i64 (gi m 4))))])) fun r100 =>
        bif (decide ((gi n 4) < (gi r100 4))) then
          Option.bind (spec_l4all_v1 (n_impl_Node r100)) fun r101 =>
          some (r101.1, (n_impl_Node r101.2))
        else bif (idxOk (gi m 1) ((gl r100 9).length)) then
          bif (decide ((gi (rd (gl r100 9) (0 + ((gi m 1).toNat))) 0) ≤ (((gl r100 3).length : Nat) : Int))) then
            Option.bind (spec_l4add_v1 (n_impl_Node r100) (gi m 1)) fun r102 =>
            some ([(n_impl_Msg r102.1)], (n_impl_Node r102.2))
          else some ([], (n_impl_Node r100))
        else none
      else none
    else none
  else none
def spec_l4hear (n : V) (m : V) : Option (List V × V) :=
  bif (decide ((gi n 1) < (gi m 3))) then
    Option.bind (spec_l4follow (n_impl_Node n) (gi m 3)) fun r47 =>
    bif (decide ((gi m 0) = 0)) then
      Option.bind (spec_l4vote (n_impl_Node r47) (n_impl_Msg m)) fun r49 =>
      some (r49.1, (n_impl_Node r49.2))
    else bif (decide ((gi m 0) = 1)) then
      bif (!(decide ((gi r47 5) = 1))) then
        some ([], (n_impl_Node r47))
      else bif (!(decide ((gi m 3) = (gi r47 1)))) then
        some ([], (n_impl_Node r47))
      else bif (!(gb m 8)) then
        some ([], (n_impl_Node r47))
      else bif (idxOk (gi m 1) ((gl r47 8).length)) then
        Option.bind (spec_l4lead (V.agg [(V.int .i64 (gi r47 0)), (V.int .i64 (gi r47 1)), (V.int .i64 (gi r47 2)), (V.inl t_impl_Item (gl r47 3)), (V.int .i64 (gi r47 4)), (V.int .i64 (gi r47 5)), (V.int .i64 (gi r47 6)), (V.int .i64 (gi r47 7)), (V.inl t_bool ((gl r47 8).set (0 + ((gi m 1).toNat)) (V.bool true))), (V.inl t_int' (gl r47 9)), (V.inl t_int' (gl r47 10))])) fun r78 =>
        some (r78.1, (n_impl_Node r78.2))
      else none
    else bif (decide ((gi m 0) = 2)) then
      Option.bind (spec_l4take (n_impl_Node r47) (n_impl_Msg m)) fun r88 =>
      some (r88.1, (n_impl_Node r88.2))
    else Option.bind (spec_l4ack (n_impl_Node r47) (n_impl_Msg m)) fun r103 =>
    some (r103.1, (n_impl_Node r103.2))
  else bif (decide ((gi m 0) = 0)) then
    Option.bind (spec_l4vote (n_impl_Node n) (n_impl_Msg m)) fun r104 =>
    some (r104.1, (n_impl_Node r104.2))
  else bif (decide ((gi m 0) = 1)) then
    bif (!(decide ((gi n 5) = 1))) then
      some ([], (n_impl_Node n))
    else bif (!(decide ((gi m 3) = (gi n 1)))) then
      some ([], (n_impl_Node n))
    else bif (!(gb m 8)) then
      some ([], (n_impl_Node n))
    else bif (idxOk (gi m 1) ((gl n 8).length)) then
      Option.bind (spec_l4lead (V.agg [(V.int .i64 (gi n 0)), (V.int .i64 (gi n 1)), (V.int .i64 (gi n 2)), (V.inl t_impl_Item (gl n 3)), (V.int .i64 (gi n 4)), (V.int .i64 (gi n 5)), (V.int .i64 (gi n 6)), (V.int .i64 (gi n 7)), (V.inl t_bool ((gl n 8).set (0 + ((gi m 1).toNat)) (V.bool true))), (V.inl t_int' (gl n 9)), (V.inl t_int' (gl n 10))])) fun r105 =>
      some (r105.1, (n_impl_Node r105.2))
    else none
  else bif (decide ((gi m 0) = 2)) then
    Option.bind (spec_l4take (n_impl_Node n) (n_impl_Msg m)) fun r106 =>
    some (r106.1, (n_impl_Node r106.2))
  else Option.bind (spec_l4ack (n_impl_Node n) (n_impl_Msg m)) fun r107 =>
  some (r107.1, (n_impl_Node r107.2))
def spec_l4ownMsgs_l3 : Nat → List V → Int → List V → Option (List V)
  | 0, _, _, _ => none
  | k_ + 1, l0, i4, r0 =>
    bif (decide (i4 < ((l0.length : Nat) : Int))) then
      bif (idxOk i4 l0.length) then
        Option.bind (spec_l3ownItems (gl (rd l0 i4.toNat) 6)) fun r110 =>
        bif ((roomy (r0.length + 1) 88) && true) then
          spec_l4ownMsgs_l3 k_ l0 (IntKind.i64.wrap (i4 + 1)) (r0 ++ [(V.agg [(V.int .i64 (gi (rd l0 i4.toNat) 0)), (V.int .i64 (gi (rd l0 i4.toNat) 1)), (V.int .i64 (gi (rd l0 i4.toNat) 2)), (V.int .i64 (gi (rd l0 i4.toNat) 3)), (V.int .i64 (gi (rd l0 i4.toNat) 4)), (V.int .i64 (gi (rd l0 i4.toNat) 5)), (V.inl t_impl_Item r110), (V.int .i64 (gi (rd l0 i4.toNat) 7)), (V.bool (gb (rd l0 i4.toNat) 8))])])
        else none
      else none
    else some r0
def spec_l4ownMsgs (l : List V) : Option (List V) :=
  Option.bind (spec_l4ownMsgs_l3 ((((l.length : Nat) : Int) - 0).toNat + 1) l 0 []) fun r111 =>
  some r111
def spec_Hear (n : V) (servers : Int) (m : V) : Option (V × List V) :=
  Option.bind (spec_NodeOk (n_impl_Node n) servers) fun r35 =>
  bif (!r35) then
    some ((V.agg [(V.int .i64 0), (V.int .i64 0), (V.int .i64 0), (V.inl t_impl_Item []), (V.int .i64 0), (V.int .i64 0), (V.int .i64 0), (V.int .i64 0), (V.inl t_bool []), (V.inl t_int' []), (V.inl t_int' [])]), [])
  else Option.bind (spec_MsgOk (n_impl_Msg m)) fun r40 =>
  bif (!r40) then
    some ((V.agg [(V.int .i64 0), (V.int .i64 0), (V.int .i64 0), (V.inl t_impl_Item []), (V.int .i64 0), (V.int .i64 0), (V.int .i64 0), (V.int .i64 0), (V.inl t_bool []), (V.inl t_int' []), (V.inl t_int' [])]), [])
  else bif (!(decide ((gi m 2) = (gi n 0)))) then
    some ((V.agg [(V.int .i64 0), (V.int .i64 0), (V.int .i64 0), (V.inl t_impl_Item []), (V.int .i64 0), (V.int .i64 0), (V.int .i64 0), (V.int .i64 0), (V.inl t_bool []), (V.inl t_int' []), (V.inl t_int' [])]), [])
  else bif (decide (servers ≤ (gi m 1))) then
    some ((V.agg [(V.int .i64 0), (V.int .i64 0), (V.int .i64 0), (V.inl t_impl_Item []), (V.int .i64 0), (V.int .i64 0), (V.int .i64 0), (V.int .i64 0), (V.inl t_bool []), (V.inl t_int' []), (V.inl t_int' [])]), [])
  else Option.bind (spec_l4own (n_impl_Node n)) fun r44 =>
  Option.bind (spec_l4hear (n_impl_Node r44) (n_impl_Msg m)) fun r108 =>
  Option.bind (spec_l4own (n_impl_Node r108.2)) fun r109 =>
  Option.bind (spec_l4ownMsgs r108.1) fun r112 =>
  some ((n_impl_Node r109), r112)
def impl_within (n : Int) (low : Int) (high : Int) : Bool :=
  bif (decide (low ≤ n)) then
    (decide (n ≤ high))
  else false
def impl_isServer (id : Int) (servers : Int) : Bool :=
  bif impl_within servers 1 5 then
    (impl_within id 0 (IntKind.i64.wrap (servers - 1)))
  else false
def impl_isTerm (n : Int) : Bool :=
  (impl_within n 1 100000)
def impl_noOp : V :=
  (V.agg [(V.int .i64 (-1)), (V.int .i64 0), (V.int .i64 0), (V.inl t_byte []), (V.inl t_byte []), (V.int .i64 0)])
def bytes_Equal (a : List V) (b : List V) : Bool :=
  (eqList (a.map normB) (b.map normB))
def impl_Op_same (o : V) (p : V) : Bool :=
  bif (decide ((gi o 0) = (gi p 0))) then
    bif bytes_Equal (gl o 1) (gl p 1) then
      bif bytes_Equal (gl o 2) (gl p 2) then
        (decide ((gi o 3) = (gi p 3)))
      else false
    else false
  else false
def impl_Cmd_same (c : V) (d : V) : Bool :=
  bif (decide ((gi c 0) = (gi d 0))) then
    bif (decide ((gi c 1) = (gi d 1))) then
      (impl_Op_same (V.agg [(V.int .i64 (gi c 2)), (V.inl t_byte (gl c 3)), (V.inl t_byte (gl c 4)), (V.int .i64 (gi c 5))]) (V.agg [(V.int .i64 (gi d 2)), (V.inl t_byte (gl d 3)), (V.inl t_byte (gl d 4)), (V.int .i64 (gi d 5))]))
    else false
  else false
def impl_KeyOk_l2 : Nat → List V → List V → Int → Int → Option (Nat × List V × Bool)
  | 0, _, _, _, _ => none
  | k_ + 1, b0, v5, v6, v7 =>
    bif (decide (v7 < v6)) then
      bif (idxOk v7 v5.length) then
        bif (decide ((gi (rd v5 v7.toNat) 0) < 97)) then
          bif (!(decide ((gi (rd v5 v7.toNat) 0) = 47))) then
            some (0, b0, false)
          else impl_KeyOk_l2 k_ b0 v5 v6 (IntKind.i64.wrap (v7 + 1))
        else bif (decide ((122 : Int) < (gi (rd v5 v7.toNat) 0))) then
          bif (!(decide ((gi (rd v5 v7.toNat) 0) = 47))) then
            some (0, b0, false)
          else impl_KeyOk_l2 k_ b0 v5 v6 (IntKind.i64.wrap (v7 + 1))
        else impl_KeyOk_l2 k_ b0 v5 v6 (IntKind.i64.wrap (v7 + 1))
      else none
    else some (1, b0, false)
def impl_KeyOk (b : List V) : Option (Bool) :=
  Option.bind (impl_KeyOk_l2 ((((b.length : Nat) : Int) - 0).toNat + 1) b b ((b.length : Nat) : Int) 0) fun r116 =>
  bif (Nat.beq r116.1 0) then
    some r116.2.2
  else some (impl_within ((r116.2.1.length : Nat) : Int) 1 20)
def impl_isValue (b : List V) : Bool :=
  (decide (((b.length : Nat) : Int) ≤ 20))
def impl_OpOk (o : V) : Option (Bool) :=
  bif (decide ((gi o 0) = 0)) then
    bif impl_within (gi o 3) 0 0 then
      bif (decide ((((gl o 1).length : Nat) : Int) = 0)) then
        some (decide ((((gl o 2).length : Nat) : Int) = 0))
      else some false
    else some false
  else bif (decide ((gi o 0) = 1)) then
    bif impl_within (gi o 3) 0 0 then
      Option.bind (impl_KeyOk (gl o 1)) fun r117 =>
      bif r117 then
        bif impl_isValue (gl o 2) then
          some true
        else some false
      else some false
    else some false
  else bif (decide ((gi o 0) = 2)) then
    bif impl_within (gi o 3) 0 1000000 then
      Option.bind (impl_KeyOk (gl o 1)) fun r118 =>
      bif r118 then
        bif impl_isValue (gl o 2) then
          some true
        else some false
      else some false
    else some false
  else bif (decide ((gi o 0) = 3)) then
    bif impl_within (gi o 3) 0 0 then
      Option.bind (impl_KeyOk (gl o 1)) fun r119 =>
      bif r119 then
        some (decide ((((gl o 2).length : Nat) : Int) = 0))
      else some false
    else some false
  else bif (decide ((gi o 0) = 4)) then
    bif impl_within (gi o 3) 0 1 then
      bif (decide ((((gl o 1).length : Nat) : Int) = 0)) then
        some (decide ((((gl o 2).length : Nat) : Int) = 0))
      else some false
    else some false
  else bif (decide ((gi o 0) = 5)) then
    bif impl_within (gi o 3) 1 1000000 then
      bif (decide ((((gl o 1).length : Nat) : Int) = 0)) then
        some (decide ((((gl o 2).length : Nat) : Int) = 0))
      else some false
    else some false
  else bif (decide ((gi o 0) = 6)) then
    bif impl_within (gi o 3) 1 1000000 then
      Option.bind (impl_KeyOk (gl o 1)) fun r120 =>
      bif r120 then
        bif impl_isValue (gl o 2) then
          some true
        else some false
      else some false
    else some false
  else bif (decide ((gi o 0) = 7)) then
    bif impl_within (gi o 3) 1 1000000 then
      Option.bind (impl_KeyOk (gl o 1)) fun r121 =>
      bif r121 then
        some (decide ((((gl o 2).length : Nat) : Int) = 0))
      else some false
    else some false
  else some false
def impl_CmdOk (c : V) : Option (Bool) :=
  bif impl_Cmd_same (n_laws_Cmd c) (n_laws_Cmd impl_noOp) then
    some true
  else bif impl_within (gi c 0) 0 3 then
    bif impl_within (gi c 1) 1 1000000 then
      Option.bind (impl_OpOk (V.agg [(V.int .i64 (gi c 2)), (V.inl t_byte (gl c 3)), (V.inl t_byte (gl c 4)), (V.int .i64 (gi c 5))])) fun r122 =>
      some r122
    else some false
  else some false
def impl_ItemOk (x : V) : Option (Bool) :=
  bif impl_isTerm (gi x 0) then
    Option.bind (impl_CmdOk (V.agg [(V.int .i64 (gi x 1)), (V.int .i64 (gi x 2)), (V.int .i64 (gi x 3)), (V.inl t_byte (gl x 4)), (V.inl t_byte (gl x 5)), (V.int .i64 (gi x 6))])) fun r123 =>
    some r123
  else some false
def slices_Index_bool_l2 : Nat → List V → Bool → Int → Int → Option (Nat × Int)
  | 0, _, _, _, _ => none
  | k_ + 1, s0, v1, v7, v8 =>
    bif (decide (v8 < v7)) then
      bif (idxOk v8 s0.length) then
        bif (v1 == (gb (rd s0 v8.toNat) 0)) then
          some (0, v8)
        else slices_Index_bool_l2 k_ s0 v1 v7 (IntKind.i64.wrap (v8 + 1))
      else none
    else some (1, 0)
def slices_Index_bool (s : List V) (v : Bool) : Option (Int) :=
  Option.bind (slices_Index_bool_l2 ((((s.length : Nat) : Int) - 0).toNat + 1) s v ((s.length : Nat) : Int) 0) fun r126 =>
  bif (Nat.beq r126.1 0) then
    some r126.2
  else some (-1)
def slices_Contains_bool (s : List V) (v : Bool) : Option (Bool) :=
  Option.bind (slices_Index_bool s v) fun r127 =>
  some (decide ((0 : Int) ≤ r127))
def impl_NodeOk_l5 : Nat → Int → Int → List V → Int → Int → V → Option (Nat × Int × Bool × V)
  | 0, _, _, _, _, _, _ => none
  | k_ + 1, servers1, term5, v43, v44, v45, b0 =>
    bif (decide (v45 < v44)) then
      bif (idxOk v45 v43.length) then
        Option.bind (impl_ItemOk (n_laws_Item (rd v43 v45.toNat))) fun r124 =>
        bif (!r124) then
          some (0, servers1, false, (n_impl_Node b0))
        else bif (!(impl_within (gi (rd v43 v45.toNat) 0) term5 (gi b0 1))) then
          some (0, servers1, false, (n_impl_Node b0))
        else impl_NodeOk_l5 k_ servers1 (gi (rd v43 v45.toNat) 0) v43 v44 (IntKind.i64.wrap (v45 + 1)) (n_impl_Node b0)
      else none
    else some (1, servers1, false, (n_impl_Node b0))
def impl_NodeOk_l16 : Nat → Int → Int → V → Option (Nat × Bool)
  | 0, _, _, _ => none
  | k_ + 1, v141, v142, b0 =>
    bif (decide (v142 < v141)) then
      bif (decide ((gi b0 5) = 2)) then
        bif (idxOk v142 ((gl b0 9).length)) then
          bif (!(impl_within (gi (rd (gl b0 9) v142.toNat) 0) 1 (IntKind.i64.wrap ((((gl b0 3).length : Nat) : Int) + 1)))) then
            some (0, false)
          else bif (idxOk v142 ((gl b0 10).length)) then
            bif (!(impl_within (gi (rd (gl b0 10) v142.toNat) 0) 0 (((gl b0 3).length : Nat) : Int))) then
              some (0, false)
            else bif (!(decide ((gi b0 5) = 2))) then
              bif (idxOk v142 ((gl b0 9).length)) then
                bif (!(decide ((gi (rd (gl b0 9) v142.toNat) 0) = 0))) then
                  some (0, false)
                else bif (idxOk v142 ((gl b0 10).length)) then
                  bif (!(decide ((gi (rd (gl b0 10) v142.toNat) 0) = 0))) then
                    some (0, false)
                  else impl_NodeOk_l16 k_ v141 (IntKind.i64.wrap (v142 + 1)) (n_impl_Node b0)
                else none
              else none
            else impl_NodeOk_l16 k_ v141 (IntKind.i64.wrap (v142 + 1)) (n_impl_Node b0)
          else none
        else none
      else bif (!(decide ((gi b0 5) = 2))) then
        bif (idxOk v142 ((gl b0 9).length)) then
          bif (!(decide ((gi (rd (gl b0 9) v142.toNat) 0) = 0))) then
            some (0, false)
          else bif (idxOk v142 ((gl b0 10).length)) then
            bif (!(decide ((gi (rd (gl b0 10) v142.toNat) 0) = 0))) then
              some (0, false)
            else impl_NodeOk_l16 k_ v141 (IntKind.i64.wrap (v142 + 1)) (n_impl_Node b0)
          else none
        else none
      else impl_NodeOk_l16 k_ v141 (IntKind.i64.wrap (v142 + 1)) (n_impl_Node b0)
    else some (1, false)
def impl_NodeOk (n : V) (servers : Int) : Option (Bool) :=
  bif (!(impl_isServer (gi n 0) servers)) then
    some false
  else bif (!(impl_within (gi n 1) 0 100000)) then
    some false
  else bif (!(impl_within (gi n 2) (-1) (IntKind.i64.wrap (servers - 1)))) then
    some false
  else bif (!(impl_within (gi n 6) (-1) (IntKind.i64.wrap (servers - 1)))) then
    some false
  else bif (decide ((400 : Int) < (((gl n 3).length : Nat) : Int))) then
    some false
  else Option.bind (impl_NodeOk_l5 (((((gl n 3).length : Nat) : Int) - 0).toNat + 1) servers 1 (gl n 3) (((gl n 3).length : Nat) : Int) 0 (n_impl_Node n)) fun r125 =>
  bif (Nat.beq r125.1 0) then
    some r125.2.2.1
  else bif (!(impl_within (gi r125.2.2.2 4) 0 (((gl r125.2.2.2 3).length : Nat) : Int))) then
    some false
  else bif (!(impl_within (gi r125.2.2.2 5) 0 2)) then
    some false
  else bif (!(impl_within (gi r125.2.2.2 7) 0 20)) then
    some false
  else bif (!(decide ((((gl r125.2.2.2 8).length : Nat) : Int) = r125.2.1))) then
    some false
  else bif (!(decide ((((gl r125.2.2.2 9).length : Nat) : Int) = r125.2.1))) then
    some false
  else bif (!(decide ((((gl r125.2.2.2 10).length : Nat) : Int) = r125.2.1))) then
    some false
  else bif (decide ((gi r125.2.2.2 5) = 0)) then
    Option.bind (slices_Contains_bool (gl r125.2.2.2 8) true) fun r128 =>
    bif r128 then
      some false
    else bif (!(decide ((gi r125.2.2.2 5) = 0))) then
      bif (decide ((gi r125.2.2.2 1) < 1)) then
        some false
      else bif (!(decide ((gi r125.2.2.2 2) = (gi r125.2.2.2 0)))) then
        some false
      else bif (decide ((gi r125.2.2.2 5) = 2)) then
        bif (!(decide ((gi r125.2.2.2 6) = (gi r125.2.2.2 0)))) then
          some false
        else Option.bind (impl_NodeOk_l16 ((r125.2.1 - 0).toNat + 1) r125.2.1 0 (n_impl_Node r125.2.2.2)) fun r129 =>
        bif (Nat.beq r129.1 0) then
          some r129.2
        else some true
      else Option.bind (impl_NodeOk_l16 ((r125.2.1 - 0).toNat + 1) r125.2.1 0 (n_impl_Node r125.2.2.2)) fun r130 =>
      bif (Nat.beq r130.1 0) then
        some r130.2
      else some true
    else bif (decide ((gi r125.2.2.2 5) = 2)) then
      bif (!(decide ((gi r125.2.2.2 6) = (gi r125.2.2.2 0)))) then
        some false
      else Option.bind (impl_NodeOk_l16 ((r125.2.1 - 0).toNat + 1) r125.2.1 0 (n_impl_Node r125.2.2.2)) fun r131 =>
      bif (Nat.beq r131.1 0) then
        some r131.2
      else some true
    else Option.bind (impl_NodeOk_l16 ((r125.2.1 - 0).toNat + 1) r125.2.1 0 (n_impl_Node r125.2.2.2)) fun r132 =>
    bif (Nat.beq r132.1 0) then
      some r132.2
    else some true
  else bif (!(decide ((gi r125.2.2.2 5) = 0))) then
    bif (decide ((gi r125.2.2.2 1) < 1)) then
      some false
    else bif (!(decide ((gi r125.2.2.2 2) = (gi r125.2.2.2 0)))) then
      some false
    else bif (decide ((gi r125.2.2.2 5) = 2)) then
      bif (!(decide ((gi r125.2.2.2 6) = (gi r125.2.2.2 0)))) then
        some false
      else Option.bind (impl_NodeOk_l16 ((r125.2.1 - 0).toNat + 1) r125.2.1 0 (n_impl_Node r125.2.2.2)) fun r133 =>
      bif (Nat.beq r133.1 0) then
        some r133.2
      else some true
    else Option.bind (impl_NodeOk_l16 ((r125.2.1 - 0).toNat + 1) r125.2.1 0 (n_impl_Node r125.2.2.2)) fun r134 =>
    bif (Nat.beq r134.1 0) then
      some r134.2
    else some true
  else bif (decide ((gi r125.2.2.2 5) = 2)) then
    bif (!(decide ((gi r125.2.2.2 6) = (gi r125.2.2.2 0)))) then
      some false
    else Option.bind (impl_NodeOk_l16 ((r125.2.1 - 0).toNat + 1) r125.2.1 0 (n_impl_Node r125.2.2.2)) fun r135 =>
    bif (Nat.beq r135.1 0) then
      some r135.2
    else some true
  else Option.bind (impl_NodeOk_l16 ((r125.2.1 - 0).toNat + 1) r125.2.1 0 (n_impl_Node r125.2.2.2)) fun r136 =>
  bif (Nat.beq r136.1 0) then
    some r136.2
  else some true
def impl_MsgOk_l11 : Nat → Int → List V → Int → Int → V → Option (Nat × Bool × V)
  | 0, _, _, _, _, _ => none
  | k_ + 1, term3, v109, v110, v111, b0 =>
    bif (decide (v111 < v110)) then
      bif (idxOk v111 v109.length) then
        Option.bind (impl_ItemOk (n_laws_Item (rd v109 v111.toNat))) fun r138 =>
        bif (!r138) then
          some (0, false, (n_impl_Msg b0))
        else bif (!(impl_within (gi (rd v109 v111.toNat) 0) term3 (gi b0 3))) then
          some (0, false, (n_impl_Msg b0))
        else impl_MsgOk_l11 k_ (gi (rd v109 v111.toNat) 0) v109 v110 (IntKind.i64.wrap (v111 + 1)) (n_impl_Msg b0)
      else none
    else some (1, false, (n_impl_Msg b0))
def impl_MsgOk (m : V) : Option (Bool) :=
  bif (!(impl_within (gi m 0) 0 3)) then
    some false
  else bif (!(impl_within (gi m 1) 0 4)) then
    some false
  else bif (!(impl_within (gi m 2) 0 4)) then
    some false
  else bif (decide ((gi m 1) = (gi m 2))) then
    some false
  else bif (!(impl_isTerm (gi m 3))) then
    some false
  else bif (!(decide ((gi m 0) = 2))) then
    bif (decide ((0 : Int) < (((gl m 6).length : Nat) : Int))) then
      some false
    else bif (!(decide ((gi m 7) = 0))) then
      some false
    else bif (decide ((gi m 0) = 1)) then
      bif (!(decide ((gi m 4) = 0))) then
        some false
      else bif (decide ((gi m 0) = 1)) then
        bif (decide ((gi m 5) = 0)) then
          some (impl_within (gi m 4) 0 400)
        else some false
      else bif (decide ((gi m 0) = 3)) then
        bif (decide ((gi m 5) = 0)) then
          some (impl_within (gi m 4) 0 400)
        else some false
      else bif (gb m 8) then
        some false
      else bif (!(impl_within (gi m 4) 0 400)) then
        some false
      else bif (decide ((gi m 4) = 0)) then
        bif (!(decide ((gi m 5) = 0))) then
          some false
        else bif (decide ((0 : Int) < (gi m 4))) then
          bif (!(impl_within (gi m 5) 1 (gi m 3))) then
            some false
          else Option.bind (impl_MsgOk_l11 (((((gl m 6).length : Nat) : Int) - 0).toNat + 1) (gi m 5) (gl m 6) (((gl m 6).length : Nat) : Int) 0 (n_impl_Msg m)) fun r139 =>
          bif (Nat.beq r139.1 0) then
            some r139.2.1
          else bif (decide ((((gl r139.2.2 6).length : Nat) : Int) ≤ 4)) then
            bif (decide ((((gl r139.2.2 6).length : Nat) : Int) ≤ (IntKind.i64.wrap (400 - (gi r139.2.2 4))))) then
              some (impl_within (gi r139.2.2 7) 0 400)
            else some false
          else some false
        else Option.bind (impl_MsgOk_l11 (((((gl m 6).length : Nat) : Int) - 0).toNat + 1) (gi m 5) (gl m 6) (((gl m 6).length : Nat) : Int) 0 (n_impl_Msg m)) fun r140 =>
        bif (Nat.beq r140.1 0) then
          some r140.2.1
        else bif (decide ((((gl r140.2.2 6).length : Nat) : Int) ≤ 4)) then
          bif (decide ((((gl r140.2.2 6).length : Nat) : Int) ≤ (IntKind.i64.wrap (400 - (gi r140.2.2 4))))) then
            some (impl_within (gi r140.2.2 7) 0 400)
          else some false
        else some false
      else bif (decide ((0 : Int) < (gi m 4))) then
        bif (!(impl_within (gi m 5) 1 (gi m 3))) then
          some false
        else Option.bind (impl_MsgOk_l11 (((((gl m 6).length : Nat) : Int) - 0).toNat + 1) (gi m 5) (gl m 6) (((gl m 6).length : Nat) : Int) 0 (n_impl_Msg m)) fun r141 =>
        bif (Nat.beq r141.1 0) then
          some r141.2.1
        else bif (decide ((((gl r141.2.2 6).length : Nat) : Int) ≤ 4)) then
          bif (decide ((((gl r141.2.2 6).length : Nat) : Int) ≤ (IntKind.i64.wrap (400 - (gi r141.2.2 4))))) then
            some (impl_within (gi r141.2.2 7) 0 400)
          else some false
        else some false
      else Option.bind (impl_MsgOk_l11 (((((gl m 6).length : Nat) : Int) - 0).toNat + 1) (gi m 5) (gl m 6) (((gl m 6).length : Nat) : Int) 0 (n_impl_Msg m)) fun r142 =>
      bif (Nat.beq r142.1 0) then
        some r142.2.1
      else bif (decide ((((gl r142.2.2 6).length : Nat) : Int) ≤ 4)) then
        bif (decide ((((gl r142.2.2 6).length : Nat) : Int) ≤ (IntKind.i64.wrap (400 - (gi r142.2.2 4))))) then
          some (impl_within (gi r142.2.2 7) 0 400)
        else some false
      else some false
    else bif (decide ((gi m 0) = 1)) then
      bif (decide ((gi m 5) = 0)) then
        some (impl_within (gi m 4) 0 400)
      else some false
    else bif (decide ((gi m 0) = 3)) then
      bif (decide ((gi m 5) = 0)) then
        some (impl_within (gi m 4) 0 400)
      else some false
    else bif (gb m 8) then
      some false
    else bif (!(impl_within (gi m 4) 0 400)) then
      some false
    else bif (decide ((gi m 4) = 0)) then
      bif (!(decide ((gi m 5) = 0))) then
        some false
      else bif (decide ((0 : Int) < (gi m 4))) then
        bif (!(impl_within (gi m 5) 1 (gi m 3))) then
          some false
        else Option.bind (impl_MsgOk_l11 (((((gl m 6).length : Nat) : Int) - 0).toNat + 1) (gi m 5) (gl m 6) (((gl m 6).length : Nat) : Int) 0 (n_impl_Msg m)) fun r143 =>
        bif (Nat.beq r143.1 0) then
          some r143.2.1
        else bif (decide ((((gl r143.2.2 6).length : Nat) : Int) ≤ 4)) then
          bif (decide ((((gl r143.2.2 6).length : Nat) : Int) ≤ (IntKind.i64.wrap (400 - (gi r143.2.2 4))))) then
            some (impl_within (gi r143.2.2 7) 0 400)
          else some false
        else some false
      else Option.bind (impl_MsgOk_l11 (((((gl m 6).length : Nat) : Int) - 0).toNat + 1) (gi m 5) (gl m 6) (((gl m 6).length : Nat) : Int) 0 (n_impl_Msg m)) fun r144 =>
      bif (Nat.beq r144.1 0) then
        some r144.2.1
      else bif (decide ((((gl r144.2.2 6).length : Nat) : Int) ≤ 4)) then
        bif (decide ((((gl r144.2.2 6).length : Nat) : Int) ≤ (IntKind.i64.wrap (400 - (gi r144.2.2 4))))) then
          some (impl_within (gi r144.2.2 7) 0 400)
        else some false
      else some false
    else bif (decide ((0 : Int) < (gi m 4))) then
      bif (!(impl_within (gi m 5) 1 (gi m 3))) then
        some false
      else Option.bind (impl_MsgOk_l11 (((((gl m 6).length : Nat) : Int) - 0).toNat + 1) (gi m 5) (gl m 6) (((gl m 6).length : Nat) : Int) 0 (n_impl_Msg m)) fun r145 =>
      bif (Nat.beq r145.1 0) then
        some r145.2.1
      else bif (decide ((((gl r145.2.2 6).length : Nat) : Int) ≤ 4)) then
        bif (decide ((((gl r145.2.2 6).length : Nat) : Int) ≤ (IntKind.i64.wrap (400 - (gi r145.2.2 4))))) then
          some (impl_within (gi r145.2.2 7) 0 400)
        else some false
      else some false
    else Option.bind (impl_MsgOk_l11 (((((gl m 6).length : Nat) : Int) - 0).toNat + 1) (gi m 5) (gl m 6) (((gl m 6).length : Nat) : Int) 0 (n_impl_Msg m)) fun r146 =>
    bif (Nat.beq r146.1 0) then
      some r146.2.1
    else bif (decide ((((gl r146.2.2 6).length : Nat) : Int) ≤ 4)) then
      bif (decide ((((gl r146.2.2 6).length : Nat) : Int) ≤ (IntKind.i64.wrap (400 - (gi r146.2.2 4))))) then
        some (impl_within (gi r146.2.2 7) 0 400)
      else some false
    else some false
  else bif (decide ((gi m 0) = 1)) then
    bif (!(decide ((gi m 4) = 0))) then
      some false
    else bif (decide ((gi m 0) = 1)) then
      bif (decide ((gi m 5) = 0)) then
        some (impl_within (gi m 4) 0 400)
      else some false
    else bif (decide ((gi m 0) = 3)) then
      bif (decide ((gi m 5) = 0)) then
        some (impl_within (gi m 4) 0 400)
      else some false
    else bif (gb m 8) then
      some false
    else bif (!(impl_within (gi m 4) 0 400)) then
      some false
    else bif (decide ((gi m 4) = 0)) then
      bif (!(decide ((gi m 5) = 0))) then
        some false
      else bif (decide ((0 : Int) < (gi m 4))) then
        bif (!(impl_within (gi m 5) 1 (gi m 3))) then
          some false
        else Option.bind (impl_MsgOk_l11 (((((gl m 6).length : Nat) : Int) - 0).toNat + 1) (gi m 5) (gl m 6) (((gl m 6).length : Nat) : Int) 0 (n_impl_Msg m)) fun r147 =>
        bif (Nat.beq r147.1 0) then
          some r147.2.1
        else bif (decide ((((gl r147.2.2 6).length : Nat) : Int) ≤ 4)) then
          bif (decide ((((gl r147.2.2 6).length : Nat) : Int) ≤ (IntKind.i64.wrap (400 - (gi r147.2.2 4))))) then
            some (impl_within (gi r147.2.2 7) 0 400)
          else some false
        else some false
      else Option.bind (impl_MsgOk_l11 (((((gl m 6).length : Nat) : Int) - 0).toNat + 1) (gi m 5) (gl m 6) (((gl m 6).length : Nat) : Int) 0 (n_impl_Msg m)) fun r148 =>
      bif (Nat.beq r148.1 0) then
        some r148.2.1
      else bif (decide ((((gl r148.2.2 6).length : Nat) : Int) ≤ 4)) then
        bif (decide ((((gl r148.2.2 6).length : Nat) : Int) ≤ (IntKind.i64.wrap (400 - (gi r148.2.2 4))))) then
          some (impl_within (gi r148.2.2 7) 0 400)
        else some false
      else some false
    else bif (decide ((0 : Int) < (gi m 4))) then
      bif (!(impl_within (gi m 5) 1 (gi m 3))) then
        some false
      else Option.bind (impl_MsgOk_l11 (((((gl m 6).length : Nat) : Int) - 0).toNat + 1) (gi m 5) (gl m 6) (((gl m 6).length : Nat) : Int) 0 (n_impl_Msg m)) fun r149 =>
      bif (Nat.beq r149.1 0) then
        some r149.2.1
      else bif (decide ((((gl r149.2.2 6).length : Nat) : Int) ≤ 4)) then
        bif (decide ((((gl r149.2.2 6).length : Nat) : Int) ≤ (IntKind.i64.wrap (400 - (gi r149.2.2 4))))) then
          some (impl_within (gi r149.2.2 7) 0 400)
        else some false
      else some false
    else Option.bind (impl_MsgOk_l11 (((((gl m 6).length : Nat) : Int) - 0).toNat + 1) (gi m 5) (gl m 6) (((gl m 6).length : Nat) : Int) 0 (n_impl_Msg m)) fun r150 =>
    bif (Nat.beq r150.1 0) then
      some r150.2.1
    else bif (decide ((((gl r150.2.2 6).length : Nat) : Int) ≤ 4)) then
      bif (decide ((((gl r150.2.2 6).length : Nat) : Int) ≤ (IntKind.i64.wrap (400 - (gi r150.2.2 4))))) then
        some (impl_within (gi r150.2.2 7) 0 400)
      else some false
    else some false
  else bif (decide ((gi m 0) = 1)) then
    bif (decide ((gi m 5) = 0)) then
      some (impl_within (gi m 4) 0 400)
    else some false
  else bif (decide ((gi m 0) = 3)) then
    bif (decide ((gi m 5) = 0)) then
      some (impl_within (gi m 4) 0 400)
    else some false
  else bif (gb m 8) then
    some false
  else bif (!(impl_within (gi m 4) 0 400)) then
    some false
  else bif (decide ((gi m 4) = 0)) then
    bif (!(decide ((gi m 5) = 0))) then
      some false
    else bif (decide ((0 : Int) < (gi m 4))) then
      bif (!(impl_within (gi m 5) 1 (gi m 3))) then
        some false
      else Option.bind (impl_MsgOk_l11 (((((gl m 6).length : Nat) : Int) - 0).toNat + 1) (gi m 5) (gl m 6) (((gl m 6).length : Nat) : Int) 0 (n_impl_Msg m)) fun r151 =>
      bif (Nat.beq r151.1 0) then
        some r151.2.1
      else bif (decide ((((gl r151.2.2 6).length : Nat) : Int) ≤ 4)) then
        bif (decide ((((gl r151.2.2 6).length : Nat) : Int) ≤ (IntKind.i64.wrap (400 - (gi r151.2.2 4))))) then
          some (impl_within (gi r151.2.2 7) 0 400)
        else some false
      else some false
    else Option.bind (impl_MsgOk_l11 (((((gl m 6).length : Nat) : Int) - 0).toNat + 1) (gi m 5) (gl m 6) (((gl m 6).length : Nat) : Int) 0 (n_impl_Msg m)) fun r152 =>
    bif (Nat.beq r152.1 0) then
      some r152.2.1
    else bif (decide ((((gl r152.2.2 6).length : Nat) : Int) ≤ 4)) then
      bif (decide ((((gl r152.2.2 6).length : Nat) : Int) ≤ (IntKind.i64.wrap (400 - (gi r152.2.2 4))))) then
        some (impl_within (gi r152.2.2 7) 0 400)
      else some false
    else some false
  else bif (decide ((0 : Int) < (gi m 4))) then
    bif (!(impl_within (gi m 5) 1 (gi m 3))) then
      some false
    else Option.bind (impl_MsgOk_l11 (((((gl m 6).length : Nat) : Int) - 0).toNat + 1) (gi m 5) (gl m 6) (((gl m 6).length : Nat) : Int) 0 (n_impl_Msg m)) fun r153 =>
    bif (Nat.beq r153.1 0) then
      some r153.2.1
    else bif (decide ((((gl r153.2.2 6).length : Nat) : Int) ≤ 4)) then
      bif (decide ((((gl r153.2.2 6).length : Nat) : Int) ≤ (IntKind.i64.wrap (400 - (gi r153.2.2 4))))) then
        some (impl_within (gi r153.2.2 7) 0 400)
      else some false
    else some false
  else Option.bind (impl_MsgOk_l11 (((((gl m 6).length : Nat) : Int) - 0).toNat + 1) (gi m 5) (gl m 6) (((gl m 6).length : Nat) : Int) 0 (n_impl_Msg m)) fun r154 =>
  bif (Nat.beq r154.1 0) then
    some r154.2.1
  else bif (decide ((((gl r154.2.2 6).length : Nat) : Int) ≤ 4)) then
    bif (decide ((((gl r154.2.2 6).length : Nat) : Int) ≤ (IntKind.i64.wrap (400 - (gi r154.2.2 4))))) then
      some (impl_within (gi r154.2.2 7) 0 400)
    else some false
  else some false
def slices_Clone_byte (s : List V) : Option (List V) :=
  bif ((roomy (0 + s.length) 1) && true) then
    some s
  else none
def impl_Op_own (o : V) : Option (V) :=
  Option.bind (slices_Clone_byte (gl o 1)) fun r156 =>
  Option.bind (slices_Clone_byte (gl o 2)) fun r157 =>
  some (V.agg [(V.int .i64 (gi o 0)), (V.inl t_byte r156), (V.inl t_byte r157), (V.int .i64 (gi o 3))])
def impl_Cmd_own (c : V) : Option (V) :=
  Option.bind (impl_Op_own (V.agg [(V.int .i64 (gi c 2)), (V.inl t_byte (gl c 3)), (V.inl t_byte (gl c 4)), (V.int .i64 (gi c 5))])) fun r158 =>
  some (V.agg [(V.int .i64 (gi c 0)), (V.int .i64 (gi c 1)), (V.int .i64 (gi r158 0)), (V.inl t_byte (gl r158 1)), (V.inl t_byte (gl r158 2)), (V.int .i64 (gi r158 3))])
def impl_ownItems_l3 : Nat → List V → Int → Int → List V → Option (List V)
  | 0, _, _, _, _ => none
  | k_ + 1, v6, v7, v8, r0 =>
    bif (decide (v8 < v7)) then
      bif (idxOk v8 v6.length) then
        Option.bind (impl_Cmd_own (V.agg [(V.int .i64 (gi (rd v6 v8.toNat) 1)), (V.int .i64 (gi (rd v6 v8.toNat) 2)), (V.int .i64 (gi (rd v6 v8.toNat) 3)), (V.inl t_byte (gl (rd v6 v8.toNat) 4)), (V.inl t_byte (gl (rd v6 v8.toNat) 5)), (V.int .i64 (gi (rd v6 v8.toNat) 6))])) fun r159 =>
        bif ((roomy (r0.length + 1) 88) && true) then
          impl_ownItems_l3 k_ v6 v7 (IntKind.i64.wrap (v8 + 1)) (r0 ++ [(V.agg [(V.int .i64 (gi (rd v6 v8.toNat) 0)), (V.int .i64 (gi r159 0)), (V.int .i64 (gi r159 1)), (V.int .i64 (gi r159 2)), (V.inl t_byte (gl r159 3)), (V.inl t_byte (gl r159 4)), (V.int .i64 (gi r159 5))])])
        else none
      else none
    else some r0
def impl_ownItems (list : List V) : Option (List V) :=
  Option.bind (impl_ownItems_l3 ((((list.length : Nat) : Int) - 0).toNat + 1) list ((list.length : Nat) : Int) 0 []) fun r160 =>
  some r160
def slices_Clone_bool (s : List V) : Option (List V) :=
  bif ((roomy (0 + s.length) 1) && true) then
    some s
  else none
def slices_Clone_int (s : List V) : Option (List V) :=
  bif ((roomy (0 + s.length) 8) && true) then
    some s
  else none
def impl_Node_own (n : V) : Option (V) :=
  Option.bind (impl_ownItems (gl n 3)) fun r161 =>
  Option.bind (slices_Clone_bool (gl n 8)) fun r162 =>
  Option.bind (slices_Clone_int (gl n 9)) fun r163 =>
  Option.bind (slices_Clone_int (gl n 10)) fun r164 =>
  some (V.agg [(V.int .i64 (gi n 0)), (V.int .i64 (gi n 1)), (V.int .i64 (gi n 2)), (V.inl t_impl_Item r161), (V.int .i64 (gi n 4)), (V.int .i64 (gi n 5)), (V.int .i64 (gi n 6)), (V.int .i64 (gi n 7)), (V.inl t_bool r162), (V.inl t_int' r163), (V.inl t_int' r164)])
def impl_server_follow (s : V) (term_ : Int) : V :=
  bif (decide ((gi s 1) < term_)) then
    (V.agg [(V.int .i64 (gi s 0)), (V.int .i64 term_), (V.int .i64 (-1)), (V.inl t_impl_Item (gl s 3)), (V.int .i64 (gi s 4)), (V.int .i64 0), (V.int .i64 (-1)), (V.int .i64 (gi s 7)), (V.inl t_bool ((List.replicate ((gl s 8).length) (V.bool false)) ++ ((gl s 8).drop (0 + ((gl s 8).length))))), (V.inl t_int' ((List.replicate ((gl s 9).length) (V.int .i64 0)) ++ ((gl s 9).drop (0 + ((gl s 9).length))))), (V.inl t_int' ((List.replicate ((gl s 10).length) (V.int .i64 0)) ++ ((gl s 10).drop (0 + ((gl s 10).length))))), (V.inl t_impl_Msg (gl s 11))])
  else (V.agg [(V.int .i64 (gi s 0)), (V.int .i64 (gi s 1)), (V.int .i64 (gi s 2)), (V.inl t_impl_Item (gl s 3)), (V.int .i64 (gi s 4)), (V.int .i64 0), (V.int .i64 (gi s 6)), (V.int .i64 (gi s 7)), (V.inl t_bool ((List.replicate ((gl s 8).length) (V.bool false)) ++ ((gl s 8).drop (0 + ((gl s 8).length))))), (V.inl t_int' ((List.replicate ((gl s 9).length) (V.int .i64 0)) ++ ((gl s 9).drop (0 + ((gl s 9).length))))), (V.inl t_int' ((List.replicate ((gl s 10).length) (V.int .i64 0)) ++ ((gl s 10).drop (0 + ((gl s 10).length))))), (V.inl t_impl_Msg (gl s 11))])
def impl_Node_termAt (n : V) (place : Int) : Option (Int) :=
  bif (!(impl_within place 1 (((gl n 3).length : Nat) : Int))) then
    some 0
  else bif (idxOk (IntKind.i64.wrap (place - 1)) ((gl n 3).length)) then
    some (gi (rd (gl n 3) ((IntKind.i64.wrap (place - 1)).toNat)) 0)
  else none
def impl_Node_lastTerm (n : V) : Option (Int) :=
  Option.bind (impl_Node_termAt (n_impl_Node n) (((gl n 3).length : Nat) : Int)) fun r166 =>
  some r166
def impl_Node_newer (n : V) (place : Int) (term_ : Int) : Option (Bool) :=
  Option.bind (impl_Node_lastTerm (n_impl_Node n)) fun r167 =>
  bif (decide (r167 < term_)) then
    some true
  else Option.bind (impl_Node_lastTerm (n_impl_Node n)) fun r168 =>
  bif (decide (term_ = r168)) then
    some (decide ((((gl n 3).length : Nat) : Int) ≤ place))
  else some false
def impl_Node_most (n : V) (count : Int) : Bool :=
  (decide ((((gl n 8).length : Nat) : Int) < (IntKind.i64.wrap (2 * count))))
def impl_server_advance_l6 : Nat → Int → Int → Int → Int → V → List V → List V → List V → List V → List V → Option (Int × Int × V × List V × List V × List V × List V × List V)
  | 0, _, _, _, _, _, _, _, _, _, _ => none
  | k_ + 1, place2, count3, v61, v62, b0, r1, r2, r3, r4, r5 =>
    bif (decide (v62 < v61)) then
      bif (idxOk v62 r1.length) then
        bif (decide (place2 ≤ (gi (rd r1 (0 + v62.toNat)) 0))) then
          impl_server_advance_l6 k_ place2 (IntKind.i64.wrap (count3 + 1)) v61 (IntKind.i64.wrap (v62 + 1)) (V.agg [(V.int .i64 (gi b0 0)), (V.int .i64 (gi b0 1)), (V.int .i64 (gi b0 2)), (V.sl 2 t_impl_Item 0 none), (V.int .i64 (gi b0 4)), (V.int .i64 (gi b0 5)), (V.int .i64 (gi b0 6)), (V.int .i64 (gi b0 7)), (V.sl 3 t_bool 0 none), (V.sl 4 t_int' 0 none), (V.sl 1 t_int' 0 none), (V.sl 5 t_impl_Msg 0 none)]) r1 r2 r3 r4 r5
        else impl_server_advance_l6 k_ place2 count3 v61 (IntKind.i64.wrap (v62 + 1)) (V.agg [(V.int .i64 (gi b0 0)), (V.int .i64 (gi b0 1)), (V.int .i64 (gi b0 2)), (V.sl 2 t_impl_Item 0 none), (V.int .i64 (gi b0 4)), (V.int .i64 (gi b0 5)), (V.int .i64 (gi b0 6)), (V.int .i64 (gi b0 7)), (V.sl 3 t_bool 0 none), (V.sl 4 t_int' 0 none), (V.sl 1 t_int' 0 none), (V.sl 5 t_impl_Msg 0 none)]) r1 r2 r3 r4 r5
      else none
    else some (place2, count3, (V.agg [(V.int .i64 (gi b0 0)), (V.int .i64 (gi b0 1)), (V.int .i64 (gi b0 2)), (V.sl 1 t_impl_Item 0 none), (V.int .i64 (gi b0 4)), (V.int .i64 (gi b0 5)), (V.int .i64 (gi b0 6)), (V.int .i64 (gi b0 7)), (V.sl 2 t_bool 0 none), (V.sl 3 t_int' 0 none), (V.sl 4 t_int' 0 none), (V.sl 5 t_impl_Msg 0 none)]), r2, r3, r4, r1, r5)
def impl_server_advance_l2 : Nat → Int → V → List V → List V → List V → List V → List V → Option (Nat × V × List V × List V × List V × List V × List V)
  | 0, _, _, _, _, _, _, _ => none
  | k_ + 1, place2, b0, r1, r2, r3, r4, r5 =>
    bif (decide ((gi b0 4) < place2)) then
      Option.bind (impl_server_advance_l6 ((((r4.length : Nat) : Int) - 0).toNat + 1) place2 0 ((r4.length : Nat) : Int) 0 (V.agg [(V.int .i64 (gi b0 0)), (V.int .i64 (gi b0 1)), (V.int .i64 (gi b0 2)), (V.sl 2 t_impl_Item 0 none), (V.int .i64 (gi b0 4)), (V.int .i64 (gi b0 5)), (V.int .i64 (gi b0 6)), (V.int .i64 (gi b0 7)), (V.sl 3 t_bool 0 none), (V.sl 4 t_int' 0 none), (V.sl 1 t_int' 0 none), (V.sl 5 t_impl_Msg 0 none)]) r4 r1 r2 r3 r5) fun r173 =>
      Option.bind (impl_Node_termAt (V.agg [(V.int .i64 (gi r173.2.2.1 0)), (V.int .i64 (gi r173.2.2.1 1)), (V.int .i64 (gi r173.2.2.1 2)), (V.inl t_impl_Item r173.2.2.2.1), (V.int .i64 (gi r173.2.2.1 4)), (V.int .i64 (gi r173.2.2.1 5)), (V.int .i64 (gi r173.2.2.1 6)), (V.int .i64 (gi r173.2.2.1 7)), (V.inl t_bool r173.2.2.2.2.1), (V.inl t_int' r173.2.2.2.2.2.1), (V.inl t_int' r173.2.2.2.2.2.2.1)]) r173.1) fun r174 =>
      bif (decide (r174 = (gi r173.2.2.1 1))) then
        bif impl_Node_most (V.agg [(V.int .i64 (gi r173.2.2.1 0)), (V.int .i64 (gi r173.2.2.1 1)), (V.int .i64 (gi r173.2.2.1 2)), (V.inl t_impl_Item r173.2.2.2.1), (V.int .i64 (gi r173.2.2.1 4)), (V.int .i64 (gi r173.2.2.1 5)), (V.int .i64 (gi r173.2.2.1 6)), (V.int .i64 (gi r173.2.2.1 7)), (V.inl t_bool r173.2.2.2.2.1), (V.inl t_int' r173.2.2.2.2.2.1), (V.inl t_int' r173.2.2.2.2.2.2.1)]) r173.2.1 then
          some (0, (V.agg [(V.int .i64 (gi r173.2.2.1 0)), (V.int .i64 (gi r173.2.2.1 1)), (V.int .i64 (gi r173.2.2.1 2)), (V.sl 1 t_impl_Item 0 none), (V.int .i64 r173.1), (V.int .i64 (gi r173.2.2.1 5)), (V.int .i64 (gi r173.2.2.1 6)), (V.int .i64 (gi r173.2.2.1 7)), (V.sl 2 t_bool 0 none), (V.sl 3 t_int' 0 none), (V.sl 4 t_int' 0 none), (V.sl 5 t_impl_Msg 0 none)]), r173.2.2.2.1, r173.2.2.2.2.1, r173.2.2.2.2.2.1, r173.2.2.2.2.2.2.1, r173.2.2.2.2.2.2.2)
        else impl_server_advance_l2 k_ (IntKind.i64.wrap (r173.1 - 1)) (V.agg [(V.int .i64 (gi r173.2.2.1 0)), (V.int .i64 (gi r173.2.2.1 1)), (V.int .i64 (gi r173.2.2.1 2)), (V.sl 1 t_impl_Item 0 none), (V.int .i64 (gi r173.2.2.1 4)), (V.int .i64 (gi r173.2.2.1 5)), (V.int .i64 (gi r173.2.2.1 6)), (V.int .i64 (gi r173.2.2.1 7)), (V.sl 2 t_bool 0 none), (V.sl 3 t_int' 0 none), (V.sl 4 t_int' 0 none), (V.sl 5 t_impl_Msg 0 none)]) r173.2.2.2.1 r173.2.2.2.2.1 r173.2.2.2.2.2.1 r173.2.2.2.2.2.2.1 r173.2.2.2.2.2.2.2
      else impl_server_advance_l2 k_ (IntKind.i64.wrap (r173.1 - 1)) (V.agg [(V.int .i64 (gi r173.2.2.1 0)), (V.int .i64 (gi r173.2.2.1 1)), (V.int .i64 (gi r173.2.2.1 2)), (V.sl 1 t_impl_Item 0 none), (V.int .i64 (gi r173.2.2.1 4)), (V.int .i64 (gi r173.2.2.1 5)), (V.int .i64 (gi r173.2.2.1 6)), (V.int .i64 (gi r173.2.2.1 7)), (V.sl 2 t_bool 0 none), (V.sl 3 t_int' 0 none), (V.sl 4 t_int' 0 none), (V.sl 5 t_impl_Msg 0 none)]) r173.2.2.2.1 r173.2.2.2.2.1 r173.2.2.2.2.2.1 r173.2.2.2.2.2.2.1 r173.2.2.2.2.2.2.2
    else some (1, (V.agg [(V.int .i64 (gi b0 0)), (V.int .i64 (gi b0 1)), (V.int .i64 (gi b0 2)), (V.sl 1 t_impl_Item 0 none), (V.int .i64 (gi b0 4)), (V.int .i64 (gi b0 5)), (V.int .i64 (gi b0 6)), (V.int .i64 (gi b0 7)), (V.sl 2 t_bool 0 none), (V.sl 3 t_int' 0 none), (V.sl 4 t_int' 0 none), (V.sl 5 t_impl_Msg 0 none)]), r1, r2, r3, r4, r5)
def impl_server_advance (s : V) : Option (V) :=
  bif (idxOk (gi s 0) ((gl s 10).length)) then
    bif (idxOk (gi s 0) ((gl s 9).length)) then
      Option.bind (impl_server_advance_l2 (((((gl s 3).length : Nat) : Int) - (gi (V.agg [(V.int .i64 (gi s 0)), (V.int .i64 (gi s 1)), (V.int .i64 (gi s 2)), (V.sl 1 t_impl_Item 0 none), (V.int .i64 (gi s 4)), (V.int .i64 (gi s 5)), (V.int .i64 (gi s 6)), (V.int .i64 (gi s 7)), (V.sl 2 t_bool 0 none), (V.sl 3 t_int' 0 none), (V.sl 4 t_int' 0 none), (V.sl 5 t_impl_Msg 0 none)]) 4)).toNat + 1) (((gl s 3).length : Nat) : Int) (V.agg [(V.int .i64 (gi s 0)), (V.int .i64 (gi s 1)), (V.int .i64 (gi s 2)), (V.sl 1 t_impl_Item 0 none), (V.int .i64 (gi s 4)), (V.int .i64 (gi s 5)), (V.int .i64 (gi s 6)), (V.int .i64 (gi s 7)), (V.sl 2 t_bool 0 none), (V.sl 3 t_int' 0 none), (V.sl 4 t_int' 0 none), (V.sl 5 t_impl_Msg 0 none)]) (gl s 3) (gl s 8) ((gl s 9).set (0 + ((gi s 0).toNat)) (V.int .i64 (IntKind.i64.wrap ((((gl s 3).length : Nat) : Int) + 1)))) ((gl s 10).set (0 + ((gi s 0).toNat)) (V.int .i64 (((gl s 3).length : Nat) : Int))) (gl s 11)) fun r175 =>
      bif (Nat.beq r175.1 0) then
        some (V.agg [(V.int .i64 (gi r175.2.1 0)), (V.int .i64 (gi r175.2.1 1)), (V.int .i64 (gi r175.2.1 2)), (V.inl t_impl_Item r175.2.2.1), (V.int .i64 (gi r175.2.1 4)), (V.int .i64 (gi r175.2.1 5)), (V.int .i64 (gi r175.2.1 6)), (V.int .i64 (gi r175.2.1 7)), (V.inl t_bool r175.2.2.2.1), (V.inl t_int' r175.2.2.2.2.1), (V.inl t_int' r175.2.2.2.2.2.1), (V.inl t_impl_Msg r175.2.2.2.2.2.2)])
      else some (V.agg [(V.int .i64 (gi r175.2.1 0)), (V.int .i64 (gi r175.2.1 1)), (V.int .i64 (gi r175.2.1 2)), (V.inl t_impl_Item r175.2.2.1), (V.int .i64 (gi r175.2.1 4)), (V.int .i64 (gi r175.2.1 5)), (V.int .i64 (gi r175.2.1 6)), (V.int .i64 (gi r175.2.1 7)), (V.inl t_bool r175.2.2.2.1), (V.inl t_int' r175.2.2.2.2.1), (V.inl t_int' r175.2.2.2.2.2.1), (V.inl t_impl_Msg r175.2.2.2.2.2.2)])
    else none
  else none
def impl_Node_others_l3 : Nat → Int → Int → V → List V → Option (List V)
  | 0, _, _, _, _ => none
  | k_ + 1, v7, v8, b0, r1 =>
    bif (decide (v8 < v7)) then
      bif (!(decide (v8 = (gi b0 0)))) then
        bif ((roomy (r1.length + 1) 8) && true) then
          impl_Node_others_l3 k_ v7 (IntKind.i64.wrap (v8 + 1)) (n_impl_Node b0) (r1 ++ [(V.int .i64 v8)])
        else none
      else impl_Node_others_l3 k_ v7 (IntKind.i64.wrap (v8 + 1)) (n_impl_Node b0) r1
    else some r1
def impl_Node_others (n : V) : Option (List V) :=
  Option.bind (impl_Node_others_l3 (((((gl n 8).length : Nat) : Int) - 0).toNat + 1) (((gl n 8).length : Nat) : Int) 0 (n_impl_Node n) []) fun r177 =>
  some r177
def impl_Node_entries (n : V) (to : Int) : Option (V) :=
  bif (idxOk to ((gl n 9).length)) then
    bif ((decide ((0 : Int) ≤ (mnI (((gl n 3).length : Nat) : Int) (IntKind.i64.wrap ((IntKind.i64.wrap ((gi (rd (gl n 9) to.toNat) 0) - 1)) + 4))))) && (decide ((mnI (((gl n 3).length : Nat) : Int) (IntKind.i64.wrap ((IntKind.i64.wrap ((gi (rd (gl n 9) to.toNat) 0) - 1)) + 4))) ≤ (((gl n 3).length : Nat) : Int)))) then
      bif ((decide ((0 : Int) ≤ (IntKind.i64.wrap ((gi (rd (gl n 9) to.toNat) 0) - 1)))) && (decide ((IntKind.i64.wrap ((gi (rd (gl n 9) to.toNat) 0) - 1)) ≤ (((mnI (((gl n 3).length : Nat) : Int) (IntKind.i64.wrap ((IntKind.i64.wrap ((gi (rd (gl n 9) to.toNat) 0) - 1)) + 4))).toNat : Nat) : Int)))) then
        Option.bind (impl_Node_termAt (n_impl_Node n) (IntKind.i64.wrap ((gi (rd (gl n 9) to.toNat) 0) - 1))) fun r179 =>
        Option.bind (impl_ownItems (((gl n 3).drop ((IntKind.i64.wrap ((gi (rd (gl n 9) to.toNat) 0) - 1)).toNat)).take (((mnI (((gl n 3).length : Nat) : Int) (IntKind.i64.wrap ((IntKind.i64.wrap ((gi (rd (gl n 9) to.toNat) 0) - 1)) + 4))).toNat) - ((IntKind.i64.wrap ((gi (rd (gl n 9) to.toNat) 0) - 1)).toNat)))) fun r180 =>
        some (V.agg [(V.int .i64 2), (V.int .i64 (gi n 0)), (V.int .i64 to), (V.int .i64 (gi n 1)), (V.int .i64 (IntKind.i64.wrap ((gi (rd (gl n 9) to.toNat) 0) - 1))), (V.int .i64 r179), (V.inl t_impl_Item r180), (V.int .i64 (gi n 4)), (V.bool false)])
      else none
    else none
  else none
def impl_server_send (s : V) (to : Int) : Option (V) :=
  Option.bind (impl_Node_entries (n_impl_Node s) to) fun r181 =>
  bif ((roomy (((gl s 11).length) + 1) 88) && true) then
    some (V.agg [(V.int .i64 (gi s 0)), (V.int .i64 (gi s 1)), (V.int .i64 (gi s 2)), (V.inl t_impl_Item (gl s 3)), (V.int .i64 (gi s 4)), (V.int .i64 (gi s 5)), (V.int .i64 (gi s 6)), (V.int .i64 (gi s 7)), (V.inl t_bool (gl s 8)), (V.inl t_int' (gl s 9)), (V.inl t_int' (gl s 10)), (V.inl t_impl_Msg ((gl s 11) ++ [(n_impl_Msg r181)]))])
  else none
def impl_server_sendAll_l1 : Nat → Int → Int → V → List V → List V → List V → List V → List V → List V → Option (V × List V × List V × List V × List V × List V)
  | 0, _, _, _, _, _, _, _, _, _ => none
  | k_ + 1, v9, v10, b0, r1, r2, r3, r4, r5, r6 =>
    bif (decide (v10 < v9)) then
      bif (idxOk v10 r1.length) then
        Option.bind (impl_server_send (V.agg [(V.int .i64 (gi b0 0)), (V.int .i64 (gi b0 1)), (V.int .i64 (gi b0 2)), (V.inl t_impl_Item r2), (V.int .i64 (gi b0 4)), (V.int .i64 (gi b0 5)), (V.int .i64 (gi b0 6)), (V.int .i64 (gi b0 7)), (V.inl t_bool r3), (V.inl t_int' r4), (V.inl t_int' r5), (V.inl t_impl_Msg r6)]) (gi (rd r1 (0 + v10.toNat)) 0)) fun r182 =>
        impl_server_sendAll_l1 k_ v9 (IntKind.i64.wrap (v10 + 1)) (V.agg [(V.int .i64 (gi r182 0)), (V.int .i64 (gi r182 1)), (V.int .i64 (gi r182 2)), (V.sl 2 t_impl_Item 0 none), (V.int .i64 (gi r182 4)), (V.int .i64 (gi r182 5)), (V.int .i64 (gi r182 6)), (V.int .i64 (gi r182 7)), (V.sl 3 t_bool 0 none), (V.sl 4 t_int' 0 none), (V.sl 5 t_int' 0 none), (V.sl 6 t_impl_Msg 0 none)]) r1 (gl r182 3) (gl r182 8) (gl r182 9) (gl r182 10) (gl r182 11)
      else none
    else some ((V.agg [(V.int .i64 (gi b0 0)), (V.int .i64 (gi b0 1)), (V.int .i64 (gi b0 2)), (V.sl 1 t_impl_Item 0 none), (V.int .i64 (gi b0 4)), (V.int .i64 (gi b0 5)), (V.int .i64 (gi b0 6)), (V.int .i64 (gi b0 7)), (V.sl 2 t_bool 0 none), (V.sl 3 t_int' 0 none), (V.sl 4 t_int' 0 none), (V.sl 5 t_impl_Msg 0 none)]), r2, r3, r4, r5, r6)
def impl_server_sendAll (s : V) : Option (V) :=
  Option.bind (impl_Node_others (n_impl_Node s)) fun r178 =>
  Option.bind (impl_server_sendAll_l1 ((((r178.length : Nat) : Int) - 0).toNat + 1) ((r178.length : Nat) : Int) 0 (V.agg [(V.int .i64 (gi s 0)), (V.int .i64 (gi s 1)), (V.int .i64 (gi s 2)), (V.sl 2 t_impl_Item 0 none), (V.int .i64 (gi s 4)), (V.int .i64 (gi s 5)), (V.int .i64 (gi s 6)), (V.int .i64 (gi s 7)), (V.sl 3 t_bool 0 none), (V.sl 4 t_int' 0 none), (V.sl 5 t_int' 0 none), (V.sl 6 t_impl_Msg 0 none)]) r178 (gl s 3) (gl s 8) (gl s 9) (gl s 10) (gl s 11)) fun r183 =>
  some (V.agg [(V.int .i64 (gi r183.1 0)), (V.int .i64 (gi r183.1 1)), (V.int .i64 (gi r183.1 2)), (V.inl t_impl_Item r183.2.1), (V.int .i64 (gi r183.1 4)), (V.int .i64 (gi r183.1 5)), (V.int .i64 (gi r183.1 6)), (V.int .i64 (gi r183.1 7)), (V.inl t_bool r183.2.2.1), (V.inl t_int' r183.2.2.2.1), (V.inl t_int' r183.2.2.2.2.1), (V.inl t_impl_Msg r183.2.2.2.2.2)])
def impl_server_lead_l2 : Nat → Int → Int → Int → V → List V → List V → List V → List V → List V → Option (Int × V × List V × List V × List V × List V × List V)
  | 0, _, _, _, _, _, _, _, _, _ => none
  | k_ + 1, count2, v11, v12, b0, r1, r2, r3, r4, r5 =>
    bif (decide (v12 < v11)) then
      bif (idxOk v12 r1.length) then
        bif (gb (rd r1 (0 + v12.toNat)) 0) then
          impl_server_lead_l2 k_ (IntKind.i64.wrap (count2 + 1)) v11 (IntKind.i64.wrap (v12 + 1)) (V.agg [(V.int .i64 (gi b0 0)), (V.int .i64 (gi b0 1)), (V.int .i64 (gi b0 2)), (V.sl 2 t_impl_Item 0 none), (V.int .i64 (gi b0 4)), (V.int .i64 (gi b0 5)), (V.int .i64 (gi b0 6)), (V.int .i64 (gi b0 7)), (V.sl 1 t_bool 0 none), (V.sl 3 t_int' 0 none), (V.sl 4 t_int' 0 none), (V.sl 5 t_impl_Msg 0 none)]) r1 r2 r3 r4 r5
        else impl_server_lead_l2 k_ count2 v11 (IntKind.i64.wrap (v12 + 1)) (V.agg [(V.int .i64 (gi b0 0)), (V.int .i64 (gi b0 1)), (V.int .i64 (gi b0 2)), (V.sl 2 t_impl_Item 0 none), (V.int .i64 (gi b0 4)), (V.int .i64 (gi b0 5)), (V.int .i64 (gi b0 6)), (V.int .i64 (gi b0 7)), (V.sl 1 t_bool 0 none), (V.sl 3 t_int' 0 none), (V.sl 4 t_int' 0 none), (V.sl 5 t_impl_Msg 0 none)]) r1 r2 r3 r4 r5
      else none
    else some (count2, (V.agg [(V.int .i64 (gi b0 0)), (V.int .i64 (gi b0 1)), (V.int .i64 (gi b0 2)), (V.sl 1 t_impl_Item 0 none), (V.int .i64 (gi b0 4)), (V.int .i64 (gi b0 5)), (V.int .i64 (gi b0 6)), (V.int .i64 (gi b0 7)), (V.sl 2 t_bool 0 none), (V.sl 3 t_int' 0 none), (V.sl 4 t_int' 0 none), (V.sl 5 t_impl_Msg 0 none)]), r2, r1, r3, r4, r5)
def impl_server_lead_l10 : Nat → Int → Int → V → List V → List V → List V → List V → List V → Option (V × List V × List V × List V × List V × List V)
  | 0, _, _, _, _, _, _, _, _ => none
  | k_ + 1, v49, v50, b0, r1, r2, r3, r4, r5 =>
    bif (decide (v50 < v49)) then
      bif (idxOk v50 r3.length) then
        bif (idxOk v50 r4.length) then
          impl_server_lead_l10 k_ v49 (IntKind.i64.wrap (v50 + 1)) (V.agg [(V.int .i64 (gi b0 0)), (V.int .i64 (gi b0 1)), (V.int .i64 (gi b0 2)), (V.sl 1 t_impl_Item 0 none), (V.int .i64 (gi b0 4)), (V.int .i64 (gi b0 5)), (V.int .i64 (gi b0 6)), (V.int .i64 (gi b0 7)), (V.sl 2 t_bool 0 none), (V.sl 3 t_int' 0 none), (V.sl 4 t_int' 0 none), (V.sl 5 t_impl_Msg 0 none)]) r1 r2 (r3.set (0 + v50.toNat) (V.int .i64 (IntKind.i64.wrap (((r1.length : Nat) : Int) + 1)))) (r4.set (0 + v50.toNat) (V.int .i64 0)) r5
        else none
      else none
    else some ((V.agg [(V.int .i64 (gi b0 0)), (V.int .i64 (gi b0 1)), (V.int .i64 (gi b0 2)), (V.sl 1 t_impl_Item 0 none), (V.int .i64 (gi b0 4)), (V.int .i64 (gi b0 5)), (V.int .i64 (gi b0 6)), (V.int .i64 (gi b0 7)), (V.sl 2 t_bool 0 none), (V.sl 3 t_int' 0 none), (V.sl 4 t_int' 0 none), (V.sl 5 t_impl_Msg 0 none)]), r1, r2, r3, r4, r5)
def impl_server_lead (s : V) : Option (V) :=
  Option.bind (impl_server_lead_l2 (((((gl s 8).length : Nat) : Int) - 0).toNat + 1) 0 (((gl s 8).length : Nat) : Int) 0 (V.agg [(V.int .i64 (gi s 0)), (V.int .i64 (gi s 1)), (V.int .i64 (gi s 2)), (V.sl 2 t_impl_Item 0 none), (V.int .i64 (gi s 4)), (V.int .i64 (gi s 5)), (V.int .i64 (gi s 6)), (V.int .i64 (gi s 7)), (V.sl 1 t_bool 0 none), (V.sl 3 t_int' 0 none), (V.sl 4 t_int' 0 none), (V.sl 5 t_impl_Msg 0 none)]) (gl s 8) (gl s 3) (gl s 9) (gl s 10) (gl s 11)) fun r171 =>
  bif (!(impl_Node_most (V.agg [(V.int .i64 (gi r171.2.1 0)), (V.int .i64 (gi r171.2.1 1)), (V.int .i64 (gi r171.2.1 2)), (V.inl t_impl_Item r171.2.2.1), (V.int .i64 (gi r171.2.1 4)), (V.int .i64 (gi r171.2.1 5)), (V.int .i64 (gi r171.2.1 6)), (V.int .i64 (gi r171.2.1 7)), (V.inl t_bool r171.2.2.2.1), (V.inl t_int' r171.2.2.2.2.1), (V.inl t_int' r171.2.2.2.2.2.1)]) r171.1)) then
    some (V.agg [(V.int .i64 (gi r171.2.1 0)), (V.int .i64 (gi r171.2.1 1)), (V.int .i64 (gi r171.2.1 2)), (V.inl t_impl_Item r171.2.2.1), (V.int .i64 (gi r171.2.1 4)), (V.int .i64 (gi r171.2.1 5)), (V.int .i64 (gi r171.2.1 6)), (V.int .i64 (gi r171.2.1 7)), (V.inl t_bool r171.2.2.2.1), (V.inl t_int' r171.2.2.2.2.1), (V.inl t_int' r171.2.2.2.2.2.1), (V.inl t_impl_Msg r171.2.2.2.2.2.2)])
  else Option.bind (impl_server_lead_l10 ((((r171.2.2.2.2.1.length : Nat) : Int) - 0).toNat + 1) ((r171.2.2.2.2.1.length : Nat) : Int) 0 (V.agg [(V.int .i64 (gi r171.2.1 0)), (V.int .i64 (gi r171.2.1 1)), (V.int .i64 (gi r171.2.1 2)), (V.sl 1 t_impl_Item 0 none), (V.int .i64 (gi r171.2.1 4)), (V.int .i64 2), (V.int .i64 (gi r171.2.1 0)), (V.int .i64 0), (V.sl 2 t_bool 0 none), (V.sl 3 t_int' 0 none), (V.sl 4 t_int' 0 none), (V.sl 5 t_impl_Msg 0 none)]) r171.2.2.1 r171.2.2.2.1 r171.2.2.2.2.1 r171.2.2.2.2.2.1 r171.2.2.2.2.2.2) fun r172 =>
  bif (decide (((r172.2.1.length : Nat) : Int) < 400)) then
    bif ((roomy (r172.2.1.length + 1) 88) && true) then
      Option.bind (impl_server_advance (V.agg [(V.int .i64 (gi r172.1 0)), (V.int .i64 (gi r172.1 1)), (V.int .i64 (gi r172.1 2)), (V.inl t_impl_Item (r172.2.1 ++ [(V.agg [(V.int .i64 (gi r172.1 1)), (V.int .i64 (gi impl_noOp 0)), (V.int .i64 (gi impl_noOp 1)), (V.int .i64 (gi impl_noOp 2)), (V.inl t_byte (gl impl_noOp 3)), (V.inl t_byte (gl impl_noOp 4)), (V.int .i64 (gi impl_noOp 5))])])), (V.int .i64 (gi r172.1 4)), (V.int .i64 (gi r172.1 5)), (V.int .i64 (gi r172.1 6)), (V.int .i64 (gi r172.1 7)), (V.inl t_bool r172.2.2.1), (V.inl t_int' r172.2.2.2.1), (V.inl t_int' r172.2.2.2.2.1), (V.inl t_impl_Msg r172.2.2.2.2.2)])) fun r176 =>
      Option.bind (impl_server_sendAll (n_impl_server r176)) fun r184 =>
      some (n_impl_server r184)
    else none
  else Option.bind (impl_server_advance (V.agg [(V.int .i64 (gi r172.1 0)), (V.int .i64 (gi r172.1 1)), (V.int .i64 (gi r172.1 2)), (V.inl t_impl_Item r172.2.1), (V.int .i64 (gi r172.1 4)), (V.int .i64 (gi r172.1 5)), (V.int .i64 (gi r172.1 6)), (V.int .i64 (gi r172.1 7)), (V.inl t_bool r172.2.2.1), (V.inl t_int' r172.2.2.2.1), (V.inl t_int' r172.2.2.2.2.1), (V.inl t_impl_Msg r172.2.2.2.2.2)])) fun r185 =>
  Option.bind (impl_server_sendAll (n_impl_server r185)) fun r186 =>
  some (n_impl_server r186)
def impl_server_add_l10 : Nat → List V → Int → Int → V → V → List V → List V → List V → List V → List V → Option (Nat × Int × Bool × V × V × List V × List V × List V × List V × List V)
  | 0, _, _, _, _, _, _, _, _, _, _ => none
  | k_ + 1, v71, v72, v73, b0, b1, r2, r3, r4, r5, r6 =>
    bif (decide (v73 < v72)) then
      bif (idxOk v73 v71.length) then
        bif (decide ((IntKind.i64.wrap ((IntKind.i64.wrap ((gi b1 4) + 1)) + v73)) ≤ (gi b0 4))) then
          Option.bind (impl_Node_termAt (V.agg [(V.int .i64 (gi b0 0)), (V.int .i64 (gi b0 1)), (V.int .i64 (gi b0 2)), (V.inl t_impl_Item r2), (V.int .i64 (gi b0 4)), (V.int .i64 (gi b0 5)), (V.int .i64 (gi b0 6)), (V.int .i64 (gi b0 7)), (V.inl t_bool r3), (V.inl t_int' r4), (V.inl t_int' r5)]) (IntKind.i64.wrap ((IntKind.i64.wrap ((gi b1 4) + 1)) + v73))) fun r194 =>
          bif (!(decide (r194 = (gi (rd v71 v73.toNat) 0)))) then
            some (0, (gi b0 4), false, (V.agg [(V.int .i64 (gi b0 0)), (V.int .i64 (gi b0 1)), (V.int .i64 (gi b0 2)), (V.sl 2 t_impl_Item 0 none), (V.int .i64 (gi b0 4)), (V.int .i64 (gi b0 5)), (V.int .i64 (gi b0 6)), (V.int .i64 (gi b0 7)), (V.sl 3 t_bool 0 none), (V.sl 4 t_int' 0 none), (V.sl 5 t_int' 0 none), (V.sl 6 t_impl_Msg 0 none)]), (n_impl_Msg b1), r2, r3, r4, r5, r6)
          else impl_server_add_l10 k_ v71 v72 (IntKind.i64.wrap (v73 + 1)) (V.agg [(V.int .i64 (gi b0 0)), (V.int .i64 (gi b0 1)), (V.int .i64 (gi b0 2)), (V.sl 2 t_impl_Item 0 none), (V.int .i64 (gi b0 4)), (V.int .i64 (gi b0 5)), (V.int .i64 (gi b0 6)), (V.int .i64 (gi b0 7)), (V.sl 3 t_bool 0 none), (V.sl 4 t_int' 0 none), (V.sl 5 t_int' 0 none), (V.sl 6 t_impl_Msg 0 none)]) (n_impl_Msg b1) r2 r3 r4 r5 r6
        else impl_server_add_l10 k_ v71 v72 (IntKind.i64.wrap (v73 + 1)) (V.agg [(V.int .i64 (gi b0 0)), (V.int .i64 (gi b0 1)), (V.int .i64 (gi b0 2)), (V.sl 2 t_impl_Item 0 none), (V.int .i64 (gi b0 4)), (V.int .i64 (gi b0 5)), (V.int .i64 (gi b0 6)), (V.int .i64 (gi b0 7)), (V.sl 3 t_bool 0 none), (V.sl 4 t_int' 0 none), (V.sl 5 t_int' 0 none), (V.sl 6 t_impl_Msg 0 none)]) (n_impl_Msg b1) r2 r3 r4 r5 r6
      else none
    else some (1, 0, false, (V.agg [(V.int .i64 (gi b0 0)), (V.int .i64 (gi b0 1)), (V.int .i64 (gi b0 2)), (V.sl 2 t_impl_Item 0 none), (V.int .i64 (gi b0 4)), (V.int .i64 (gi b0 5)), (V.int .i64 (gi b0 6)), (V.int .i64 (gi b0 7)), (V.sl 3 t_bool 0 none), (V.sl 4 t_int' 0 none), (V.sl 5 t_int' 0 none), (V.sl 6 t_impl_Msg 0 none)]), (n_impl_Msg b1), r2, r3, r4, r5, r6)
def impl_server_add_l18 : Nat → Int → List V → Int → Int → V → V → List V → List V → List V → List V → List V → Option (Int × V × V × List V × List V × List V × List V × List V)
  | 0, _, _, _, _, _, _, _, _, _, _, _ => none
  | k_ + 1, last9, v110, v111, v112, b0, b1, r2, r3, r4, r5, r6 =>
    bif (decide (v112 < v111)) then
      bif (idxOk v112 v110.length) then
        bif (decide ((IntKind.i64.wrap (last9 + 1)) ≤ ((r2.length : Nat) : Int))) then
          Option.bind (impl_Node_termAt (V.agg [(V.int .i64 (gi b0 0)), (V.int .i64 (gi b0 1)), (V.int .i64 (gi b0 2)), (V.inl t_impl_Item r2), (V.int .i64 (gi b0 4)), (V.int .i64 (gi b0 5)), (V.int .i64 (gi b0 6)), (V.int .i64 (gi b0 7)), (V.inl t_bool r3), (V.inl t_int' r4), (V.inl t_int' r5)]) (IntKind.i64.wrap (last9 + 1))) fun r196 =>
          bif (!(decide (r196 = (gi (rd v110 v112.toNat) 0)))) then
            bif ((decide ((0 : Int) ≤ (IntKind.i64.wrap ((IntKind.i64.wrap (last9 + 1)) - 1)))) && (decide ((IntKind.i64.wrap ((IntKind.i64.wrap (last9 + 1)) - 1)) ≤ ((r2.length : Nat) : Int)))) then
              bif (decide ((((IntKind.i64.wrap ((IntKind.i64.wrap (last9 + 1)) - 1)).toNat : Nat) : Int) < (IntKind.i64.wrap (last9 + 1)))) then
                Option.bind (impl_Cmd_own (V.agg [(V.int .i64 (gi (rd v110 v112.toNat) 1)), (V.int .i64 (gi (rd v110 v112.toNat) 2)), (V.int .i64 (gi (rd v110 v112.toNat) 3)), (V.inl t_byte (gl (rd v110 v112.toNat) 4)), (V.inl t_byte (gl (rd v110 v112.toNat) 5)), (V.int .i64 (gi (rd v110 v112.toNat) 6))])) fun r197 =>
                bif ((roomy (((r2.take ((IntKind.i64.wrap ((IntKind.i64.wrap (last9 + 1)) - 1)).toNat)).length) + 1) 88) && true) then
                  impl_server_add_l18 k_ (IntKind.i64.wrap (last9 + 1)) v110 v111 (IntKind.i64.wrap (v112 + 1)) (V.agg [(V.int .i64 (gi b0 0)), (V.int .i64 (gi b0 1)), (V.int .i64 (gi b0 2)), (V.sl 2 t_impl_Item 0 none), (V.int .i64 (gi b0 4)), (V.int .i64 (gi b0 5)), (V.int .i64 (gi b0 6)), (V.int .i64 (gi b0 7)), (V.sl 3 t_bool 0 none), (V.sl 4 t_int' 0 none), (V.sl 5 t_int' 0 none), (V.sl 6 t_impl_Msg 0 none)]) (n_impl_Msg b1) ((r2.take ((IntKind.i64.wrap ((IntKind.i64.wrap (last9 + 1)) - 1)).toNat)) ++ [(V.agg [(V.int .i64 (gi (rd v110 v112.toNat) 0)), (V.int .i64 (gi r197 0)), (V.int .i64 (gi r197 1)), (V.int .i64 (gi r197 2)), (V.inl t_byte (gl r197 3)), (V.inl t_byte (gl r197 4)), (V.int .i64 (gi r197 5))])]) r3 r4 r5 r6
                else none
              else impl_server_add_l18 k_ (IntKind.i64.wrap (last9 + 1)) v110 v111 (IntKind.i64.wrap (v112 + 1)) (V.agg [(V.int .i64 (gi b0 0)), (V.int .i64 (gi b0 1)), (V.int .i64 (gi b0 2)), (V.sl 2 t_impl_Item 0 none), (V.int .i64 (gi b0 4)), (V.int .i64 (gi b0 5)), (V.int .i64 (gi b0 6)), (V.int .i64 (gi b0 7)), (V.sl 3 t_bool 0 none), (V.sl 4 t_int' 0 none), (V.sl 5 t_int' 0 none), (V.sl 6 t_impl_Msg 0 none)]) (n_impl_Msg b1) (r2.take ((IntKind.i64.wrap ((IntKind.i64.wrap (last9 + 1)) - 1)).toNat)) r3 r4 r5 r6
            else none
          else bif (decide (((r2.length : Nat) : Int) < (IntKind.i64.wrap (last9 + 1)))) then
            Option.bind (impl_Cmd_own (V.agg [(V.int .i64 (gi (rd v110 v112.toNat) 1)), (V.int .i64 (gi (rd v110 v112.toNat) 2)), (V.int .i64 (gi (rd v110 v112.toNat) 3)), (V.inl t_byte (gl (rd v110 v112.toNat) 4)), (V.inl t_byte (gl (rd v110 v112.toNat) 5)), (V.int .i64 (gi (rd v110 v112.toNat) 6))])) fun r198 =>
            bif ((roomy (r2.length + 1) 88) && true) then
              impl_server_add_l18 k_ (IntKind.i64.wrap (last9 + 1)) v110 v111 (IntKind.i64.wrap (v112 + 1)) (V.agg [(V.int .i64 (gi b0 0)), (V.int .i64 (gi b0 1)), (V.int .i64 (gi b0 2)), (V.sl 2 t_impl_Item 0 none), (V.int .i64 (gi b0 4)), (V.int .i64 (gi b0 5)), (V.int .i64 (gi b0 6)), (V.int .i64 (gi b0 7)), (V.sl 3 t_bool 0 none), (V.sl 4 t_int' 0 none), (V.sl 5 t_int' 0 none), (V.sl 6 t_impl_Msg 0 none)]) (n_impl_Msg b1) (r2 ++ [(V.agg [(V.int .i64 (gi (rd v110 v112.toNat) 0)), (V.int .i64 (gi r198 0)), (V.int .i64 (gi r198 1)), (V.int .i64 (gi r198 2)), (V.inl t_byte (gl r198 3)), (V.inl t_byte (gl r198 4)), (V.int .i64 (gi r198 5))])]) r3 r4 r5 r6
            else none
          else impl_server_add_l18 k_ (IntKind.i64.wrap (last9 + 1)) v110 v111 (IntKind.i64.wrap (v112 + 1)) (V.agg [(V.int .i64 (gi b0 0)), (V.int .i64 (gi b0 1)), (V.int .i64 (gi b0 2)), (V.sl 2 t_impl_Item 0 none), (V.int .i64 (gi b0 4)), (V.int .i64 (gi b0 5)), (V.int .i64 (gi b0 6)), (V.int .i64 (gi b0 7)), (V.sl 3 t_bool 0 none), (V.sl 4 t_int' 0 none), (V.sl 5 t_int' 0 none), (V.sl 6 t_impl_Msg 0 none)]) (n_impl_Msg b1) r2 r3 r4 r5 r6
        else bif (decide (((r2.length : Nat) : Int) < (IntKind.i64.wrap (last9 + 1)))) then
          Option.bind (impl_Cmd_own (V.agg [(V.int .i64 (gi (rd v110 v112.toNat) 1)), (V.int .i64 (gi (rd v110 v112.toNat) 2)), (V.int .i64 (gi (rd v110 v112.toNat) 3)), (V.inl t_byte (gl (rd v110 v112.toNat) 4)), (V.inl t_byte (gl (rd v110 v112.toNat) 5)), (V.int .i64 (gi (rd v110 v112.toNat) 6))])) fun r199 =>
          bif ((roomy (r2.length + 1) 88) && true) then
            impl_server_add_l18 k_ (IntKind.i64.wrap (last9 + 1)) v110 v111 (IntKind.i64.wrap (v112 + 1)) (V.agg [(V.int .i64 (gi b0 0)), (V.int .i64 (gi b0 1)), (V.int .i64 (gi b0 2)), (V.sl 2 t_impl_Item 0 none), (V.int .i64 (gi b0 4)), (V.int .i64 (gi b0 5)), (V.int .i64 (gi b0 6)), (V.int .i64 (gi b0 7)), (V.sl 3 t_bool 0 none), (V.sl 4 t_int' 0 none), (V.sl 5 t_int' 0 none), (V.sl 6 t_impl_Msg 0 none)]) (n_impl_Msg b1) (r2 ++ [(V.agg [(V.int .i64 (gi (rd v110 v112.toNat) 0)), (V.int .i64 (gi r199 0)), (V.int .i64 (gi r199 1)), (V.int .i64 (gi r199 2)), (V.inl t_byte (gl r199 3)), (V.inl t_byte (gl r199 4)), (V.int .i64 (gi r199 5))])]) r3 r4 r5 r6
          else none
        else impl_server_add_l18 k_ (IntKind.i64.wrap (last9 + 1)) v110 v111 (IntKind.i64.wrap (v112 + 1)) (V.agg [(V.int .i64 (gi b0 0)), (V.int .i64 (gi b0 1)), (V.int .i64 (gi b0 2)), (V.sl 2 t_impl_Item 0 none), (V.int .i64 (gi b0 4)), (V.int .i64 (gi b0 5)), (V.int .i64 (gi b0 6)), (V.int .i64 (gi b0 7)), (V.sl 3 t_bool 0 none), (V.sl 4 t_int' 0 none), (V.sl 5 t_int' 0 none), (V.sl 6 t_impl_Msg 0 none)]) (n_impl_Msg b1) r2 r3 r4 r5 r6
      else none
    else some (last9, (V.agg [(V.int .i64 (gi b0 0)), (V.int .i64 (gi b0 1)), (V.int .i64 (gi b0 2)), (V.sl 2 t_impl_Item 0 none), (V.int .i64 (gi b0 4)), (V.int .i64 (gi b0 5)), (V.int .i64 (gi b0 6)), (V.int .i64 (gi b0 7)), (V.sl 3 t_bool 0 none), (V.sl 4 t_int' 0 none), (V.sl 5 t_int' 0 none), (V.sl 6 t_impl_Msg 0 none)]), (n_impl_Msg b1), r2, r3, r4, r5, r6)
def impl_server_add (s : V) (m : V) : Option (Int × Bool × V) :=
  bif (decide ((gi m 3) < (gi s 1))) then
    some (0, false, (n_impl_server s))
  else bif (decide ((gi s 5) = 2)) then
    some (0, false, (n_impl_server s))
  else bif (decide ((((gl (impl_server_follow (n_impl_server s) (gi m 3)) 3).length : Nat) : Int) < (gi m 4))) then
    some ((((gl (impl_server_follow (n_impl_server s) (gi m 3)) 3).length : Nat) : Int), false, (V.agg [(V.int .i64 (gi (impl_server_follow (n_impl_server s) (gi m 3)) 0)), (V.int .i64 (gi (impl_server_follow (n_impl_server s) (gi m 3)) 1)), (V.int .i64 (gi (impl_server_follow (n_impl_server s) (gi m 3)) 2)), (V.inl t_impl_Item (gl (impl_server_follow (n_impl_server s) (gi m 3)) 3)), (V.int .i64 (gi (impl_server_follow (n_impl_server s) (gi m 3)) 4)), (V.int .i64 (gi (impl_server_follow (n_impl_server s) (gi m 3)) 5)), (V.int .i64 (gi m 1)), (V.int .i64 0), (V.inl t_bool (gl (impl_server_follow (n_impl_server s) (gi m 3)) 8)), (V.inl t_int' (gl (impl_server_follow (n_impl_server s) (gi m 3)) 9)), (V.inl t_int' (gl (impl_server_follow (n_impl_server s) (gi m 3)) 10)), (V.inl t_impl_Msg (gl (impl_server_follow (n_impl_server s) (gi m 3)) 11))]))
  else Option.bind (impl_Node_termAt (V.agg [(V.int .i64 (gi (impl_server_follow (n_impl_server s) (gi m 3)) 0)), (V.int .i64 (gi (impl_server_follow (n_impl_server s) (gi m 3)) 1)), (V.int .i64 (gi (impl_server_follow (n_impl_server s) (gi m 3)) 2)), (V.inl t_impl_Item (gl (impl_server_follow (n_impl_server s) (gi m 3)) 3)), (V.int .i64 (gi (impl_server_follow (n_impl_server s) (gi m 3)) 4)), (V.int .i64 (gi (impl_server_follow (n_impl_server s) (gi m 3)) 5)), (V.int .i64 (gi m 1)), (V.int .i64 0), (V.inl t_bool (gl (impl_server_follow (n_impl_server s) (gi m 3)) 8)), (V.inl t_int' (gl (impl_server_follow (n_impl_server s) (gi m 3)) 9)), (V.inl t_int' (gl (impl_server_follow (n_impl_server s) (gi m 3)) 10))]) (gi m 4)) fun r193 =>
  bif (!(decide (r193 = (gi m 5)))) then
    some ((IntKind.i64.wrap ((gi m 4) - 1)), false, (V.agg [(V.int .i64 (gi (impl_server_follow (n_impl_server s) (gi m 3)) 0)), (V.int .i64 (gi (impl_server_follow (n_impl_server s) (gi m 3)) 1)), (V.int .i64 (gi (impl_server_follow (n_impl_server s) (gi m 3)) 2)), (V.inl t_impl_Item (gl (impl_server_follow (n_impl_server s) (gi m 3)) 3)), (V.int .i64 (gi (impl_server_follow (n_impl_server s) (gi m 3)) 4)), (V.int .i64 (gi (impl_server_follow (n_impl_server s) (gi m 3)) 5)), (V.int .i64 (gi m 1)), (V.int .i64 0), (V.inl t_bool (gl (impl_server_follow (n_impl_server s) (gi m 3)) 8)), (V.inl t_int' (gl (impl_server_follow (n_impl_server s) (gi m 3)) 9)), (V.inl t_int' (gl (impl_server_follow (n_impl_server s) (gi m 3)) 10)), (V.inl t_impl_Msg (gl (impl_server_follow (n_impl_server s) (gi m 3)) 11))]))
  else Option.bind (impl_server_add_l10 (((((gl m 6).length : Nat) : Int) - 0).toNat + 1) (gl m 6) (((gl m 6).length : Nat) : Int) 0 (V.agg [(V.int .i64 (gi (impl_server_follow (n_impl_server s) (gi m 3)) 0)), (V.int .i64 (gi (impl_server_follow (n_impl_server s) (gi m 3)) 1)), (V.int .i64 (gi (impl_server_follow (n_impl_server s) (gi m 3)) 2)), (V.sl 2 t_impl_Item 0 none), (V.int .i64 (gi (impl_server_follow (n_impl_server s) (gi m 3)) 4)), (V.int .i64 (gi (impl_server_follow (n_impl_server s) (gi m 3)) 5)), (V.int .i64 (gi m 1)), (V.int .i64 0), (V.sl 3 t_bool 0 none), (V.sl 4 t_int' 0 none), (V.sl 5 t_int' 0 none), (V.sl 6 t_impl_Msg 0 none)]) (n_impl_Msg m) (gl (impl_server_follow (n_impl_server s) (gi m 3)) 3) (gl (impl_server_follow (n_impl_server s) (gi m 3)) 8) (gl (impl_server_follow (n_impl_server s) (gi m 3)) 9) (gl (impl_server_follow (n_impl_server s) (gi m 3)) 10) (gl (impl_server_follow (n_impl_server s) (gi m 3)) 11)) fun r195 =>
  bif (Nat.beq r195.1 0) then
    some (r195.2.1, r195.2.2.1, (V.agg [(V.int .i64 (gi r195.2.2.2.1 0)), (V.int .i64 (gi r195.2.2.2.1 1)), (V.int .i64 (gi r195.2.2.2.1 2)), (V.inl t_impl_Item r195.2.2.2.2.2.1), (V.int .i64 (gi r195.2.2.2.1 4)), (V.int .i64 (gi r195.2.2.2.1 5)), (V.int .i64 (gi r195.2.2.2.1 6)), (V.int .i64 (gi r195.2.2.2.1 7)), (V.inl t_bool r195.2.2.2.2.2.2.1), (V.inl t_int' r195.2.2.2.2.2.2.2.1), (V.inl t_int' r195.2.2.2.2.2.2.2.2.1), (V.inl t_impl_Msg r195.2.2.2.2.2.2.2.2.2)]))
  else Option.bind (impl_server_add_l18 (((((gl r195.2.2.2.2.1 6).length : Nat) : Int) - 0).toNat + 1) (gi r195.2.2.2.2.1 4) (gl r195.2.2.2.2.1 6) (((gl r195.2.2.2.2.1 6).length : Nat) : Int) 0 (V.agg [(V.int .i64 (gi r195.2.2.2.1 0)), (V.int .i64 (gi r195.2.2.2.1 1)), (V.int .i64 (gi r195.2.2.2.1 2)), (V.sl 2 t_impl_Item 0 none), (V.int .i64 (gi r195.2.2.2.1 4)), (V.int .i64 (gi r195.2.2.2.1 5)), (V.int .i64 (gi r195.2.2.2.1 6)), (V.int .i64 (gi r195.2.2.2.1 7)), (V.sl 3 t_bool 0 none), (V.sl 4 t_int' 0 none), (V.sl 5 t_int' 0 none), (V.sl 6 t_impl_Msg 0 none)]) (n_impl_Msg r195.2.2.2.2.1) r195.2.2.2.2.2.1 r195.2.2.2.2.2.2.1 r195.2.2.2.2.2.2.2.1 r195.2.2.2.2.2.2.2.2.1 r195.2.2.2.2.2.2.2.2.2) fun r200 =>
  some (r200.1, true, (V.agg [(V.int .i64 (gi r200.2.1 0)), (V.int .i64 (gi r200.2.1 1)), (V.int .i64 (gi r200.2.1 2)), (V.inl t_impl_Item r200.2.2.2.1), (V.int .i64 (mxI (gi r200.2.1 4) (mnI (gi r200.2.2.1 7) r200.1))), (V.int .i64 (gi r200.2.1 5)), (V.int .i64 (gi r200.2.1 6)), (V.int .i64 (gi r200.2.1 7)), (V.inl t_bool r200.2.2.2.2.1), (V.inl t_int' r200.2.2.2.2.2.1), (V.inl t_int' r200.2.2.2.2.2.2.1), (V.inl t_impl_Msg r200.2.2.2.2.2.2.2)]))
def impl_server_ack (s : V) (m : V) : Option (V) :=
  bif (!(decide ((gi s 5) = 2))) then
    some (n_impl_server s)
  else bif (!(decide ((gi m 3) = (gi s 1)))) then
    some (n_impl_server s)
  else bif (!(gb m 8)) then
    bif (idxOk (gi m 1) ((gl s 9).length)) then
      bif (idxOk (gi m 1) ((gl s 10).length)) then
        bif (decide ((gi (rd (gl s 10) (0 + ((gi m 1).toNat))) 0) < (mxI 1 (mnI (IntKind.i64.wrap ((gi (rd (gl s 9) (0 + ((gi m 1).toNat))) 0) - 1)) (IntKind.i64.wrap ((gi m 4) + 1)))))) then
          bif (idxOk (gi m 1) ((gl s 9).length)) then
            Option.bind (impl_server_send (V.agg [(V.int .i64 (gi s 0)), (V.int .i64 (gi s 1)), (V.int .i64 (gi s 2)), (V.inl t_impl_Item (gl s 3)), (V.int .i64 (gi s 4)), (V.int .i64 (gi s 5)), (V.int .i64 (gi s 6)), (V.int .i64 (gi s 7)), (V.inl t_bool (gl s 8)), (V.inl t_int' ((gl s 9).set (0 + ((gi m 1).toNat)) (V.int .i64 (mxI 1 (mnI (IntKind.i64.wrap ((gi (rd (gl s 9) (0 + ((gi m 1).toNat))) 0) - 1)) (IntKind.i64.wrap ((gi m 4) + 1))))))), (V.inl t_int' (gl s 10)), (V.inl t_impl_Msg (gl s 11))]) (gi m 1)) fun r202 =>
            some (n_impl_server r202)
          else none
        else some (n_impl_server s)
      else none
    else none
  else bif (decide ((((gl s 3).length : Nat) : Int) < (gi m 4))) then
    some (n_impl_server s)
  else bif (idxOk (gi m 1) ((gl s 10).length)) then
    bif (decide ((gi m 4) ≤ (gi (rd (gl s 10) (0 + ((gi m 1).toNat))) 0))) then
      some (n_impl_server s)
    else bif (idxOk (gi m 1) ((gl s 10).length)) then
      bif (idxOk (gi m 1) ((gl s 9).length)) then
        Option.bind (impl_server_advance (V.agg [(V.int .i64 (gi s 0)), (V.int .i64 (gi s 1)), (V.int .i64 (gi s 2)), (V.inl t_impl_Item (gl s 3)), (V.int .i64 (gi s 4)), (V.int .i64 (gi s 5)), (V.int .i64 (gi s 6)), (V.int .i64 (gi s 7)), (V.inl t_bool (gl s 8)), (V.inl t_int' ((gl s 9).set (0 + ((gi m 1).toNat)) (V.int .i64 (IntKind.i64.wrap ((gi m 4) + 1))))), (V.inl t_int' ((gl s 10).set (0 + ((gi m 1).toNat)) (V.int .i64 (gi m 4)))), (V.inl t_impl_Msg (gl s 11))])) fun r203 =>
        bif (!(decide ((gi r203 4) = (gi s 4)))) then
          Option.bind (impl_server_sendAll (n_impl_server r203)) fun r204 =>
          some (n_impl_server r204)
        else bif (idxOk (gi m 1) ((gl r203 9).length)) then
          bif (decide ((gi (rd (gl r203 9) (0 + ((gi m 1).toNat))) 0) ≤ (((gl r203 3).length : Nat) : Int))) then
            Option.bind (impl_server_send (n_impl_server r203) (gi m 1)) fun r205 =>
            some (n_impl_server r205)
          else some (n_impl_server r203)
        else none
      else none
    else none
  else none
def impl_server_hear (s : V) (m : V) : Option (V) :=
  bif (decide ((gi s 1) < (gi m 3))) then
    bif (decide ((gi m 0) = 0)) then
      bif (decide ((gi m 3) = (gi (impl_server_follow (n_impl_server s) (gi m 3)) 1))) then
        bif (decide ((gi (impl_server_follow (n_impl_server s) (gi m 3)) 5) = 0)) then
          bif (decide ((gi (impl_server_follow (n_impl_server s) (gi m 3)) 2) = (-1))) then
            Option.bind (impl_Node_newer (n_impl_Node (impl_server_follow (n_impl_server s) (gi m 3))) (gi m 4) (gi m 5)) fun r169 =>
            bif r169 then
              bif ((roomy (((gl (impl_server_follow (n_impl_server s) (gi m 3)) 11).length) + 1) 88) && true) then
                some (V.agg [(V.int .i64 (gi (impl_server_follow (n_impl_server s) (gi m 3)) 0)), (V.int .i64 (gi (impl_server_follow (n_impl_server s) (gi m 3)) 1)), (V.int .i64 (gi m 1)), (V.inl t_impl_Item (gl (impl_server_follow (n_impl_server s) (gi m 3)) 3)), (V.int .i64 (gi (impl_server_follow (n_impl_server s) (gi m 3)) 4)), (V.int .i64 (gi (impl_server_follow (n_impl_server s) (gi m 3)) 5)), (V.int .i64 (gi (impl_server_follow (n_impl_server s) (gi m 3)) 6)), (V.int .i64 0), (V.inl t_bool (gl (impl_server_follow (n_impl_server s) (gi m 3)) 8)), (V.inl t_int' (gl (impl_server_follow (n_impl_server s) (gi m 3)) 9)), (V.inl t_int' (gl (impl_server_follow (n_impl_server s) (gi m 3)) 10)), (V.inl t_impl_Msg ((gl (impl_server_follow (n_impl_server s) (gi m 3)) 11) ++ [(V.agg [(V.int .i64 1), (V.int .i64 (gi (impl_server_follow (n_impl_server s) (gi m 3)) 0)), (V.int .i64 (gi m 1)), (V.int .i64 (gi (impl_server_follow (n_impl_server s) (gi m 3)) 1)), (V.int .i64 0), (V.int .i64 0), (V.inl t_impl_Item []), (V.int .i64 0), (V.bool r169)])]))])
              else none
            else bif ((roomy (((gl (impl_server_follow (n_impl_server s) (gi m 3)) 11).length) + 1) 88) && true) then
              some (V.agg [(V.int .i64 (gi (impl_server_follow (n_impl_server s) (gi m 3)) 0)), (V.int .i64 (gi (impl_server_follow (n_impl_server s) (gi m 3)) 1)), (V.int .i64 (gi (impl_server_follow (n_impl_server s) (gi m 3)) 2)), (V.inl t_impl_Item (gl (impl_server_follow (n_impl_server s) (gi m 3)) 3)), (V.int .i64 (gi (impl_server_follow (n_impl_server s) (gi m 3)) 4)), (V.int .i64 (gi (impl_server_follow (n_impl_server s) (gi m 3)) 5)), (V.int .i64 (gi (impl_server_follow (n_impl_server s) (gi m 3)) 6)), (V.int .i64 (gi (impl_server_follow (n_impl_server s) (gi m 3)) 7)), (V.inl t_bool (gl (impl_server_follow (n_impl_server s) (gi m 3)) 8)), (V.inl t_int' (gl (impl_server_follow (n_impl_server s) (gi m 3)) 9)), (V.inl t_int' (gl (impl_server_follow (n_impl_server s) (gi m 3)) 10)), (V.inl t_impl_Msg ((gl (impl_server_follow (n_impl_server s) (gi m 3)) 11) ++ [(V.agg [(V.int .i64 1), (V.int .i64 (gi (impl_server_follow (n_impl_server s) (gi m 3)) 0)), (V.int .i64 (gi m 1)), (V.int .i64 (gi (impl_server_follow (n_impl_server s) (gi m 3)) 1)), (V.int .i64 0), (V.int .i64 0), (V.inl t_impl_Item []), (V.int .i64 0), (V.bool r169)])]))])
            else none
          else bif (decide ((gi (impl_server_follow (n_impl_server s) (gi m 3)) 2) = (gi m 1))) then
            Option.bind (impl_Node_newer (n_impl_Node (impl_server_follow (n_impl_server s) (gi m 3))) (gi m 4) (gi m 5)) fun r170 =>
            bif r170 then
              bif ((roomy (((gl (impl_server_follow (n_impl_server s) (gi m 3)) 11).length) + 1) 88) && true) then
                some (V.agg [(V.int .i64 (gi (impl_server_follow (n_impl_server s) (gi m 3)) 0)), (V.int .i64 (gi (impl_server_follow (n_impl_server s) (gi m 3)) 1)), (V.int .i64 (gi m 1)), (V.inl t_impl_Item (gl (impl_server_follow (n_impl_server s) (gi m 3)) 3)), (V.int .i64 (gi (impl_server_follow (n_impl_server s) (gi m 3)) 4)), (V.int .i64 (gi (impl_server_follow (n_impl_server s) (gi m 3)) 5)), (V.int .i64 (gi (impl_server_follow (n_impl_server s) (gi m 3)) 6)), (V.int .i64 0), (V.inl t_bool (gl (impl_server_follow (n_impl_server s) (gi m 3)) 8)), (V.inl t_int' (gl (impl_server_follow (n_impl_server s) (gi m 3)) 9)), (V.inl t_int' (gl (impl_server_follow (n_impl_server s) (gi m 3)) 10)), (V.inl t_impl_Msg ((gl (impl_server_follow (n_impl_server s) (gi m 3)) 11) ++ [(V.agg [(V.int .i64 1), (V.int .i64 (gi (impl_server_follow (n_impl_server s) (gi m 3)) 0)), (V.int .i64 (gi m 1)), (V.int .i64 (gi (impl_server_follow (n_impl_server s) (gi m 3)) 1)), (V.int .i64 0), (V.int .i64 0), (V.inl t_impl_Item []), (V.int .i64 0), (V.bool r170)])]))])
              else none
            else bif ((roomy (((gl (impl_server_follow (n_impl_server s) (gi m 3)) 11).length) + 1) 88) && true) then
              some (V.agg [(V.int .i64 (gi (impl_server_follow (n_impl_server s) (gi m 3)) 0)), (V.int .i64 (gi (impl_server_follow (n_impl_server s) (gi m 3)) 1)), (V.int .i64 (gi (impl_server_follow (n_impl_server s) (gi m 3)) 2)), (V.inl t_impl_Item (gl (impl_server_follow (n_impl_server s) (gi m 3)) 3)), (V.int .i64 (gi (impl_server_follow (n_impl_server s) (gi m 3)) 4)), (V.int .i64 (gi (impl_server_follow (n_impl_server s) (gi m 3)) 5)), (V.int .i64 (gi (impl_server_follow (n_impl_server s) (gi m 3)) 6)), (V.int .i64 (gi (impl_server_follow (n_impl_server s) (gi m 3)) 7)), (V.inl t_bool (gl (impl_server_follow (n_impl_server s) (gi m 3)) 8)), (V.inl t_int' (gl (impl_server_follow (n_impl_server s) (gi m 3)) 9)), (V.inl t_int' (gl (impl_server_follow (n_impl_server s) (gi m 3)) 10)), (V.inl t_impl_Msg ((gl (impl_server_follow (n_impl_server s) (gi m 3)) 11) ++ [(V.agg [(V.int .i64 1), (V.int .i64 (gi (impl_server_follow (n_impl_server s) (gi m 3)) 0)), (V.int .i64 (gi m 1)), (V.int .i64 (gi (impl_server_follow (n_impl_server s) (gi m 3)) 1)), (V.int .i64 0), (V.int .i64 0), (V.inl t_impl_Item []), (V.int .i64 0), (V.bool r170)])]))])
            else none
          else bif ((roomy (((gl (impl_server_follow (n_impl_server s) (gi m 3)) 11).length) + 1) 88) && true) then
            some (V.agg [(V.int .i64 (gi (impl_server_follow (n_impl_server s) (gi m 3)) 0)), (V.int .i64 (gi (impl_server_follow (n_impl_server s) (gi m 3)) 1)), (V.int .i64 (gi (impl_server_follow (n_impl_server s) (gi m 3)) 2)), (V.inl t_impl_Item (gl (impl_server_follow (n_impl_server s) (gi m 3)) 3)), (V.int .i64 (gi (impl_server_follow (n_impl_server s) (gi m 3)) 4)), (V.int .i64 (gi (impl_server_follow (n_impl_server s) (gi m 3)) 5)), (V.int .i64 (gi (impl_server_follow (n_impl_server s) (gi m 3)) 6)), (V.int .i64 (gi (impl_server_follow (n_impl_server s) (gi m 3)) 7)), (V.inl t_bool (gl (impl_server_follow (n_impl_server s) (gi m 3)) 8)), (V.inl t_int' (gl (impl_server_follow (n_impl_server s) (gi m 3)) 9)), (V.inl t_int' (gl (impl_server_follow (n_impl_server s) (gi m 3)) 10)), (V.inl t_impl_Msg ((gl (impl_server_follow (n_impl_server s) (gi m 3)) 11) ++ [(V.agg [(V.int .i64 1), (V.int .i64 (gi (impl_server_follow (n_impl_server s) (gi m 3)) 0)), (V.int .i64 (gi m 1)), (V.int .i64 (gi (impl_server_follow (n_impl_server s) (gi m 3)) 1)), (V.int .i64 0), (V.int .i64 0), (V.inl t_impl_Item []), (V.int .i64 0), (V.bool false)])]))])
          else none
        else bif ((roomy (((gl (impl_server_follow (n_impl_server s) (gi m 3)) 11).length) + 1) 88) && true) then
          some (V.agg [(V.int .i64 (gi (impl_server_follow (n_impl_server s) (gi m 3)) 0)), (V.int .i64 (gi (impl_server_follow (n_impl_server s) (gi m 3)) 1)), (V.int .i64 (gi (impl_server_follow (n_impl_server s) (gi m 3)) 2)), (V.inl t_impl_Item (gl (impl_server_follow (n_impl_server s) (gi m 3)) 3)), (V.int .i64 (gi (impl_server_follow (n_impl_server s) (gi m 3)) 4)), (V.int .i64 (gi (impl_server_follow (n_impl_server s) (gi m 3)) 5)), (V.int .i64 (gi (impl_server_follow (n_impl_server s) (gi m 3)) 6)), (V.int .i64 (gi (impl_server_follow (n_impl_server s) (gi m 3)) 7)), (V.inl t_bool (gl (impl_server_follow (n_impl_server s) (gi m 3)) 8)), (V.inl t_int' (gl (impl_server_follow (n_impl_server s) (gi m 3)) 9)), (V.inl t_int' (gl (impl_server_follow (n_impl_server s) (gi m 3)) 10)), (V.inl t_impl_Msg ((gl (impl_server_follow (n_impl_server s) (gi m 3)) 11) ++ [(V.agg [(V.int .i64 1), (V.int .i64 (gi (impl_server_follow (n_impl_server s) (gi m 3)) 0)), (V.int .i64 (gi m 1)), (V.int .i64 (gi (impl_server_follow (n_impl_server s) (gi m 3)) 1)), (V.int .i64 0), (V.int .i64 0), (V.inl t_impl_Item []), (V.int .i64 0), (V.bool false)])]))])
        else none
      else bif ((roomy (((gl (impl_server_follow (n_impl_server s) (gi m 3)) 11).length) + 1) 88) && true) then
        some (V.agg [(V.int .i64 (gi (impl_server_follow (n_impl_server s) (gi m 3)) 0)), (V.int .i64 (gi (impl_server_follow (n_impl_server s) (gi m 3)) 1)), (V.int .i64 (gi (impl_server_follow (n_impl_server s) (gi m 3)) 2)), (V.inl t_impl_Item (gl (impl_server_follow (n_impl_server s) (gi m 3)) 3)), (V.int .i64 (gi (impl_server_follow (n_impl_server s) (gi m 3)) 4)), (V.int .i64 (gi (impl_server_follow (n_impl_server s) (gi m 3)) 5)), (V.int .i64 (gi (impl_server_follow (n_impl_server s) (gi m 3)) 6)), (V.int .i64 (gi (impl_server_follow (n_impl_server s) (gi m 3)) 7)), (V.inl t_bool (gl (impl_server_follow (n_impl_server s) (gi m 3)) 8)), (V.inl t_int' (gl (impl_server_follow (n_impl_server s) (gi m 3)) 9)), (V.inl t_int' (gl (impl_server_follow (n_impl_server s) (gi m 3)) 10)), (V.inl t_impl_Msg ((gl (impl_server_follow (n_impl_server s) (gi m 3)) 11) ++ [(V.agg [(V.int .i64 1), (V.int .i64 (gi (impl_server_follow (n_impl_server s) (gi m 3)) 0)), (V.int .i64 (gi m 1)), (V.int .i64 (gi (impl_server_follow (n_impl_server s) (gi m 3)) 1)), (V.int .i64 0), (V.int .i64 0), (V.inl t_impl_Item []), (V.int .i64 0), (V.bool false)])]))])
      else none
    else bif (decide ((gi m 0) = 1)) then
      bif (decide ((gi (impl_server_follow (n_impl_server s) (gi m 3)) 5) = 1)) then
        bif (decide ((gi m 3) = (gi (impl_server_follow (n_impl_server s) (gi m 3)) 1))) then
          bif (gb m 8) then
            bif (idxOk (gi m 1) ((gl (impl_server_follow (n_impl_server s) (gi m 3)) 8).length)) then
              Option.bind (impl_server_lead (V.agg [(V.int .i64 (gi (impl_server_follow (n_impl_server s) (gi m 3)) 0)), (V.int .i64 (gi (impl_server_follow (n_impl_server s) (gi m 3)) 1)), (V.int .i64 (gi (impl_server_follow (n_impl_server s) (gi m 3)) 2)), (V.inl t_impl_Item (gl (impl_server_follow (n_impl_server s) (gi m 3)) 3)), (V.int .i64 (gi (impl_server_follow (n_impl_server s) (gi m 3)) 4)), (V.int .i64 (gi (impl_server_follow (n_impl_server s) (gi m 3)) 5)), (V.int .i64 (gi (impl_server_follow (n_impl_server s) (gi m 3)) 6)), (V.int .i64 (gi (impl_server_follow (n_impl_server s) (gi m 3)) 7)), (V.inl t_bool ((gl (impl_server_follow (n_impl_server s) (gi m 3)) 8).set (0 + ((gi m 1).toNat)) (V.bool true))), (V.inl t_int' (gl (impl_server_follow (n_impl_server s) (gi m 3)) 9)), (V.inl t_int' (gl (impl_server_follow (n_impl_server s) (gi m 3)) 10)), (V.inl t_impl_Msg (gl (impl_server_follow (n_impl_server s) (gi m 3)) 11))])) fun r187 =>
              some (n_impl_server r187)
            else none
          else some (n_impl_server (impl_server_follow (n_impl_server s) (gi m 3)))
        else some (n_impl_server (impl_server_follow (n_impl_server s) (gi m 3)))
      else some (n_impl_server (impl_server_follow (n_impl_server s) (gi m 3)))
    else bif (decide ((gi m 0) = 2)) then
      Option.bind (impl_server_add (n_impl_server (impl_server_follow (n_impl_server s) (gi m 3))) (n_impl_Msg m)) fun r201 =>
      bif ((roomy (((gl r201.2.2 11).length) + 1) 88) && true) then
        some (V.agg [(V.int .i64 (gi r201.2.2 0)), (V.int .i64 (gi r201.2.2 1)), (V.int .i64 (gi r201.2.2 2)), (V.inl t_impl_Item (gl r201.2.2 3)), (V.int .i64 (gi r201.2.2 4)), (V.int .i64 (gi r201.2.2 5)), (V.int .i64 (gi r201.2.2 6)), (V.int .i64 (gi r201.2.2 7)), (V.inl t_bool (gl r201.2.2 8)), (V.inl t_int' (gl r201.2.2 9)), (V.inl t_int' (gl r201.2.2 10)), (V.inl t_impl_Msg ((gl r201.2.2 11) ++ [(V.agg [(V.int .i64 3), (V.int .i64 (gi (impl_server_follow (n_impl_server s) (gi m 3)) 0)), (V.int .i64 (gi m 1)), (V.int .i64 (gi r201.2.2 1)), (V.int .i64 r201.1), (V.int .i64 0), (V.inl t_impl_Item []), (V.int .i64 0), (V.bool r201.2.1)])]))])
      else none
    else Option.bind (impl_server_ack (n_impl_server (impl_server_follow (n_impl_server s) (gi m 3))) (n_impl_Msg m)) fun r206 =>
    some (n_impl_server r206)
  else bif (decide ((gi m 0) = 0)) then
    bif (decide ((gi m 3) = (gi s 1))) then
      bif (decide ((gi s 5) = 0)) then
        bif (decide ((gi s 2) = (-1))) then
          Option.bind (impl_Node_newer (n_impl_Node s) (gi m 4) (gi m 5)) fun r207 =>
          bif r207 then
            bif ((roomy (((gl s 11).length) + 1) 88) && true) then
              some (V.agg [(V.int .i64 (gi s 0)), (V.int .i64 (gi s 1)), (V.int .i64 (gi m 1)), (V.inl t_impl_Item (gl s 3)), (V.int .i64 (gi s 4)), (V.int .i64 (gi s 5)), (V.int .i64 (gi s 6)), (V.int .i64 0), (V.inl t_bool (gl s 8)), (V.inl t_int' (gl s 9)), (V.inl t_int' (gl s 10)), (V.inl t_impl_Msg ((gl s 11) ++ [(V.agg [(V.int .i64 1), (V.int .i64 (gi s 0)), (V.int .i64 (gi m 1)), (V.int .i64 (gi s 1)), (V.int .i64 0), (V.int .i64 0), (V.inl t_impl_Item []), (V.int .i64 0), (V.bool r207)])]))])
            else none
          else bif ((roomy (((gl s 11).length) + 1) 88) && true) then
            some (V.agg [(V.int .i64 (gi s 0)), (V.int .i64 (gi s 1)), (V.int .i64 (gi s 2)), (V.inl t_impl_Item (gl s 3)), (V.int .i64 (gi s 4)), (V.int .i64 (gi s 5)), (V.int .i64 (gi s 6)), (V.int .i64 (gi s 7)), (V.inl t_bool (gl s 8)), (V.inl t_int' (gl s 9)), (V.inl t_int' (gl s 10)), (V.inl t_impl_Msg ((gl s 11) ++ [(V.agg [(V.int .i64 1), (V.int .i64 (gi s 0)), (V.int .i64 (gi m 1)), (V.int .i64 (gi s 1)), (V.int .i64 0), (V.int .i64 0), (V.inl t_impl_Item []), (V.int .i64 0), (V.bool r207)])]))])
          else none
        else bif (decide ((gi s 2) = (gi m 1))) then
          Option.bind (impl_Node_newer (n_impl_Node s) (gi m 4) (gi m 5)) fun r208 =>
          bif r208 then
            bif ((roomy (((gl s 11).length) + 1) 88) && true) then
              some (V.agg [(V.int .i64 (gi s 0)), (V.int .i64 (gi s 1)), (V.int .i64 (gi m 1)), (V.inl t_impl_Item (gl s 3)), (V.int .i64 (gi s 4)), (V.int .i64 (gi s 5)), (V.int .i64 (gi s 6)), (V.int .i64 0), (V.inl t_bool (gl s 8)), (V.inl t_int' (gl s 9)), (V.inl t_int' (gl s 10)), (V.inl t_impl_Msg ((gl s 11) ++ [(V.agg [(V.int .i64 1), (V.int .i64 (gi s 0)), (V.int .i64 (gi m 1)), (V.int .i64 (gi s 1)), (V.int .i64 0), (V.int .i64 0), (V.inl t_impl_Item []), (V.int .i64 0), (V.bool r208)])]))])
            else none
          else bif ((roomy (((gl s 11).length) + 1) 88) && true) then
            some (V.agg [(V.int .i64 (gi s 0)), (V.int .i64 (gi s 1)), (V.int .i64 (gi s 2)), (V.inl t_impl_Item (gl s 3)), (V.int .i64 (gi s 4)), (V.int .i64 (gi s 5)), (V.int .i64 (gi s 6)), (V.int .i64 (gi s 7)), (V.inl t_bool (gl s 8)), (V.inl t_int' (gl s 9)), (V.inl t_int' (gl s 10)), (V.inl t_impl_Msg ((gl s 11) ++ [(V.agg [(V.int .i64 1), (V.int .i64 (gi s 0)), (V.int .i64 (gi m 1)), (V.int .i64 (gi s 1)), (V.int .i64 0), (V.int .i64 0), (V.inl t_impl_Item []), (V.int .i64 0), (V.bool r208)])]))])
          else none
        else bif ((roomy (((gl s 11).length) + 1) 88) && true) then
          some (V.agg [(V.int .i64 (gi s 0)), (V.int .i64 (gi s 1)), (V.int .i64 (gi s 2)), (V.inl t_impl_Item (gl s 3)), (V.int .i64 (gi s 4)), (V.int .i64 (gi s 5)), (V.int .i64 (gi s 6)), (V.int .i64 (gi s 7)), (V.inl t_bool (gl s 8)), (V.inl t_int' (gl s 9)), (V.inl t_int' (gl s 10)), (V.inl t_impl_Msg ((gl s 11) ++ [(V.agg [(V.int .i64 1), (V.int .i64 (gi s 0)), (V.int .i64 (gi m 1)), (V.int .i64 (gi s 1)), (V.int .i64 0), (V.int .i64 0), (V.inl t_impl_Item []), (V.int .i64 0), (V.bool false)])]))])
        else none
      else bif ((roomy (((gl s 11).length) + 1) 88) && true) then
        some (V.agg [(V.int .i64 (gi s 0)), (V.int .i64 (gi s 1)), (V.int .i64 (gi s 2)), (V.inl t_impl_Item (gl s 3)), (V.int .i64 (gi s 4)), (V.int .i64 (gi s 5)), (V.int .i64 (gi s 6)), (V.int .i64 (gi s 7)), (V.inl t_bool (gl s 8)), (V.inl t_int' (gl s 9)), (V.inl t_int' (gl s 10)), (V.inl t_impl_Msg ((gl s 11) ++ [(V.agg [(V.int .i64 1), (V.int .i64 (gi s 0)), (V.int .i64 (gi m 1)), (V.int .i64 (gi s 1)), (V.int .i64 0), (V.int .i64 0), (V.inl t_impl_Item []), (V.int .i64 0), (V.bool false)])]))])
      else none
    else bif ((roomy (((gl s 11).length) + 1) 88) && true) then
      some (V.agg [(V.int .i64 (gi s 0)), (V.int .i64 (gi s 1)), (V.int .i64 (gi s 2)), (V.inl t_impl_Item (gl s 3)), (V.int .i64 (gi s 4)), (V.int .i64 (gi s 5)), (V.int .i64 (gi s 6)), (V.int .i64 (gi s 7)), (V.inl t_bool (gl s 8)), (V.inl t_int' (gl s 9)), (V.inl t_int' (gl s 10)), (V.inl t_impl_Msg ((gl s 11) ++ [(V.agg [(V.int .i64 1), (V.int .i64 (gi s 0)), (V.int .i64 (gi m 1)), (V.int .i64 (gi s 1)), (V.int .i64 0), (V.int .i64 0), (V.inl t_impl_Item []), (V.int .i64 0), (V.bool false)])]))])
    else none
  else bif (decide ((gi m 0) = 1)) then
    bif (decide ((gi s 5) = 1)) then
      bif (decide ((gi m 3) = (gi s 1))) then
        bif (gb m 8) then
          bif (idxOk (gi m 1) ((gl s 8).length)) then
            Option.bind (impl_server_lead (V.agg [(V.int .i64 (gi s 0)), (V.int .i64 (gi s 1)), (V.int .i64 (gi s 2)), (V.inl t_impl_Item (gl s 3)), (V.int .i64 (gi s 4)), (V.int .i64 (gi s 5)), (V.int .i64 (gi s 6)), (V.int .i64 (gi s 7)), (V.inl t_bool ((gl s 8).set (0 + ((gi m 1).toNat)) (V.bool true))), (V.inl t_int' (gl s 9)), (V.inl t_int' (gl s 10)), (V.inl t_impl_Msg (gl s 11))])) fun r209 =>
            some (n_impl_server r209)
          else none
        else some (n_impl_server s)
      else some (n_impl_server s)
    else some (n_impl_server s)
  else bif (decide ((gi m 0) = 2)) then
    Option.bind (impl_server_add (n_impl_server s) (n_impl_Msg m)) fun r210 =>
    bif ((roomy (((gl r210.2.2 11).length) + 1) 88) && true) then
      some (V.agg [(V.int .i64 (gi r210.2.2 0)), (V.int .i64 (gi r210.2.2 1)), (V.int .i64 (gi r210.2.2 2)), (V.inl t_impl_Item (gl r210.2.2 3)), (V.int .i64 (gi r210.2.2 4)), (V.int .i64 (gi r210.2.2 5)), (V.int .i64 (gi r210.2.2 6)), (V.int .i64 (gi r210.2.2 7)), (V.inl t_bool (gl r210.2.2 8)), (V.inl t_int' (gl r210.2.2 9)), (V.inl t_int' (gl r210.2.2 10)), (V.inl t_impl_Msg ((gl r210.2.2 11) ++ [(V.agg [(V.int .i64 3), (V.int .i64 (gi s 0)), (V.int .i64 (gi m 1)), (V.int .i64 (gi r210.2.2 1)), (V.int .i64 r210.1), (V.int .i64 0), (V.inl t_impl_Item []), (V.int .i64 0), (V.bool r210.2.1)])]))])
    else none
  else Option.bind (impl_server_ack (n_impl_server s) (n_impl_Msg m)) fun r211 =>
  some (n_impl_server r211)
def impl_Hear (n : V) (servers : Int) (m : V) : Option (V × List V) :=
  Option.bind (impl_NodeOk (n_impl_Node n) servers) fun r137 =>
  bif (!r137) then
    some ((V.agg [(V.int .i64 0), (V.int .i64 0), (V.int .i64 0), (V.inl t_impl_Item []), (V.int .i64 0), (V.int .i64 0), (V.int .i64 0), (V.int .i64 0), (V.inl t_bool []), (V.inl t_int' []), (V.inl t_int' [])]), [])
  else Option.bind (impl_MsgOk (n_impl_Msg m)) fun r155 =>
  bif (!r155) then
    some ((V.agg [(V.int .i64 0), (V.int .i64 0), (V.int .i64 0), (V.inl t_impl_Item []), (V.int .i64 0), (V.int .i64 0), (V.int .i64 0), (V.int .i64 0), (V.inl t_bool []), (V.inl t_int' []), (V.inl t_int' [])]), [])
  else bif (!(decide ((gi m 2) = (gi n 0)))) then
    some ((V.agg [(V.int .i64 0), (V.int .i64 0), (V.int .i64 0), (V.inl t_impl_Item []), (V.int .i64 0), (V.int .i64 0), (V.int .i64 0), (V.int .i64 0), (V.inl t_bool []), (V.inl t_int' []), (V.inl t_int' [])]), [])
  else bif (decide (servers ≤ (gi m 1))) then
    some ((V.agg [(V.int .i64 0), (V.int .i64 0), (V.int .i64 0), (V.inl t_impl_Item []), (V.int .i64 0), (V.int .i64 0), (V.int .i64 0), (V.int .i64 0), (V.inl t_bool []), (V.inl t_int' []), (V.inl t_int' [])]), [])
  else Option.bind (impl_Node_own (n_impl_Node n)) fun r165 =>
  Option.bind (impl_server_hear (V.agg [(V.int .i64 (gi r165 0)), (V.int .i64 (gi r165 1)), (V.int .i64 (gi r165 2)), (V.inl t_impl_Item (gl r165 3)), (V.int .i64 (gi r165 4)), (V.int .i64 (gi r165 5)), (V.int .i64 (gi r165 6)), (V.int .i64 (gi r165 7)), (V.inl t_bool (gl r165 8)), (V.inl t_int' (gl r165 9)), (V.inl t_int' (gl r165 10)), (V.inl t_impl_Msg [])]) (n_impl_Msg m)) fun r212 =>
  some ((n_impl_Node r212), (gl r212 11))
def laws_eqByteS_l4 : Nat → List V → List V → Int → Option (Nat × Bool)
  | 0, _, _, _ => none
  | k_ + 1, a0, b1, i5 =>
    bif (decide (i5 < ((a0.length : Nat) : Int))) then
      bif (idxOk i5 a0.length) then
        bif (idxOk i5 b1.length) then
          bif (!(decide ((gi (rd a0 i5.toNat) 0) = (gi (rd b1 i5.toNat) 0)))) then
            some (0, false)
          else laws_eqByteS_l4 k_ a0 b1 (IntKind.i64.wrap (i5 + 1))
        else none
      else none
    else some (1, false)
def laws_eqByteS (a : List V) (b : List V) : Option (Bool) :=
  bif (!(decide (((a.length : Nat) : Int) = ((b.length : Nat) : Int)))) then
    some false
  else Option.bind (laws_eqByteS_l4 ((((a.length : Nat) : Int) - 0).toNat + 1) a b 0) fun r214 =>
  bif (Nat.beq r214.1 0) then
    some r214.2
  else some true
def laws_eqOp (a : V) (b : V) : Option (Bool) :=
  bif (!(decide ((gi a 0) = (gi b 0)))) then
    some false
  else Option.bind (laws_eqByteS (gl a 1) (gl b 1)) fun r215 =>
  bif (!r215) then
    some false
  else Option.bind (laws_eqByteS (gl a 2) (gl b 2)) fun r216 =>
  bif (!r216) then
    some false
  else bif (!(decide ((gi a 3) = (gi b 3)))) then
    some false
  else some true
def laws_eqCmd (a : V) (b : V) : Option (Bool) :=
  bif (!(decide ((gi a 0) = (gi b 0)))) then
    some false
  else bif (!(decide ((gi a 1) = (gi b 1)))) then
    some false
  else Option.bind (laws_eqOp (V.agg [(V.int .i64 (gi a 2)), (V.inl t_byte (gl a 3)), (V.inl t_byte (gl a 4)), (V.int .i64 (gi a 5))]) (V.agg [(V.int .i64 (gi b 2)), (V.inl t_byte (gl b 3)), (V.inl t_byte (gl b 4)), (V.int .i64 (gi b 5))])) fun r217 =>
  bif (!r217) then
    some false
  else some true
def laws_eqItem (a : V) (b : V) : Option (Bool) :=
  bif (!(decide ((gi a 0) = (gi b 0)))) then
    some false
  else Option.bind (laws_eqCmd (V.agg [(V.int .i64 (gi a 1)), (V.int .i64 (gi a 2)), (V.int .i64 (gi a 3)), (V.inl t_byte (gl a 4)), (V.inl t_byte (gl a 5)), (V.int .i64 (gi a 6))]) (V.agg [(V.int .i64 (gi b 1)), (V.int .i64 (gi b 2)), (V.int .i64 (gi b 3)), (V.inl t_byte (gl b 4)), (V.inl t_byte (gl b 5)), (V.int .i64 (gi b 6))])) fun r218 =>
  bif (!r218) then
    some false
  else some true
def laws_eqItemS_l4 : Nat → List V → List V → Int → Option (Nat × Bool)
  | 0, _, _, _ => none
  | k_ + 1, a0, b1, i5 =>
    bif (decide (i5 < ((a0.length : Nat) : Int))) then
      bif (idxOk i5 a0.length) then
        bif (idxOk i5 b1.length) then
          Option.bind (laws_eqItem (n_laws_Item (rd a0 i5.toNat)) (n_laws_Item (rd b1 i5.toNat))) fun r219 =>
          bif (!r219) then
            some (0, false)
          else laws_eqItemS_l4 k_ a0 b1 (IntKind.i64.wrap (i5 + 1))
        else none
      else none
    else some (1, false)
def laws_eqItemS (a : List V) (b : List V) : Option (Bool) :=
  bif (!(decide (((a.length : Nat) : Int) = ((b.length : Nat) : Int)))) then
    some false
  else Option.bind (laws_eqItemS_l4 ((((a.length : Nat) : Int) - 0).toNat + 1) a b 0) fun r220 =>
  bif (Nat.beq r220.1 0) then
    some r220.2
  else some true
def laws_eqBoolS_l4 : Nat → List V → List V → Int → Option (Nat × Bool)
  | 0, _, _, _ => none
  | k_ + 1, a0, b1, i5 =>
    bif (decide (i5 < ((a0.length : Nat) : Int))) then
      bif (idxOk i5 a0.length) then
        bif (idxOk i5 b1.length) then
          bif (!((gb (rd a0 i5.toNat) 0) == (gb (rd b1 i5.toNat) 0))) then
            some (0, false)
          else laws_eqBoolS_l4 k_ a0 b1 (IntKind.i64.wrap (i5 + 1))
        else none
      else none
    else some (1, false)
def laws_eqBoolS (a : List V) (b : List V) : Option (Bool) :=
  bif (!(decide (((a.length : Nat) : Int) = ((b.length : Nat) : Int)))) then
    some false
  else Option.bind (laws_eqBoolS_l4 ((((a.length : Nat) : Int) - 0).toNat + 1) a b 0) fun r222 =>
  bif (Nat.beq r222.1 0) then
    some r222.2
  else some true
def laws_eqIntS_l4 : Nat → List V → List V → Int → Option (Nat × Bool)
  | 0, _, _, _ => none
  | k_ + 1, a0, b1, i5 =>
    bif (decide (i5 < ((a0.length : Nat) : Int))) then
      bif (idxOk i5 a0.length) then
        bif (idxOk i5 b1.length) then
          bif (!(decide ((gi (rd a0 i5.toNat) 0) = (gi (rd b1 i5.toNat) 0)))) then
            some (0, false)
          else laws_eqIntS_l4 k_ a0 b1 (IntKind.i64.wrap (i5 + 1))
        else none
      else none
    else some (1, false)
def laws_eqIntS (a : List V) (b : List V) : Option (Bool) :=
  bif (!(decide (((a.length : Nat) : Int) = ((b.length : Nat) : Int)))) then
    some false
  else Option.bind (laws_eqIntS_l4 ((((a.length : Nat) : Int) - 0).toNat + 1) a b 0) fun r224 =>
  bif (Nat.beq r224.1 0) then
    some r224.2
  else some true
def laws_eqNode (a : V) (b : V) : Option (Bool) :=
  bif (!(decide ((gi a 0) = (gi b 0)))) then
    some false
  else bif (!(decide ((gi a 1) = (gi b 1)))) then
    some false
  else bif (!(decide ((gi a 2) = (gi b 2)))) then
    some false
  else Option.bind (laws_eqItemS (gl a 3) (gl b 3)) fun r221 =>
  bif (!r221) then
    some false
  else bif (!(decide ((gi a 4) = (gi b 4)))) then
    some false
  else bif (!(decide ((gi a 5) = (gi b 5)))) then
    some false
  else bif (!(decide ((gi a 6) = (gi b 6)))) then
    some false
  else bif (!(decide ((gi a 7) = (gi b 7)))) then
    some false
  else Option.bind (laws_eqBoolS (gl a 8) (gl b 8)) fun r223 =>
  bif (!r223) then
    some false
  else Option.bind (laws_eqIntS (gl a 9) (gl b 9)) fun r225 =>
  bif (!r225) then
    some false
  else Option.bind (laws_eqIntS (gl a 10) (gl b 10)) fun r226 =>
  bif (!r226) then
    some false
  else some true
def laws_eqMsg (a : V) (b : V) : Option (Bool) :=
  bif (!(decide ((gi a 0) = (gi b 0)))) then
    some false
  else bif (!(decide ((gi a 1) = (gi b 1)))) then
    some false
  else bif (!(decide ((gi a 2) = (gi b 2)))) then
    some false
  else bif (!(decide ((gi a 3) = (gi b 3)))) then
    some false
  else bif (!(decide ((gi a 4) = (gi b 4)))) then
    some false
  else bif (!(decide ((gi a 5) = (gi b 5)))) then
    some false
  else Option.bind (laws_eqItemS (gl a 6) (gl b 6)) fun r228 =>
  bif (!r228) then
    some false
  else bif (!(decide ((gi a 7) = (gi b 7)))) then
    some false
  else bif (!((gb a 8) == (gb b 8))) then
    some false
  else some true
def laws_eqMsgS_l4 : Nat → List V → List V → Int → Option (Nat × Bool)
  | 0, _, _, _ => none
  | k_ + 1, a0, b1, i5 =>
    bif (decide (i5 < ((a0.length : Nat) : Int))) then
      bif (idxOk i5 a0.length) then
        bif (idxOk i5 b1.length) then
          Option.bind (laws_eqMsg (n_impl_Msg (rd a0 i5.toNat)) (n_impl_Msg (rd b1 i5.toNat))) fun r229 =>
          bif (!r229) then
            some (0, false)
          else laws_eqMsgS_l4 k_ a0 b1 (IntKind.i64.wrap (i5 + 1))
        else none
      else none
    else some (1, false)
def laws_eqMsgS (a : List V) (b : List V) : Option (Bool) :=
  bif (!(decide (((a.length : Nat) : Int) = ((b.length : Nat) : Int)))) then
    some false
  else Option.bind (laws_eqMsgS_l4 ((((a.length : Nat) : Int) - 0).toNat + 1) a b 0) fun r230 =>
  bif (Nat.beq r230.1 0) then
    some r230.2
  else some true
def laws_markByteS_l2 : Nat → Int → Int → List V → Option (Int × List V)
  | 0, _, _, _ => none
  | k_ + 1, k1, i5, r0 =>
    bif (decide (i5 < ((r0.length : Nat) : Int))) then
      bif (idxOk i5 r0.length) then
        laws_markByteS_l2 k_ (IntKind.i64.wrap (k1 + 1)) (IntKind.i64.wrap (i5 + 1)) (r0.set (0 + i5.toNat) (V.int .u8 (IntKind.u8.wrap k1)))
      else none
    else some (k1, r0)
def laws_markByteS (a : List V) (k : Int) : Option (Int × List V) :=
  Option.bind (laws_markByteS_l2 ((((a.length : Nat) : Int) - 0).toNat + 1) k 0 a) fun r240 =>
  some (r240.1, r240.2)
def laws_markItemS_l2 : Nat → Int → Int → List V → Option (Int × List V)
  | 0, _, _, _ => none
  | k_ + 1, k1, i5, r0 =>
    bif (decide (i5 < ((r0.length : Nat) : Int))) then
      bif (idxOk i5 r0.length) then
        rlet ((r0.set (0 + i5.toNat) (V.agg [(V.int .i64 k1), (V.int .i64 (gi (rd r0 (0 + i5.toNat)) 1)), (V.int .i64 (gi (rd r0 (0 + i5.toNat)) 2)), (V.int .i64 (gi (rd r0 (0 + i5.toNat)) 3)), (V.inl t_byte (gl (rd r0 (0 + i5.toNat)) 4)), (V.inl t_byte (gl (rd r0 (0 + i5.toNat)) 5)), (V.int .i64 (gi (rd r0 (0 + i5.toNat)) 6))]))) fun u236 =>
        bif (idxOk i5 u236.length) then
          rlet ((u236.set (0 + i5.toNat) (V.agg [(V.int .i64 (gi (rd u236 (0 + i5.toNat)) 0)), (V.int .i64 (IntKind.i64.wrap (k1 + 1))), (V.int .i64 (gi (rd u236 (0 + i5.toNat)) 2)), (V.int .i64 (gi (rd u236 (0 + i5.toNat)) 3)), (V.inl t_byte (gl (rd u236 (0 + i5.toNat)) 4)), (V.inl t_byte (gl (rd u236 (0 + i5.toNat)) 5)), (V.int .i64 (gi (rd u236 (0 + i5.toNat)) 6))]))) fun u237 =>
          bif (idxOk i5 u237.length) then
            rlet ((u237.set (0 + i5.toNat) (V.agg [(V.int .i64 (gi (rd u237 (0 + i5.toNat)) 0)), (V.int .i64 (gi (rd u237 (0 + i5.toNat)) 1)), (V.int .i64 (IntKind.i64.wrap ((IntKind.i64.wrap (k1 + 1)) + 1))), (V.int .i64 (gi (rd u237 (0 + i5.toNat)) 3)), (V.inl t_byte (gl (rd u237 (0 + i5.toNat)) 4)), (V.inl t_byte (gl (rd u237 (0 + i5.toNat)) 5)), (V.int .i64 (gi (rd u237 (0 + i5.toNat)) 6))]))) fun u238 =>
            bif (idxOk i5 u238.length) then
              rlet ((u238.set (0 + i5.toNat) (V.agg [(V.int .i64 (gi (rd u238 (0 + i5.toNat)) 0)), (V.int .i64 (gi (rd u238 (0 + i5.toNat)) 1)), (V.int .i64 (gi (rd u238 (0 + i5.toNat)) 2)), (V.int .i64 (IntKind.i64.wrap ((IntKind.i64.wrap ((IntKind.i64.wrap (k1 + 1)) + 1)) + 1))), (V.inl t_byte (gl (rd u238 (0 + i5.toNat)) 4)), (V.inl t_byte (gl (rd u238 (0 + i5.toNat)) 5)), (V.int .i64 (gi (rd u238 (0 + i5.toNat)) 6))]))) fun u239 =>
              bif (idxOk i5 u239.length) then
                Option.bind (laws_markByteS (gl (rd u239 (0 + i5.toNat)) 4) (IntKind.i64.wrap ((IntKind.i64.wrap ((IntKind.i64.wrap ((IntKind.i64.wrap (k1 + 1)) + 1)) + 1)) + 1))) fun r241 =>
                bif (idxOk i5 u239.length) then
                  rlet ((u239.set (0 + i5.toNat) (V.agg [(V.int .i64 (gi (rd u239 (0 + i5.toNat)) 0)), (V.int .i64 (gi (rd u239 (0 + i5.toNat)) 1)), (V.int .i64 (gi (rd u239 (0 + i5.toNat)) 2)), (V.int .i64 (gi (rd u239 (0 + i5.toNat)) 3)), (V.inl t_byte r241.2), (V.inl t_byte (gl (rd u239 (0 + i5.toNat)) 5)), (V.int .i64 (gi (rd u239 (0 + i5.toNat)) 6))]))) fun u242 =>
                  Option.bind (laws_markByteS (gl (rd u242 (0 + i5.toNat)) 5) r241.1) fun r243 =>
                  bif (idxOk i5 u242.length) then
                    rlet ((u242.set (0 + i5.toNat) (V.agg [(V.int .i64 (gi (rd u242 (0 + i5.toNat)) 0)), (V.int .i64 (gi (rd u242 (0 + i5.toNat)) 1)), (V.int .i64 (gi (rd u242 (0 + i5.toNat)) 2)), (V.int .i64 (gi (rd u242 (0 + i5.toNat)) 3)), (V.inl t_byte (gl (rd u242 (0 + i5.toNat)) 4)), (V.inl t_byte r243.2), (V.int .i64 (gi (rd u242 (0 + i5.toNat)) 6))]))) fun u244 =>
                    rlet ((u244.set (0 + i5.toNat) (V.agg [(V.int .i64 (gi (rd u244 (0 + i5.toNat)) 0)), (V.int .i64 (gi (rd u244 (0 + i5.toNat)) 1)), (V.int .i64 (gi (rd u244 (0 + i5.toNat)) 2)), (V.int .i64 (gi (rd u244 (0 + i5.toNat)) 3)), (V.inl t_byte (gl (rd u244 (0 + i5.toNat)) 4)), (V.inl t_byte (gl (rd u244 (0 + i5.toNat)) 5)), (V.int .i64 r243.1)]))) fun u245 =>
                    laws_markItemS_l2 k_ (IntKind.i64.wrap (r243.1 + 1)) (IntKind.i64.wrap (i5 + 1)) u245
                  else none
                else none
              else none
            else none
          else none
        else none
      else none
    else some (k1, r0)
def laws_markItemS (a : List V) (k : Int) : Option (Int × List V) :=
  Option.bind (laws_markItemS_l2 ((((a.length : Nat) : Int) - 0).toNat + 1) k 0 a) fun r246 =>
  some (r246.1, r246.2)
def laws_markBoolS_l2 : Nat → Int → Int → List V → Option (Int × List V)
  | 0, _, _, _ => none
  | k_ + 1, k1, i5, r0 =>
    bif (decide (i5 < ((r0.length : Nat) : Int))) then
      bif (idxOk i5 r0.length) then
        laws_markBoolS_l2 k_ (IntKind.i64.wrap (k1 + 1)) (IntKind.i64.wrap (i5 + 1)) (r0.set (0 + i5.toNat) (V.bool (decide ((k1.tmod 3) = 0))))
      else none
    else some (k1, r0)
def laws_markBoolS (a : List V) (k : Int) : Option (Int × List V) :=
  Option.bind (laws_markBoolS_l2 ((((a.length : Nat) : Int) - 0).toNat + 1) k 0 a) fun r248 =>
  some (r248.1, r248.2)
def laws_markIntS_l2 : Nat → Int → Int → List V → Option (Int × List V)
  | 0, _, _, _ => none
  | k_ + 1, k1, i5, r0 =>
    bif (decide (i5 < ((r0.length : Nat) : Int))) then
      bif (idxOk i5 r0.length) then
        laws_markIntS_l2 k_ (IntKind.i64.wrap (k1 + 1)) (IntKind.i64.wrap (i5 + 1)) (r0.set (0 + i5.toNat) (V.int .i64 k1))
      else none
    else some (k1, r0)
def laws_markIntS (a : List V) (k : Int) : Option (Int × List V) :=
  Option.bind (laws_markIntS_l2 ((((a.length : Nat) : Int) - 0).toNat + 1) k 0 a) fun r250 =>
  some (r250.1, r250.2)
def laws_markNode (a : V) (k : Int) : Option (Int × List V × List V × List V × List V) :=
  Option.bind (laws_markItemS (gl a 3) k) fun r247 =>
  Option.bind (laws_markBoolS (gl a 8) r247.1) fun r249 =>
  Option.bind (laws_markIntS (gl a 9) r249.1) fun r251 =>
  Option.bind (laws_markIntS (gl a 10) r251.1) fun r252 =>
  some (r252.1, r247.2, r249.2, r251.2, r252.2)
def laws_markMsg (a : V) (k : Int) : Option (Int × List V) :=
  Option.bind (laws_markItemS (gl a 6) k) fun r254 =>
  some (r254.1, r254.2)
def laws_markMsgS_l2 : Nat → Int → Int → List V → Option (Int × List V)
  | 0, _, _, _ => none
  | k_ + 1, k1, i5, r0 =>
    bif (decide (i5 < ((r0.length : Nat) : Int))) then
      bif (idxOk i5 r0.length) then
        rlet ((r0.set (0 + i5.toNat) (V.agg [(V.int .i64 k1), (V.int .i64 (gi (rd r0 (0 + i5.toNat)) 1)), (V.int .i64 (gi (rd r0 (0 + i5.toNat)) 2)), (V.int .i64 (gi (rd r0 (0 + i5.toNat)) 3)), (V.int .i64 (gi (rd r0 (0 + i5.toNat)) 4)), (V.int .i64 (gi (rd r0 (0 + i5.toNat)) 5)), (V.inl t_impl_Item (gl (rd r0 (0 + i5.toNat)) 6)), (V.int .i64 (gi (rd r0 (0 + i5.toNat)) 7)), (V.bool (gb (rd r0 (0 + i5.toNat)) 8))]))) fun u259 =>
        bif (idxOk i5 u259.length) then
          rlet ((u259.set (0 + i5.toNat) (V.agg [(V.int .i64 (gi (rd u259 (0 + i5.toNat)) 0)), (V.int .i64 (IntKind.i64.wrap (k1 + 1))), (V.int .i64 (gi (rd u259 (0 + i5.toNat)) 2)), (V.int .i64 (gi (rd u259 (0 + i5.toNat)) 3)), (V.int .i64 (gi (rd u259 (0 + i5.toNat)) 4)), (V.int .i64 (gi (rd u259 (0 + i5.toNat)) 5)), (V.inl t_impl_Item (gl (rd u259 (0 + i5.toNat)) 6)), (V.int .i64 (gi (rd u259 (0 + i5.toNat)) 7)), (V.bool (gb (rd u259 (0 + i5.toNat)) 8))]))) fun u260 =>
          bif (idxOk i5 u260.length) then
            rlet ((u260.set (0 + i5.toNat) (V.agg [(V.int .i64 (gi (rd u260 (0 + i5.toNat)) 0)), (V.int .i64 (gi (rd u260 (0 + i5.toNat)) 1)), (V.int .i64 (IntKind.i64.wrap ((IntKind.i64.wrap (k1 + 1)) + 1))), (V.int .i64 (gi (rd u260 (0 + i5.toNat)) 3)), (V.int .i64 (gi (rd u260 (0 + i5.toNat)) 4)), (V.int .i64 (gi (rd u260 (0 + i5.toNat)) 5)), (V.inl t_impl_Item (gl (rd u260 (0 + i5.toNat)) 6)), (V.int .i64 (gi (rd u260 (0 + i5.toNat)) 7)), (V.bool (gb (rd u260 (0 + i5.toNat)) 8))]))) fun u261 =>
            bif (idxOk i5 u261.length) then
              rlet ((u261.set (0 + i5.toNat) (V.agg [(V.int .i64 (gi (rd u261 (0 + i5.toNat)) 0)), (V.int .i64 (gi (rd u261 (0 + i5.toNat)) 1)), (V.int .i64 (gi (rd u261 (0 + i5.toNat)) 2)), (V.int .i64 (IntKind.i64.wrap ((IntKind.i64.wrap ((IntKind.i64.wrap (k1 + 1)) + 1)) + 1))), (V.int .i64 (gi (rd u261 (0 + i5.toNat)) 4)), (V.int .i64 (gi (rd u261 (0 + i5.toNat)) 5)), (V.inl t_impl_Item (gl (rd u261 (0 + i5.toNat)) 6)), (V.int .i64 (gi (rd u261 (0 + i5.toNat)) 7)), (V.bool (gb (rd u261 (0 + i5.toNat)) 8))]))) fun u262 =>
              bif (idxOk i5 u262.length) then
                rlet ((u262.set (0 + i5.toNat) (V.agg [(V.int .i64 (gi (rd u262 (0 + i5.toNat)) 0)), (V.int .i64 (gi (rd u262 (0 + i5.toNat)) 1)), (V.int .i64 (gi (rd u262 (0 + i5.toNat)) 2)), (V.int .i64 (gi (rd u262 (0 + i5.toNat)) 3)), (V.int .i64 (IntKind.i64.wrap ((IntKind.i64.wrap ((IntKind.i64.wrap ((IntKind.i64.wrap (k1 + 1)) + 1)) + 1)) + 1))), (V.int .i64 (gi (rd u262 (0 + i5.toNat)) 5)), (V.inl t_impl_Item (gl (rd u262 (0 + i5.toNat)) 6)), (V.int .i64 (gi (rd u262 (0 + i5.toNat)) 7)), (V.bool (gb (rd u262 (0 + i5.toNat)) 8))]))) fun u263 =>
                bif (idxOk i5 u263.length) then
                  rlet ((u263.set (0 + i5.toNat) (V.agg [(V.int .i64 (gi (rd u263 (0 + i5.toNat)) 0)), (V.int .i64 (gi (rd u263 (0 + i5.toNat)) 1)), (V.int .i64 (gi (rd u263 (0 + i5.toNat)) 2)), (V.int .i64 (gi (rd u263 (0 + i5.toNat)) 3)), (V.int .i64 (gi (rd u263 (0 + i5.toNat)) 4)), (V.int .i64 (IntKind.i64.wrap ((IntKind.i64.wrap ((IntKind.i64.wrap ((IntKind.i64.wrap ((IntKind.i64.wrap (k1 + 1)) + 1)) + 1)) + 1)) + 1))), (V.inl t_impl_Item (gl (rd u263 (0 + i5.toNat)) 6)), (V.int .i64 (gi (rd u263 (0 + i5.toNat)) 7)), (V.bool (gb (rd u263 (0 + i5.toNat)) 8))]))) fun u264 =>
                  bif (idxOk i5 u264.length) then
                    Option.bind (laws_markItemS (gl (rd u264 (0 + i5.toNat)) 6) (IntKind.i64.wrap ((IntKind.i64.wrap ((IntKind.i64.wrap ((IntKind.i64.wrap ((IntKind.i64.wrap ((IntKind.i64.wrap (k1 + 1)) + 1)) + 1)) + 1)) + 1)) + 1))) fun r265 =>
                    bif (idxOk i5 u264.length) then
                      rlet ((u264.set (0 + i5.toNat) (V.agg [(V.int .i64 (gi (rd u264 (0 + i5.toNat)) 0)), (V.int .i64 (gi (rd u264 (0 + i5.toNat)) 1)), (V.int .i64 (gi (rd u264 (0 + i5.toNat)) 2)), (V.int .i64 (gi (rd u264 (0 + i5.toNat)) 3)), (V.int .i64 (gi (rd u264 (0 + i5.toNat)) 4)), (V.int .i64 (gi (rd u264 (0 + i5.toNat)) 5)), (V.inl t_impl_Item r265.2), (V.int .i64 (gi (rd u264 (0 + i5.toNat)) 7)), (V.bool (gb (rd u264 (0 + i5.toNat)) 8))]))) fun u266 =>
                      rlet ((u266.set (0 + i5.toNat) (V.agg [(V.int .i64 (gi (rd u266 (0 + i5.toNat)) 0)), (V.int .i64 (gi (rd u266 (0 + i5.toNat)) 1)), (V.int .i64 (gi (rd u266 (0 + i5.toNat)) 2)), (V.int .i64 (gi (rd u266 (0 + i5.toNat)) 3)), (V.int .i64 (gi (rd u266 (0 + i5.toNat)) 4)), (V.int .i64 (gi (rd u266 (0 + i5.toNat)) 5)), (V.inl t_impl_Item (gl (rd u266 (0 + i5.toNat)) 6)), (V.int .i64 r265.1), (V.bool (gb (rd u266 (0 + i5.toNat)) 8))]))) fun u267 =>
                      bif (idxOk i5 u267.length) then
                        rlet ((u267.set (0 + i5.toNat) (V.agg [(V.int .i64 (gi (rd u267 (0 + i5.toNat)) 0)), (V.int .i64 (gi (rd u267 (0 + i5.toNat)) 1)), (V.int .i64 (gi (rd u267 (0 + i5.toNat)) 2)), (V.int .i64 (gi (rd u267 (0 + i5.toNat)) 3)), (V.int .i64 (gi (rd u267 (0 + i5.toNat)) 4)), (V.int .i64 (gi (rd u267 (0 + i5.toNat)) 5)), (V.inl t_impl_Item (gl (rd u267 (0 + i5.toNat)) 6)), (V.int .i64 (gi (rd u267 (0 + i5.toNat)) 7)), (V.bool (decide (((IntKind.i64.wrap (r265.1 + 1)).tmod 3) = 0)))]))) fun u268 =>
                        laws_markMsgS_l2 k_ (IntKind.i64.wrap ((IntKind.i64.wrap (r265.1 + 1)) + 1)) (IntKind.i64.wrap (i5 + 1)) u268
                      else none
                    else none
                  else none
                else none
              else none
            else none
          else none
        else none
      else none
    else some (k1, r0)
def laws_markMsgS (a : List V) (k : Int) : Option (Int × List V) :=
  Option.bind (laws_markMsgS_l2 ((((a.length : Nat) : Int) - 0).toNat + 1) k 0 a) fun r269 =>
  some (r269.1, r269.2)
def laws_heldByteS_l2 : Nat → List V → Int → Int → Option (Nat × Int × Int)
  | 0, _, _, _ => none
  | k_ + 1, a0, k1, i5 =>
    bif (decide (i5 < ((a0.length : Nat) : Int))) then
      bif (idxOk i5 a0.length) then
        bif (!(decide ((gi (rd a0 i5.toNat) 0) = (IntKind.u8.wrap k1)))) then
          some (0, k1, -1)
        else laws_heldByteS_l2 k_ a0 (IntKind.i64.wrap (k1 + 1)) (IntKind.i64.wrap (i5 + 1))
      else none
    else some (1, k1, 0)
def laws_heldByteS (a : List V) (k : Int) : Option (Int) :=
  Option.bind (laws_heldByteS_l2 ((((a.length : Nat) : Int) - 0).toNat + 1) a k 0) fun r271 =>
  bif (Nat.beq r271.1 0) then
    some r271.2.2
  else some r271.2.1
def laws_heldItemS_l2 : Nat → List V → Int → Int → Option (Nat × Int × Int)
  | 0, _, _, _ => none
  | k_ + 1, a0, k1, i5 =>
    bif (decide (i5 < ((a0.length : Nat) : Int))) then
      bif (idxOk i5 a0.length) then
        bif (!(decide ((gi (rd a0 i5.toNat) 0) = k1))) then
          some (0, k1, -1)
        else bif (idxOk i5 a0.length) then
          bif (!(decide ((gi (rd a0 i5.toNat) 1) = (IntKind.i64.wrap (k1 + 1))))) then
            some (0, (IntKind.i64.wrap (k1 + 1)), -1)
          else bif (idxOk i5 a0.length) then
            bif (!(decide ((gi (rd a0 i5.toNat) 2) = (IntKind.i64.wrap ((IntKind.i64.wrap (k1 + 1)) + 1))))) then
              some (0, (IntKind.i64.wrap ((IntKind.i64.wrap (k1 + 1)) + 1)), -1)
            else bif (idxOk i5 a0.length) then
              bif (!(decide ((gi (rd a0 i5.toNat) 3) = (IntKind.i64.wrap ((IntKind.i64.wrap ((IntKind.i64.wrap (k1 + 1)) + 1)) + 1))))) then
                some (0, (IntKind.i64.wrap ((IntKind.i64.wrap ((IntKind.i64.wrap (k1 + 1)) + 1)) + 1)), -1)
              else bif (idxOk i5 a0.length) then
                Option.bind (laws_heldByteS (gl (rd a0 i5.toNat) 4) (IntKind.i64.wrap ((IntKind.i64.wrap ((IntKind.i64.wrap ((IntKind.i64.wrap (k1 + 1)) + 1)) + 1)) + 1))) fun r272 =>
                bif (decide (r272 < 0)) then
                  some (0, r272, -1)
                else bif (idxOk i5 a0.length) then
                  Option.bind (laws_heldByteS (gl (rd a0 i5.toNat) 5) r272) fun r273 =>
                  bif (decide (r273 < 0)) then
                    some (0, r273, -1)
                  else bif (idxOk i5 a0.length) then
                    bif (!(decide ((gi (rd a0 i5.toNat) 6) = r273))) then
                      some (0, r273, -1)
                    else laws_heldItemS_l2 k_ a0 (IntKind.i64.wrap (r273 + 1)) (IntKind.i64.wrap (i5 + 1))
                  else none
                else none
              else none
            else none
          else none
        else none
      else none
    else some (1, k1, 0)
def laws_heldItemS (a : List V) (k : Int) : Option (Int) :=
  Option.bind (laws_heldItemS_l2 ((((a.length : Nat) : Int) - 0).toNat + 1) a k 0) fun r274 =>
  bif (Nat.beq r274.1 0) then
    some r274.2.2
  else some r274.2.1
def laws_heldBoolS_l2 : Nat → List V → Int → Int → Option (Nat × Int × Int)
  | 0, _, _, _ => none
  | k_ + 1, a0, k1, i5 =>
    bif (decide (i5 < ((a0.length : Nat) : Int))) then
      bif (idxOk i5 a0.length) then
        bif (!((gb (rd a0 i5.toNat) 0) == (decide ((k1.tmod 3) = 0)))) then
          some (0, k1, -1)
        else laws_heldBoolS_l2 k_ a0 (IntKind.i64.wrap (k1 + 1)) (IntKind.i64.wrap (i5 + 1))
      else none
    else some (1, k1, 0)
def laws_heldBoolS (a : List V) (k : Int) : Option (Int) :=
  Option.bind (laws_heldBoolS_l2 ((((a.length : Nat) : Int) - 0).toNat + 1) a k 0) fun r276 =>
  bif (Nat.beq r276.1 0) then
    some r276.2.2
  else some r276.2.1
def laws_heldIntS_l2 : Nat → List V → Int → Int → Option (Nat × Int × Int)
  | 0, _, _, _ => none
  | k_ + 1, a0, k1, i5 =>
    bif (decide (i5 < ((a0.length : Nat) : Int))) then
      bif (idxOk i5 a0.length) then
        bif (!(decide ((gi (rd a0 i5.toNat) 0) = k1))) then
          some (0, k1, -1)
        else laws_heldIntS_l2 k_ a0 (IntKind.i64.wrap (k1 + 1)) (IntKind.i64.wrap (i5 + 1))
      else none
    else some (1, k1, 0)
def laws_heldIntS (a : List V) (k : Int) : Option (Int) :=
  Option.bind (laws_heldIntS_l2 ((((a.length : Nat) : Int) - 0).toNat + 1) a k 0) fun r278 =>
  bif (Nat.beq r278.1 0) then
    some r278.2.2
  else some r278.2.1
def laws_heldNode (a : V) (k : Int) : Option (Int) :=
  Option.bind (laws_heldItemS (gl a 3) k) fun r275 =>
  bif (decide (r275 < 0)) then
    some (-1)
  else Option.bind (laws_heldBoolS (gl a 8) r275) fun r277 =>
  bif (decide (r277 < 0)) then
    some (-1)
  else Option.bind (laws_heldIntS (gl a 9) r277) fun r279 =>
  bif (decide (r279 < 0)) then
    some (-1)
  else Option.bind (laws_heldIntS (gl a 10) r279) fun r280 =>
  bif (decide (r280 < 0)) then
    some (-1)
  else some r280
def laws_heldMsgS_l2 : Nat → List V → Int → Int → Option (Nat × Int × Int)
  | 0, _, _, _ => none
  | k_ + 1, a0, k1, i5 =>
    bif (decide (i5 < ((a0.length : Nat) : Int))) then
      bif (idxOk i5 a0.length) then
        bif (!(decide ((gi (rd a0 i5.toNat) 0) = k1))) then
          some (0, k1, -1)
        else bif (idxOk i5 a0.length) then
          bif (!(decide ((gi (rd a0 i5.toNat) 1) = (IntKind.i64.wrap (k1 + 1))))) then
            some (0, (IntKind.i64.wrap (k1 + 1)), -1)
          else bif (idxOk i5 a0.length) then
            bif (!(decide ((gi (rd a0 i5.toNat) 2) = (IntKind.i64.wrap ((IntKind.i64.wrap (k1 + 1)) + 1))))) then
              some (0, (IntKind.i64.wrap ((IntKind.i64.wrap (k1 + 1)) + 1)), -1)
            else bif (idxOk i5 a0.length) then
              bif (!(decide ((gi (rd a0 i5.toNat) 3) = (IntKind.i64.wrap ((IntKind.i64.wrap ((IntKind.i64.wrap (k1 + 1)) + 1)) + 1))))) then
                some (0, (IntKind.i64.wrap ((IntKind.i64.wrap ((IntKind.i64.wrap (k1 + 1)) + 1)) + 1)), -1)
              else bif (idxOk i5 a0.length) then
                bif (!(decide ((gi (rd a0 i5.toNat) 4) = (IntKind.i64.wrap ((IntKind.i64.wrap ((IntKind.i64.wrap ((IntKind.i64.wrap (k1 + 1)) + 1)) + 1)) + 1))))) then
                  some (0, (IntKind.i64.wrap ((IntKind.i64.wrap ((IntKind.i64.wrap ((IntKind.i64.wrap (k1 + 1)) + 1)) + 1)) + 1)), -1)
                else bif (idxOk i5 a0.length) then
                  bif (!(decide ((gi (rd a0 i5.toNat) 5) = (IntKind.i64.wrap ((IntKind.i64.wrap ((IntKind.i64.wrap ((IntKind.i64.wrap ((IntKind.i64.wrap (k1 + 1)) + 1)) + 1)) + 1)) + 1))))) then
                    some (0, (IntKind.i64.wrap ((IntKind.i64.wrap ((IntKind.i64.wrap ((IntKind.i64.wrap ((IntKind.i64.wrap (k1 + 1)) + 1)) + 1)) + 1)) + 1)), -1)
                  else bif (idxOk i5 a0.length) then
                    Option.bind (laws_heldItemS (gl (rd a0 i5.toNat) 6) (IntKind.i64.wrap ((IntKind.i64.wrap ((IntKind.i64.wrap ((IntKind.i64.wrap ((IntKind.i64.wrap ((IntKind.i64.wrap (k1 + 1)) + 1)) + 1)) + 1)) + 1)) + 1))) fun r282 =>
                    bif (decide (r282 < 0)) then
                      some (0, r282, -1)
                    else bif (idxOk i5 a0.length) then
                      bif (!(decide ((gi (rd a0 i5.toNat) 7) = r282))) then
                        some (0, r282, -1)
                      else bif (idxOk i5 a0.length) then
                        bif (!((gb (rd a0 i5.toNat) 8) == (decide (((IntKind.i64.wrap (r282 + 1)).tmod 3) = 0)))) then
                          some (0, (IntKind.i64.wrap (r282 + 1)), -1)
                        else laws_heldMsgS_l2 k_ a0 (IntKind.i64.wrap ((IntKind.i64.wrap (r282 + 1)) + 1)) (IntKind.i64.wrap (i5 + 1))
                      else none
                    else none
                  else none
                else none
              else none
            else none
          else none
        else none
      else none
    else some (1, k1, 0)
def laws_heldMsgS (a : List V) (k : Int) : Option (Int) :=
  Option.bind (laws_heldMsgS_l2 ((((a.length : Nat) : Int) - 0).toNat + 1) a k 0) fun r283 =>
  bif (Nat.beq r283.1 0) then
    some r283.2.2
  else some r283.2.1
def laws_FnExactHear (aN : V) (aServers : Int) (aM : V) : Option (Bool) :=
  Option.bind (laws_szNode (n_laws_Node aN) 1048576) fun r3 =>
  bif (decide (r3 < 0)) then
    some true
  else Option.bind (laws_szMsg (n_laws_Msg aM) r3) fun r5 =>
  bif (decide (r5 < 0)) then
    some true
  else Option.bind (laws_toNode (n_laws_Node aN)) fun r19 =>
  Option.bind (laws_toMsg (n_laws_Msg aM)) fun r21 =>
  Option.bind (spec_Hear (n_impl_Node r19) aServers (n_impl_Msg r21)) fun r113 =>
  Option.bind (laws_toNode (n_laws_Node aN)) fun r114 =>
  Option.bind (laws_toMsg (n_laws_Msg aM)) fun r115 =>
  Option.bind (impl_Hear (n_impl_Node r114) aServers (n_impl_Msg r115)) fun r213 =>
  Option.bind (laws_eqNode (n_impl_Node r213.1) (n_impl_Node r113.1)) fun r227 =>
  bif (!r227) then
    some false
  else Option.bind (laws_eqMsgS r213.2 r113.2) fun r231 =>
  bif (!r231) then
    some false
  else Option.bind (laws_toNode (n_laws_Node aN)) fun r232 =>
  Option.bind (laws_eqNode (n_impl_Node r114) (n_impl_Node r232)) fun r233 =>
  bif (!r233) then
    some false
  else Option.bind (laws_toMsg (n_laws_Msg aM)) fun r234 =>
  Option.bind (laws_eqMsg (n_impl_Msg r115) (n_impl_Msg r234)) fun r235 =>
  bif (!r235) then
    some false
  else Option.bind (laws_markNode (n_impl_Node r114) 1) fun r253 =>
  Option.bind (laws_markMsg (n_impl_Msg r115) r253.1) fun r255 =>
  bif (decide (r255.1 < 0)) then
    some false
  else Option.bind (laws_eqNode (n_impl_Node r213.1) (n_impl_Node r113.1)) fun r256 =>
  bif (!r256) then
    some false
  else Option.bind (laws_eqMsgS r213.2 r113.2) fun r257 =>
  bif (!r257) then
    some false
  else Option.bind (laws_markNode (n_impl_Node r213.1) 1) fun r258 =>
  Option.bind (laws_markMsgS r213.2 r258.1) fun r270 =>
  Option.bind (laws_heldNode (V.agg [(V.int .i64 (gi r213.1 0)), (V.int .i64 (gi r213.1 1)), (V.int .i64 (gi r213.1 2)), (V.inl t_impl_Item r258.2.1), (V.int .i64 (gi r213.1 4)), (V.int .i64 (gi r213.1 5)), (V.int .i64 (gi r213.1 6)), (V.int .i64 (gi r213.1 7)), (V.inl t_bool r258.2.2.1), (V.inl t_int' r258.2.2.2.1), (V.inl t_int' r258.2.2.2.2)]) 1) fun r281 =>
  bif (decide (r281 < 0)) then
    some false
  else Option.bind (laws_heldMsgS r270.2 r281) fun r284 =>
  bif (decide (r284 < 0)) then
    some false
  else bif (!(decide (r284 = r270.1))) then
    some false
  else Option.bind (laws_toNode (n_laws_Node aN)) fun r285 =>
  Option.bind (laws_toMsg (n_laws_Msg aM)) fun r286 =>
  Option.bind (impl_Hear (n_impl_Node r285) aServers (n_impl_Msg r286)) fun r287 =>
  Option.bind (laws_eqNode (n_impl_Node r287.1) (n_impl_Node r113.1)) fun r288 =>
  bif (!r288) then
    some false
  else Option.bind (laws_eqMsgS r287.2 r113.2) fun r289 =>
  bif (!r289) then
    some false
  else Option.bind (laws_heldNode (V.agg [(V.int .i64 (gi r213.1 0)), (V.int .i64 (gi r213.1 1)), (V.int .i64 (gi r213.1 2)), (V.inl t_impl_Item r258.2.1), (V.int .i64 (gi r213.1 4)), (V.int .i64 (gi r213.1 5)), (V.int .i64 (gi r213.1 6)), (V.int .i64 (gi r213.1 7)), (V.inl t_bool r258.2.2.1), (V.inl t_int' r258.2.2.2.1), (V.inl t_int' r258.2.2.2.2)]) 1) fun r290 =>
  bif (decide (r290 < 0)) then
    some false
  else Option.bind (laws_heldMsgS r270.2 r290) fun r291 =>
  bif (decide (r291 < 0)) then
    some false
  else bif (!(decide (r291 = r270.1))) then
    some false
  else some true
end Go.Eng.R
open Go Go.Eng Go.Proofs
namespace Go.Eng.R
theorem tab_ok : TabOk Tryz.prog tab := tabB_spec (by kernel_rfl)
theorem mixed : Tryz.prog.follows .mixedOrders = true := by kernel_rfl
theorem base : Base Tryz.prog tab := ⟨tab_ok, mixed⟩
def q0 : List S1 := [(.int .i64), (.inl t_byte), (.inl t_byte), (.int .i64)]
def q1 : List S1 := [(.int .i64), (.int .i64), (.int .i64), (.inl t_byte), (.inl t_byte), (.int .i64)]
def q2 : List S1 := [(.int .i64), (.int .i64), (.int .i64), (.int .i64), (.inl t_byte), (.inl t_byte), (.int .i64)]
def q3 : List S1 := [(.int .i64), (.int .i64), (.int .i64), (.inl t_laws_Item), (.int .i64), (.int .i64), (.int .i64), (.int .i64), (.inl t_bool), (.inl t_int'), (.inl t_int')]
def q4 : List S1 := [(.int .i64), (.int .i64), (.int .i64), (.int .i64), (.int .i64), (.int .i64), (.inl t_laws_Item), (.int .i64), .bool]
def h5 (x : V) : V := V.agg [(V.int .i64 (gi x 0)), (V.rr t_byte true (gl x 1)), (V.rr t_byte true (gl x 2)), (V.int .i64 (gi x 3))]
def q6 : List S1 := [.dead, (.rr t_byte true), (.rr t_byte true)]
def h7 (x : V) : V := V.agg [(V.int .i64 (gi x 0)), (V.int .i64 (gi x 1)), (V.int .i64 (gi x 2)), (V.rr t_byte true (gl x 3)), (V.rr t_byte true (gl x 4)), (V.int .i64 (gi x 5))]
def q8 : List S1 := [.dead, .dead, .dead, (.rr t_byte true), (.rr t_byte true)]
def h9 (x : V) : V := V.agg [(V.int .i64 (gi x 0)), (V.int .i64 (gi x 1)), (V.int .i64 (gi x 2)), (V.int .i64 (gi x 3)), (V.rr t_byte true (gl x 4)), (V.rr t_byte true (gl x 5)), (V.int .i64 (gi x 6))]
def q10 : List S1 := [.dead, .dead, .dead, .dead, (.rr t_byte true), (.rr t_byte true)]
def h11 (x : V) : V := V.agg [(V.int .i64 (gi x 0)), (V.int .i64 (gi x 1)), (V.int .i64 (gi x 2)), (V.rr t_impl_Item true (gl x 3)), (V.int .i64 (gi x 4)), (V.int .i64 (gi x 5)), (V.int .i64 (gi x 6)), (V.int .i64 (gi x 7)), (V.rr t_bool true (gl x 8)), (V.rr t_int' true (gl x 9)), (V.rr t_int' true (gl x 10))]
def q12 : List S1 := [.dead, .dead, .dead, (.rr t_impl_Item true), .dead, .dead, .dead, .dead, (.rr t_bool true), (.rr t_int' true), (.rr t_int' true)]
def h13 (x : V) : V := V.agg [(V.int .i64 (gi x 0)), (V.int .i64 (gi x 1)), (V.int .i64 (gi x 2)), (V.int .i64 (gi x 3)), (V.int .i64 (gi x 4)), (V.int .i64 (gi x 5)), (V.rr t_impl_Item true (gl x 6)), (V.int .i64 (gi x 7)), (V.bool (gb x 8))]
def q14 : List S1 := [.dead, .dead, .dead, .dead, .dead, .dead, (.rr t_impl_Item true)]
def l15 (x : V) : List V := [(V.int .i64 (gi x 0)), (V.int .i64 (gi x 1)), (V.int .i64 (gi x 2)), (V.inl t_impl_Item (gl x 3)), (V.int .i64 (gi x 4)), (V.int .i64 (gi x 5)), (V.int .i64 (gi x 6)), (V.int .i64 (gi x 7)), (V.inl t_bool (gl x 8)), (V.inl t_int' (gl x 9)), (V.inl t_int' (gl x 10))]
def q16 : List S1 := [(.int .i64), (.int .i64), (.int .i64), (.inl t_impl_Item), (.int .i64), (.int .i64), (.int .i64), (.int .i64), (.inl t_bool), (.inl t_int'), (.inl t_int')]
def l17 (x : V) : List V := [(V.int .i64 (gi x 0)), (V.int .i64 (gi x 1)), (V.int .i64 (gi x 2)), (V.int .i64 (gi x 3)), (V.int .i64 (gi x 4)), (V.int .i64 (gi x 5)), (V.inl t_impl_Item (gl x 6)), (V.int .i64 (gi x 7)), (V.bool (gb x 8))]
def q18 : List S1 := [(.int .i64), (.int .i64), (.int .i64), (.int .i64), (.int .i64), (.int .i64), (.inl t_impl_Item), (.int .i64), .bool]
def l19 (x : V) : List V := [(V.int .i64 (gi x 0)), (V.int .i64 (gi x 1)), (V.int .i64 (gi x 2)), (V.sl 1 t_impl_Item 0 none), (V.int .i64 (gi x 4)), (V.int .i64 (gi x 5)), (V.int .i64 (gi x 6)), (V.int .i64 (gi x 7)), (V.sl 2 t_bool 0 none), (V.sl 3 t_int' 0 none), (V.sl 4 t_int' 0 none)]
def q20 : List S1 := [(.int .i64), (.int .i64), (.int .i64), (.sl 1 t_impl_Item), (.int .i64), (.int .i64), (.int .i64), (.int .i64), (.sl 2 t_bool), (.sl 3 t_int'), (.sl 4 t_int')]
def q21 : List S1 := [(.int .i64), (.int .i64), (.int .i64), (.rr t_impl_Item true), (.int .i64), (.int .i64), (.int .i64), (.int .i64), (.rr t_bool true), (.rr t_int' true), (.rr t_int' true)]
def l22 (x : V) : List V := [(V.int .i64 (gi x 0)), (V.int .i64 (gi x 1)), (V.int .i64 (gi x 2)), (V.rr t_impl_Item true (gl x 3)), (V.int .i64 (gi x 4)), (V.int .i64 (gi x 5)), (V.int .i64 (gi x 6)), (V.int .i64 (gi x 7)), (V.rr t_bool true (gl x 8)), (V.rr t_int' true (gl x 9)), (V.rr t_int' true (gl x 10))]
def l23 (x : V) : List V := [(V.int .i64 (gi x 0)), (V.int .i64 (gi x 1)), (V.int .i64 (gi x 2)), (V.sl 3 t_impl_Item 0 none), (V.int .i64 (gi x 4)), (V.int .i64 (gi x 5)), (V.int .i64 (gi x 6)), (V.int .i64 (gi x 7)), (V.sl 4 t_bool 0 none), (V.sl 5 t_int' 0 none), (V.sl 6 t_int' 0 none)]
def l24 (x : V) : List V := [(V.int .i64 (gi x 0)), (V.int .i64 (gi x 1)), (V.int .i64 (gi x 2)), (V.int .i64 (gi x 3)), (V.int .i64 (gi x 4)), (V.int .i64 (gi x 5)), (V.sl 7 t_impl_Item 0 none), (V.int .i64 (gi x 7)), (V.bool (gb x 8))]
def l25 (x : V) : List V := [(V.int .i64 (gi x 0)), (V.int .i64 (gi x 1)), (V.int .i64 (gi x 2)), (V.int .i64 (gi x 3)), (V.int .i64 (gi x 4)), (V.int .i64 (gi x 5)), (V.sl 8 t_impl_Item 0 none), (V.int .i64 (gi x 7)), (V.bool (gb x 8))]
def q26 : List S1 := [(.int .i64), (.int .i64), (.int .i64), (.sl 3 t_impl_Item), (.int .i64), (.int .i64), (.int .i64), (.int .i64), (.sl 4 t_bool), (.sl 5 t_int'), (.sl 6 t_int')]
def q27 : List S1 := [(.int .i64), (.int .i64), (.int .i64), (.int .i64), (.int .i64), (.int .i64), (.sl 7 t_impl_Item), (.int .i64), .bool]
def q28 : List S1 := [(.int .i64), (.int .i64), (.int .i64), (.int .i64), (.int .i64), (.int .i64), (.sl 8 t_impl_Item), (.int .i64), .bool]
def h29 (x : V) : V := V.agg [(V.int .i64 (gi x 0)), (V.int .i64 (gi x 1)), (V.int .i64 (gi x 2)), (V.int .i64 (gi x 3)), (V.int .i64 (gi x 4)), (V.int .i64 (gi x 5)), (V.rr t_impl_Item false (gl x 6)), (V.int .i64 (gi x 7)), (V.bool (gb x 8))]
def q30 : List S1 := [.dead, .dead, .dead, .dead, .dead, .dead, (.rr t_impl_Item false)]
def l31 (x : V) : List V := [(V.int .i64 (gi x 0)), (V.int .i64 (gi x 1)), (V.int .i64 (gi x 2)), (V.sl 2 t_impl_Item 0 none), (V.int .i64 (gi x 4)), (V.int .i64 (gi x 5)), (V.int .i64 (gi x 6)), (V.int .i64 (gi x 7)), (V.sl 3 t_bool 0 none), (V.sl 4 t_int' 0 none), (V.sl 5 t_int' 0 none)]
def q32 : List S1 := [(.int .i64), (.int .i64), (.int .i64), (.sl 2 t_impl_Item), (.int .i64), (.int .i64), (.int .i64), (.int .i64), (.sl 3 t_bool), (.sl 4 t_int'), (.sl 5 t_int')]
def l33 (x : V) : List V := [(V.int .i64 (gi x 0)), (V.int .i64 (gi x 1)), (V.int .i64 (gi x 2)), (V.rr t_impl_Item false (gl x 3)), (V.int .i64 (gi x 4)), (V.int .i64 (gi x 5)), (V.int .i64 (gi x 6)), (V.int .i64 (gi x 7)), (V.rr t_bool true (gl x 8)), (V.rr t_int' true (gl x 9)), (V.rr t_int' true (gl x 10))]
def q34 : List S1 := [.dead, .dead, .dead, (.rr t_impl_Item false), .dead, .dead, .dead, .dead, (.rr t_bool true), (.rr t_int' true), (.rr t_int' true)]
def q35 : List S1 := [(.int .i64), (.int .i64), (.int .i64), (.rr t_impl_Item true), (.int .i64), (.int .i64), (.int .i64), (.int .i64), (.rr t_bool true), (.rr t_int' true), (.rr t_int' true), (.rr t_impl_Msg true)]
def l36 (x : V) : List V := [(V.int .i64 (gi x 0)), (V.int .i64 (gi x 1)), (V.int .i64 (gi x 2)), (V.rr t_impl_Item true (gl x 3)), (V.int .i64 (gi x 4)), (V.int .i64 (gi x 5)), (V.int .i64 (gi x 6)), (V.int .i64 (gi x 7)), (V.rr t_bool true (gl x 8)), (V.rr t_int' true (gl x 9)), (V.rr t_int' true (gl x 10)), (V.rr t_impl_Msg true (gl x 11))]
def q37 : List S1 := [.dead, .dead, .dead, (.rr t_impl_Item true), .dead, .dead, .dead, .dead, (.rr t_bool true), (.rr t_int' true), (.rr t_int' true), (.rr t_impl_Msg true)]
def l38 (x : V) : List V := [(V.int .i64 (gi x 0)), (V.int .i64 (gi x 1)), (V.int .i64 (gi x 2)), (V.sl 1 t_impl_Item 0 none), (V.int .i64 (gi x 4)), (V.int .i64 (gi x 5)), (V.int .i64 (gi x 6)), (V.int .i64 (gi x 7)), (V.sl 2 t_bool 0 none), (V.sl 3 t_int' 0 none), (V.sl 4 t_int' 0 none), (V.sl 5 t_impl_Msg 0 none)]
def q39 : List S1 := [(.int .i64), (.int .i64), (.int .i64), (.sl 2 t_impl_Item), (.int .i64), (.int .i64), (.int .i64), (.int .i64), (.sl 3 t_bool), (.sl 4 t_int'), (.sl 1 t_int'), (.sl 5 t_impl_Msg)]
def q40 : List S1 := [(.int .i64), (.int .i64), (.int .i64), (.sl 1 t_impl_Item), (.int .i64), (.int .i64), (.int .i64), (.int .i64), (.sl 2 t_bool), (.sl 3 t_int'), (.sl 4 t_int'), (.sl 5 t_impl_Msg)]
def q41 : List S1 := [(.int .i64), (.int .i64), (.int .i64), (.sl 2 t_impl_Item), (.int .i64), (.int .i64), (.int .i64), (.int .i64), (.sl 3 t_bool), (.sl 4 t_int'), (.sl 5 t_int'), (.sl 6 t_impl_Msg)]
def q42 : List S1 := [(.int .i64), (.int .i64), (.int .i64), (.sl 2 t_impl_Item), (.int .i64), (.int .i64), (.int .i64), (.int .i64), (.sl 1 t_bool), (.sl 3 t_int'), (.sl 4 t_int'), (.sl 5 t_impl_Msg)]
def l43 (x : V) : List V := [(V.int .i64 (gi x 0)), (V.int .i64 (gi x 1)), (V.int .i64 (gi x 2)), (V.sl 2 t_impl_Item 0 none), (V.int .i64 (gi x 4)), (V.int .i64 (gi x 5)), (V.int .i64 (gi x 6)), (V.int .i64 (gi x 7)), (V.sl 3 t_bool 0 none), (V.sl 4 t_int' 0 none), (V.sl 5 t_int' 0 none), (V.sl 6 t_impl_Msg 0 none)]
def q44 : List S1 := [(.int .i64), (.int .i64), (.int .i64), (.dr t_impl_Item), (.int .i64), (.int .i64), (.int .i64), (.int .i64), (.dr t_bool), (.dr t_int'), (.dr t_int')]
def q45 : List S1 := [(.int .i64), (.int .i64), (.int .i64), (.int .i64), (.int .i64), (.int .i64), (.dr t_impl_Item), (.int .i64), .bool]
end Go.Eng.R
