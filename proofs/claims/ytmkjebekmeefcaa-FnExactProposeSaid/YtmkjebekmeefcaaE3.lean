/- An own evaluator of the program's form, proved sound, and what it says of this law's functions: part 3. -/
import Derived.Test.YtmkjebekmeefcaaE2
import Derived.Test.YtmkjebekmeefcaaChecked
set_option linter.unusedVariables false
open Go Go.Eng
namespace Go.Eng.R
def laws_szByteS (a : List V) (left : Int) : Int :=
  bif (decide ((IntKind.i64.wrap (left - ((a.length : Nat) : Int))) < 0)) then
    (-1)
  else (IntKind.i64.wrap (left - ((a.length : Nat) : Int)))
def laws_szOp (a : V) (left : Int) : Int :=
  bif (decide ((laws_szByteS (gl a 1) left) < 0)) then
    (-1)
  else bif (decide ((laws_szByteS (gl a 2) (laws_szByteS (gl a 1) left)) < 0)) then
    (-1)
  else (laws_szByteS (gl a 2) (laws_szByteS (gl a 1) left))
def laws_szCmd (a : V) (left : Int) : Int :=
  bif (decide ((laws_szOp (V.agg [(V.int .i64 (gi a 2)), (V.inl t_byte (gl a 3)), (V.inl t_byte (gl a 4)), (V.int .i64 (gi a 5))]) left) < 0)) then
    (-1)
  else (laws_szOp (V.agg [(V.int .i64 (gi a 2)), (V.inl t_byte (gl a 3)), (V.inl t_byte (gl a 4)), (V.int .i64 (gi a 5))]) left)
def laws_szItem (a : V) (left : Int) : Int :=
  bif (decide ((laws_szCmd (V.agg [(V.int .i64 (gi a 1)), (V.int .i64 (gi a 2)), (V.int .i64 (gi a 3)), (V.inl t_byte (gl a 4)), (V.inl t_byte (gl a 5)), (V.int .i64 (gi a 6))]) left) < 0)) then
    (-1)
  else (laws_szCmd (V.agg [(V.int .i64 (gi a 1)), (V.int .i64 (gi a 2)), (V.int .i64 (gi a 3)), (V.inl t_byte (gl a 4)), (V.inl t_byte (gl a 5)), (V.int .i64 (gi a 6))]) left)
def laws_szItemS_l5 : Nat → List V → Int → Int → Option (Nat × Int × Int)
  | 0, _, _, _ => none
  | k_ + 1, a0, left1, i5 =>
    bif (decide (i5 < ((a0.length : Nat) : Int))) then
      bif (idxOk i5 a0.length) then
        bif (decide ((laws_szItem (n_impl_Item (rd a0 i5.toNat)) left1) < 0)) then
          some (0, laws_szItem (n_impl_Item (rd a0 i5.toNat)) left1, -1)
        else laws_szItemS_l5 k_ a0 (laws_szItem (n_impl_Item (rd a0 i5.toNat)) left1) (IntKind.i64.wrap (i5 + 1))
      else none
    else some (1, left1, 0)
def laws_szItemS (a : List V) (left : Int) : Option (Int) :=
  bif (decide ((IntKind.i64.wrap (left - ((a.length : Nat) : Int))) < 0)) then
    some (-1)
  else Option.bind (laws_szItemS_l5 ((((a.length : Nat) : Int) - 0).toNat + 1) a (IntKind.i64.wrap (left - ((a.length : Nat) : Int))) 0) fun r1 =>
  bif (Nat.beq r1.1 0) then
    some r1.2.2
  else some r1.2.1
def laws_szBoolS (a : List V) (left : Int) : Int :=
  bif (decide ((IntKind.i64.wrap (left - ((a.length : Nat) : Int))) < 0)) then
    (-1)
  else (IntKind.i64.wrap (left - ((a.length : Nat) : Int)))
def laws_szIntS (a : List V) (left : Int) : Int :=
  bif (decide ((IntKind.i64.wrap (left - ((a.length : Nat) : Int))) < 0)) then
    (-1)
  else (IntKind.i64.wrap (left - ((a.length : Nat) : Int)))
def laws_szNode (a : V) (left : Int) : Option (Int) :=
  Option.bind (laws_szItemS (gl a 3) left) fun r2 =>
  bif (decide (r2 < 0)) then
    some (-1)
  else bif (decide ((laws_szBoolS (gl a 8) r2) < 0)) then
    some (-1)
  else bif (decide ((laws_szIntS (gl a 9) (laws_szBoolS (gl a 8) r2)) < 0)) then
    some (-1)
  else bif (decide ((laws_szIntS (gl a 10) (laws_szIntS (gl a 9) (laws_szBoolS (gl a 8) r2))) < 0)) then
    some (-1)
  else some (laws_szIntS (gl a 10) (laws_szIntS (gl a 9) (laws_szBoolS (gl a 8) r2)))
def laws_toByteS_l3 : Nat → List V → Int → List V → Option (List V)
  | 0, _, _, _ => none
  | k_ + 1, a0, i4, r0 =>
    bif (decide (i4 < ((a0.length : Nat) : Int))) then
      bif (idxOk i4 a0.length) then
        bif (idxOk i4 r0.length) then
          laws_toByteS_l3 k_ a0 (IntKind.i64.wrap (i4 + 1)) (r0.set (0 + i4.toNat) (V.int .u8 (gi (rd a0 i4.toNat) 0)))
        else none
      else none
    else some r0
def laws_toByteS (a : List V) : Option (List V) :=
  bif (((decide ((0 : Int) ≤ ((a.length : Nat) : Int))) && decide (((a.length : Nat) : Int) = ((a.length : Nat) : Int))) && (roomy (((a.length : Nat) : Int).toNat) 1)) then
    Option.bind (laws_toByteS_l3 ((((a.length : Nat) : Int) - 0).toNat + 1) a 0 (List.replicate (((a.length : Nat) : Int).toNat) (V.int .u8 0))) fun r4 =>
    some r4
  else none
def laws_toOp (a : V) : Option (V) :=
  Option.bind (laws_toByteS (gl a 1)) fun r5 =>
  Option.bind (laws_toByteS (gl a 2)) fun r6 =>
  some (V.agg [(V.int .i64 (gi a 0)), (V.inl t_byte r5), (V.inl t_byte r6), (V.int .i64 (gi a 3))])
def laws_toCmd (a : V) : Option (V) :=
  Option.bind (laws_toOp (V.agg [(V.int .i64 (gi a 2)), (V.inl t_byte (gl a 3)), (V.inl t_byte (gl a 4)), (V.int .i64 (gi a 5))])) fun r7 =>
  some (V.agg [(V.int .i64 (gi a 0)), (V.int .i64 (gi a 1)), (V.int .i64 (gi r7 0)), (V.inl t_byte (gl r7 1)), (V.inl t_byte (gl r7 2)), (V.int .i64 (gi r7 3))])
def laws_toItem (a : V) : Option (V) :=
  Option.bind (laws_toCmd (V.agg [(V.int .i64 (gi a 1)), (V.int .i64 (gi a 2)), (V.int .i64 (gi a 3)), (V.inl t_byte (gl a 4)), (V.inl t_byte (gl a 5)), (V.int .i64 (gi a 6))])) fun r8 =>
  some (V.agg [(V.int .i64 (gi a 0)), (V.int .i64 (gi r8 0)), (V.int .i64 (gi r8 1)), (V.int .i64 (gi r8 2)), (V.inl t_byte (gl r8 3)), (V.inl t_byte (gl r8 4)), (V.int .i64 (gi r8 5))])
def laws_toItemS_l3 : Nat → List V → Int → List V → Option (List V)
  | 0, _, _, _ => none
  | k_ + 1, a0, i4, r0 =>
    bif (decide (i4 < ((a0.length : Nat) : Int))) then
      bif (idxOk i4 a0.length) then
        Option.bind (laws_toItem (n_impl_Item (rd a0 i4.toNat))) fun r9 =>
        bif (idxOk i4 r0.length) then
          laws_toItemS_l3 k_ a0 (IntKind.i64.wrap (i4 + 1)) (r0.set (0 + i4.toNat) (n_impl_Item r9))
        else none
      else none
    else some r0
def laws_toItemS (a : List V) : Option (List V) :=
  bif (((decide ((0 : Int) ≤ ((a.length : Nat) : Int))) && decide (((a.length : Nat) : Int) = ((a.length : Nat) : Int))) && (roomy (((a.length : Nat) : Int).toNat) 88)) then
    Option.bind (laws_toItemS_l3 ((((a.length : Nat) : Int) - 0).toNat + 1) a 0 (List.replicate (((a.length : Nat) : Int).toNat) (V.agg [(V.int .i64 0), (V.int .i64 0), (V.int .i64 0), (V.int .i64 0), (V.inl t_byte []), (V.inl t_byte []), (V.int .i64 0)]))) fun r10 =>
    some r10
  else none
def laws_toBoolS_l3 : Nat → List V → Int → List V → Option (List V)
  | 0, _, _, _ => none
  | k_ + 1, a0, i4, r0 =>
    bif (decide (i4 < ((a0.length : Nat) : Int))) then
      bif (idxOk i4 a0.length) then
        bif (idxOk i4 r0.length) then
          laws_toBoolS_l3 k_ a0 (IntKind.i64.wrap (i4 + 1)) (r0.set (0 + i4.toNat) (V.bool (gb (rd a0 i4.toNat) 0)))
        else none
      else none
    else some r0
def laws_toBoolS (a : List V) : Option (List V) :=
  bif (((decide ((0 : Int) ≤ ((a.length : Nat) : Int))) && decide (((a.length : Nat) : Int) = ((a.length : Nat) : Int))) && (roomy (((a.length : Nat) : Int).toNat) 1)) then
    Option.bind (laws_toBoolS_l3 ((((a.length : Nat) : Int) - 0).toNat + 1) a 0 (List.replicate (((a.length : Nat) : Int).toNat) (V.bool false))) fun r12 =>
    some r12
  else none
def laws_toIntS_l3 : Nat → List V → Int → List V → Option (List V)
  | 0, _, _, _ => none
  | k_ + 1, a0, i4, r0 =>
    bif (decide (i4 < ((a0.length : Nat) : Int))) then
      bif (idxOk i4 a0.length) then
        bif (idxOk i4 r0.length) then
          laws_toIntS_l3 k_ a0 (IntKind.i64.wrap (i4 + 1)) (r0.set (0 + i4.toNat) (V.int .i64 (gi (rd a0 i4.toNat) 0)))
        else none
      else none
    else some r0
def laws_toIntS (a : List V) : Option (List V) :=
  bif (((decide ((0 : Int) ≤ ((a.length : Nat) : Int))) && decide (((a.length : Nat) : Int) = ((a.length : Nat) : Int))) && (roomy (((a.length : Nat) : Int).toNat) 8)) then
    Option.bind (laws_toIntS_l3 ((((a.length : Nat) : Int) - 0).toNat + 1) a 0 (List.replicate (((a.length : Nat) : Int).toNat) (V.int .i64 0))) fun r14 =>
    some r14
  else none
def laws_toNode (a : V) : Option (V) :=
  Option.bind (laws_toItemS (gl a 3)) fun r11 =>
  Option.bind (laws_toBoolS (gl a 8)) fun r13 =>
  Option.bind (laws_toIntS (gl a 9)) fun r15 =>
  Option.bind (laws_toIntS (gl a 10)) fun r16 =>
  some (V.agg [(V.int .i64 (gi a 0)), (V.int .i64 (gi a 1)), (V.int .i64 (gi a 2)), (V.inl t_impl_Item r11), (V.int .i64 (gi a 4)), (V.int .i64 (gi a 5)), (V.int .i64 (gi a 6)), (V.int .i64 (gi a 7)), (V.inl t_bool r13), (V.inl t_int' r15), (V.inl t_int' r16)])
def spec_l4servers (n : Int) : Bool :=
  bif (decide ((1 : Int) ≤ n)) then
    (decide (n ≤ 5))
  else false
def spec_l3term (n : Int) : Bool :=
  bif (decide ((0 : Int) ≤ n)) then
    (decide (n ≤ 100000))
  else false
def spec_l4who (n : Int) (servers : Int) : Bool :=
  bif (decide ((-1 : Int) ≤ n)) then
    (decide (n < servers))
  else false
def spec_l2val (b : List V) : Bool :=
  (decide (((b.length : Nat) : Int) ≤ 20))
def spec_l2index (n : Int) : Bool :=
  bif (decide ((0 : Int) ≤ n)) then
    (decide (n ≤ 1000000))
  else false
def spec_l2key_l4 : Nat → List V → Int → Option (Nat × Bool)
  | 0, _, _ => none
  | k_ + 1, b0, i3 =>
    bif (decide (i3 < ((b0.length : Nat) : Int))) then
      bif (idxOk i3 b0.length) then
        bif (decide ((gi (rd b0 i3.toNat) 0) < 97)) then
          bif (idxOk i3 b0.length) then
            bif (!(decide ((gi (rd b0 i3.toNat) 0) = 47))) then
              some (0, false)
            else spec_l2key_l4 k_ b0 (IntKind.i64.wrap (i3 + 1))
          else none
        else bif (idxOk i3 b0.length) then
          bif (decide ((122 : Int) < (gi (rd b0 i3.toNat) 0))) then
            bif (idxOk i3 b0.length) then
              bif (!(decide ((gi (rd b0 i3.toNat) 0) = 47))) then
                some (0, false)
              else spec_l2key_l4 k_ b0 (IntKind.i64.wrap (i3 + 1))
            else none
          else spec_l2key_l4 k_ b0 (IntKind.i64.wrap (i3 + 1))
        else none
      else none
    else some (1, false)
def spec_l2key (b : List V) : Option (Bool) :=
  bif (decide (((b.length : Nat) : Int) < 1)) then
    some false
  else bif (decide ((20 : Int) < ((b.length : Nat) : Int))) then
    some false
  else Option.bind (spec_l2key_l4 ((((b.length : Nat) : Int) - 0).toNat + 1) b 0) fun r19 =>
  bif (Nat.beq r19.1 0) then
    some r19.2
  else some true
def spec_OpOk (o : V) : Option (Bool) :=
  bif (decide ((gi o 0) < 0)) then
    some false
  else bif (decide ((7 : Int) < (gi o 0))) then
    some false
  else bif (!(spec_l2val (gl o 2))) then
    some false
  else bif (!(spec_l2index (gi o 3))) then
    some false
  else bif (decide ((gi o 0) = 1)) then
    Option.bind (spec_l2key (gl o 1)) fun r20 =>
    bif (!r20) then
      some false
    else bif (decide ((gi o 0) = 1)) then
      bif (decide ((gi o 0) = 0)) then
        some (decide ((gi o 3) = 0))
      else bif (decide ((gi o 0) = 1)) then
        some (decide ((gi o 3) = 0))
      else bif (decide ((gi o 0) = 3)) then
        some (decide ((gi o 3) = 0))
      else bif (decide ((gi o 0) = 4)) then
        some (decide ((gi o 3) ≤ 1))
      else bif (decide ((gi o 0) = 2)) then
        some true
      else some (decide ((1 : Int) ≤ (gi o 3)))
    else bif (decide ((gi o 0) = 2)) then
      bif (decide ((gi o 0) = 0)) then
        some (decide ((gi o 3) = 0))
      else bif (decide ((gi o 0) = 1)) then
        some (decide ((gi o 3) = 0))
      else bif (decide ((gi o 0) = 3)) then
        some (decide ((gi o 3) = 0))
      else bif (decide ((gi o 0) = 4)) then
        some (decide ((gi o 3) ≤ 1))
      else bif (decide ((gi o 0) = 2)) then
        some true
      else some (decide ((1 : Int) ≤ (gi o 3)))
    else bif (!(decide ((gi o 0) = 6))) then
      bif (decide ((0 : Int) < (((gl o 2).length : Nat) : Int))) then
        some false
      else bif (decide ((gi o 0) = 0)) then
        some (decide ((gi o 3) = 0))
      else bif (decide ((gi o 0) = 1)) then
        some (decide ((gi o 3) = 0))
      else bif (decide ((gi o 0) = 3)) then
        some (decide ((gi o 3) = 0))
      else bif (decide ((gi o 0) = 4)) then
        some (decide ((gi o 3) ≤ 1))
      else bif (decide ((gi o 0) = 2)) then
        some true
      else some (decide ((1 : Int) ≤ (gi o 3)))
    else bif (decide ((gi o 0) = 0)) then
      some (decide ((gi o 3) = 0))
    else bif (decide ((gi o 0) = 1)) then
      some (decide ((gi o 3) = 0))
    else bif (decide ((gi o 0) = 3)) then
      some (decide ((gi o 3) = 0))
    else bif (decide ((gi o 0) = 4)) then
      some (decide ((gi o 3) ≤ 1))
    else bif (decide ((gi o 0) = 2)) then
      some true
    else some (decide ((1 : Int) ≤ (gi o 3)))
  else bif (decide ((gi o 0) = 2)) then
    Option.bind (spec_l2key (gl o 1)) fun r21 =>
    bif (!r21) then
      some false
    else bif (decide ((gi o 0) = 1)) then
      bif (decide ((gi o 0) = 0)) then
        some (decide ((gi o 3) = 0))
      else bif (decide ((gi o 0) = 1)) then
        some (decide ((gi o 3) = 0))
      else bif (decide ((gi o 0) = 3)) then
        some (decide ((gi o 3) = 0))
      else bif (decide ((gi o 0) = 4)) then
        some (decide ((gi o 3) ≤ 1))
      else bif (decide ((gi o 0) = 2)) then
        some true
      else some (decide ((1 : Int) ≤ (gi o 3)))
    else bif (decide ((gi o 0) = 2)) then
      bif (decide ((gi o 0) = 0)) then
        some (decide ((gi o 3) = 0))
      else bif (decide ((gi o 0) = 1)) then
        some (decide ((gi o 3) = 0))
      else bif (decide ((gi o 0) = 3)) then
        some (decide ((gi o 3) = 0))
      else bif (decide ((gi o 0) = 4)) then
        some (decide ((gi o 3) ≤ 1))
      else bif (decide ((gi o 0) = 2)) then
        some true
      else some (decide ((1 : Int) ≤ (gi o 3)))
    else bif (!(decide ((gi o 0) = 6))) then
      bif (decide ((0 : Int) < (((gl o 2).length : Nat) : Int))) then
        some false
      else bif (decide ((gi o 0) = 0)) then
        some (decide ((gi o 3) = 0))
      else bif (decide ((gi o 0) = 1)) then
        some (decide ((gi o 3) = 0))
      else bif (decide ((gi o 0) = 3)) then
        some (decide ((gi o 3) = 0))
      else bif (decide ((gi o 0) = 4)) then
        some (decide ((gi o 3) ≤ 1))
      else bif (decide ((gi o 0) = 2)) then
        some true
      else some (decide ((1 : Int) ≤ (gi o 3)))
    else bif (decide ((gi o 0) = 0)) then
      some (decide ((gi o 3) = 0))
    else bif (decide ((gi o 0) = 1)) then
      some (decide ((gi o 3) = 0))
    else bif (decide ((gi o 0) = 3)) then
      some (decide ((gi o 3) = 0))
    else bif (decide ((gi o 0) = 4)) then
      some (decide ((gi o 3) ≤ 1))
    else bif (decide ((gi o 0) = 2)) then
      some true
    else some (decide ((1 : Int) ≤ (gi o 3)))
  else bif (decide ((gi o 0) = 3)) then
    Option.bind (spec_l2key (gl o 1)) fun r22 =>
    bif (!r22) then
      some false
    else bif (decide ((gi o 0) = 1)) then
      bif (decide ((gi o 0) = 0)) then
        some (decide ((gi o 3) = 0))
      else bif (decide ((gi o 0) = 1)) then
        some (decide ((gi o 3) = 0))
      else bif (decide ((gi o 0) = 3)) then
        some (decide ((gi o 3) = 0))
      else bif (decide ((gi o 0) = 4)) then
        some (decide ((gi o 3) ≤ 1))
      else bif (decide ((gi o 0) = 2)) then
        some true
      else some (decide ((1 : Int) ≤ (gi o 3)))
    else bif (decide ((gi o 0) = 2)) then
      bif (decide ((gi o 0) = 0)) then
        some (decide ((gi o 3) = 0))
      else bif (decide ((gi o 0) = 1)) then
        some (decide ((gi o 3) = 0))
      else bif (decide ((gi o 0) = 3)) then
        some (decide ((gi o 3) = 0))
      else bif (decide ((gi o 0) = 4)) then
        some (decide ((gi o 3) ≤ 1))
      else bif (decide ((gi o 0) = 2)) then
        some true
      else some (decide ((1 : Int) ≤ (gi o 3)))
    else bif (!(decide ((gi o 0) = 6))) then
      bif (decide ((0 : Int) < (((gl o 2).length : Nat) : Int))) then
        some false
      else bif (decide ((gi o 0) = 0)) then
        some (decide ((gi o 3) = 0))
      else bif (decide ((gi o 0) = 1)) then
        some (decide ((gi o 3) = 0))
      else bif (decide ((gi o 0) = 3)) then
        some (decide ((gi o 3) = 0))
      else bif (decide ((gi o 0) = 4)) then
        some (decide ((gi o 3) ≤ 1))
      else bif (decide ((gi o 0) = 2)) then
        some true
      else some (decide ((1 : Int) ≤ (gi o 3)))
    else bif (decide ((gi o 0) = 0)) then
      some (decide ((gi o 3) = 0))
    else bif (decide ((gi o 0) = 1)) then
      some (decide ((gi o 3) = 0))
    else bif (decide ((gi o 0) = 3)) then
      some (decide ((gi o 3) = 0))
    else bif (decide ((gi o 0) = 4)) then
      some (decide ((gi o 3) ≤ 1))
    else bif (decide ((gi o 0) = 2)) then
      some true
    else some (decide ((1 : Int) ≤ (gi o 3)))
  else bif (decide ((gi o 0) = 6)) then
    Option.bind (spec_l2key (gl o 1)) fun r23 =>
    bif (!r23) then
      some false
    else bif (decide ((gi o 0) = 1)) then
      bif (decide ((gi o 0) = 0)) then
        some (decide ((gi o 3) = 0))
      else bif (decide ((gi o 0) = 1)) then
        some (decide ((gi o 3) = 0))
      else bif (decide ((gi o 0) = 3)) then
        some (decide ((gi o 3) = 0))
      else bif (decide ((gi o 0) = 4)) then
        some (decide ((gi o 3) ≤ 1))
      else bif (decide ((gi o 0) = 2)) then
        some true
      else some (decide ((1 : Int) ≤ (gi o 3)))
    else bif (decide ((gi o 0) = 2)) then
      bif (decide ((gi o 0) = 0)) then
        some (decide ((gi o 3) = 0))
      else bif (decide ((gi o 0) = 1)) then
        some (decide ((gi o 3) = 0))
      else bif (decide ((gi o 0) = 3)) then
        some (decide ((gi o 3) = 0))
      else bif (decide ((gi o 0) = 4)) then
        some (decide ((gi o 3) ≤ 1))
      else bif (decide ((gi o 0) = 2)) then
        some true
      else some (decide ((1 : Int) ≤ (gi o 3)))
    else bif (!(decide ((gi o 0) = 6))) then
      bif (decide ((0 : Int) < (((gl o 2).length : Nat) : Int))) then
        some false
      else bif (decide ((gi o 0) = 0)) then
        some (decide ((gi o 3) = 0))
      else bif (decide ((gi o 0) = 1)) then
        some (decide ((gi o 3) = 0))
      else bif (decide ((gi o 0) = 3)) then
        some (decide ((gi o 3) = 0))
      else bif (decide ((gi o 0) = 4)) then
        some (decide ((gi o 3) ≤ 1))
      else bif (decide ((gi o 0) = 2)) then
        some true
      else some (decide ((1 : Int) ≤ (gi o 3)))
    else bif (decide ((gi o 0) = 0)) then
      some (decide ((gi o 3) = 0))
    else bif (decide ((gi o 0) = 1)) then
      some (decide ((gi o 3) = 0))
    else bif (decide ((gi o 0) = 3)) then
      some (decide ((gi o 3) = 0))
    else bif (decide ((gi o 0) = 4)) then
      some (decide ((gi o 3) ≤ 1))
    else bif (decide ((gi o 0) = 2)) then
      some true
    else some (decide ((1 : Int) ≤ (gi o 3)))
  else bif (decide ((gi o 0) = 7)) then
    Option.bind (spec_l2key (gl o 1)) fun r24 =>
    bif (!r24) then
      some false
    else bif (!(decide ((gi o 0) = 7))) then
      bif (decide ((0 : Int) < (((gl o 1).length : Nat) : Int))) then
        some false
      else bif (decide ((gi o 0) = 1)) then
        bif (decide ((gi o 0) = 0)) then
          some (decide ((gi o 3) = 0))
        else bif (decide ((gi o 0) = 1)) then
          some (decide ((gi o 3) = 0))
        else bif (decide ((gi o 0) = 3)) then
          some (decide ((gi o 3) = 0))
        else bif (decide ((gi o 0) = 4)) then
          some (decide ((gi o 3) ≤ 1))
        else bif (decide ((gi o 0) = 2)) then
          some true
        else some (decide ((1 : Int) ≤ (gi o 3)))
      else bif (decide ((gi o 0) = 2)) then
        bif (decide ((gi o 0) = 0)) then
          some (decide ((gi o 3) = 0))
        else bif (decide ((gi o 0) = 1)) then
          some (decide ((gi o 3) = 0))
        else bif (decide ((gi o 0) = 3)) then
          some (decide ((gi o 3) = 0))
        else bif (decide ((gi o 0) = 4)) then
          some (decide ((gi o 3) ≤ 1))
        else bif (decide ((gi o 0) = 2)) then
          some true
        else some (decide ((1 : Int) ≤ (gi o 3)))
      else bif (!(decide ((gi o 0) = 6))) then
        bif (decide ((0 : Int) < (((gl o 2).length : Nat) : Int))) then
          some false
        else bif (decide ((gi o 0) = 0)) then
          some (decide ((gi o 3) = 0))
        else bif (decide ((gi o 0) = 1)) then
          some (decide ((gi o 3) = 0))
        else bif (decide ((gi o 0) = 3)) then
          some (decide ((gi o 3) = 0))
        else bif (decide ((gi o 0) = 4)) then
          some (decide ((gi o 3) ≤ 1))
        else bif (decide ((gi o 0) = 2)) then
          some true
        else some (decide ((1 : Int) ≤ (gi o 3)))
      else bif (decide ((gi o 0) = 0)) then
        some (decide ((gi o 3) = 0))
      else bif (decide ((gi o 0) = 1)) then
        some (decide ((gi o 3) = 0))
      else bif (decide ((gi o 0) = 3)) then
        some (decide ((gi o 3) = 0))
      else bif (decide ((gi o 0) = 4)) then
        some (decide ((gi o 3) ≤ 1))
      else bif (decide ((gi o 0) = 2)) then
        some true
      else some (decide ((1 : Int) ≤ (gi o 3)))
    else bif (decide ((gi o 0) = 1)) then
      bif (decide ((gi o 0) = 0)) then
        some (decide ((gi o 3) = 0))
      else bif (decide ((gi o 0) = 1)) then
        some (decide ((gi o 3) = 0))
      else bif (decide ((gi o 0) = 3)) then
        some (decide ((gi o 3) = 0))
      else bif (decide ((gi o 0) = 4)) then
        some (decide ((gi o 3) ≤ 1))
      else bif (decide ((gi o 0) = 2)) then
        some true
      else some (decide ((1 : Int) ≤ (gi o 3)))
    else bif (decide ((gi o 0) = 2)) then
      bif (decide ((gi o 0) = 0)) then
        some (decide ((gi o 3) = 0))
      else bif (decide ((gi o 0) = 1)) then
        some (decide ((gi o 3) = 0))
      else bif (decide ((gi o 0) = 3)) then
        some (decide ((gi o 3) = 0))
      else bif (decide ((gi o 0) = 4)) then
        some (decide ((gi o 3) ≤ 1))
      else bif (decide ((gi o 0) = 2)) then
        some true
      else some (decide ((1 : Int) ≤ (gi o 3)))
    else bif (!(decide ((gi o 0) = 6))) then
      bif (decide ((0 : Int) < (((gl o 2).length : Nat) : Int))) then
        some false
      else bif (decide ((gi o 0) = 0)) then
        some (decide ((gi o 3) = 0))
      else bif (decide ((gi o 0) = 1)) then
        some (decide ((gi o 3) = 0))
      else bif (decide ((gi o 0) = 3)) then
        some (decide ((gi o 3) = 0))
      else bif (decide ((gi o 0) = 4)) then
        some (decide ((gi o 3) ≤ 1))
      else bif (decide ((gi o 0) = 2)) then
        some true
      else some (decide ((1 : Int) ≤ (gi o 3)))
    else bif (decide ((gi o 0) = 0)) then
      some (decide ((gi o 3) = 0))
    else bif (decide ((gi o 0) = 1)) then
      some (decide ((gi o 3) = 0))
    else bif (decide ((gi o 0) = 3)) then
      some (decide ((gi o 3) = 0))
    else bif (decide ((gi o 0) = 4)) then
      some (decide ((gi o 3) ≤ 1))
    else bif (decide ((gi o 0) = 2)) then
      some true
    else some (decide ((1 : Int) ≤ (gi o 3)))
  else bif (!(decide ((gi o 0) = 7))) then
    bif (decide ((0 : Int) < (((gl o 1).length : Nat) : Int))) then
      some false
    else bif (decide ((gi o 0) = 1)) then
      bif (decide ((gi o 0) = 0)) then
        some (decide ((gi o 3) = 0))
      else bif (decide ((gi o 0) = 1)) then
        some (decide ((gi o 3) = 0))
      else bif (decide ((gi o 0) = 3)) then
        some (decide ((gi o 3) = 0))
      else bif (decide ((gi o 0) = 4)) then
        some (decide ((gi o 3) ≤ 1))
      else bif (decide ((gi o 0) = 2)) then
        some true
      else some (decide ((1 : Int) ≤ (gi o 3)))
    else bif (decide ((gi o 0) = 2)) then
      bif (decide ((gi o 0) = 0)) then
        some (decide ((gi o 3) = 0))
      else bif (decide ((gi o 0) = 1)) then
        some (decide ((gi o 3) = 0))
      else bif (decide ((gi o 0) = 3)) then
        some (decide ((gi o 3) = 0))
      else bif (decide ((gi o 0) = 4)) then
        some (decide ((gi o 3) ≤ 1))
      else bif (decide ((gi o 0) = 2)) then
        some true
      else some (decide ((1 : Int) ≤ (gi o 3)))
    else bif (!(decide ((gi o 0) = 6))) then
      bif (decide ((0 : Int) < (((gl o 2).length : Nat) : Int))) then
        some false
      else bif (decide ((gi o 0) = 0)) then
        some (decide ((gi o 3) = 0))
      else bif (decide ((gi o 0) = 1)) then
        some (decide ((gi o 3) = 0))
      else bif (decide ((gi o 0) = 3)) then
        some (decide ((gi o 3) = 0))
      else bif (decide ((gi o 0) = 4)) then
        some (decide ((gi o 3) ≤ 1))
      else bif (decide ((gi o 0) = 2)) then
        some true
      else some (decide ((1 : Int) ≤ (gi o 3)))
    else bif (decide ((gi o 0) = 0)) then
      some (decide ((gi o 3) = 0))
    else bif (decide ((gi o 0) = 1)) then
      some (decide ((gi o 3) = 0))
    else bif (decide ((gi o 0) = 3)) then
      some (decide ((gi o 3) = 0))
    else bif (decide ((gi o 0) = 4)) then
      some (decide ((gi o 3) ≤ 1))
    else bif (decide ((gi o 0) = 2)) then
      some true
    else some (decide ((1 : Int) ≤ (gi o 3)))
  else bif (decide ((gi o 0) = 1)) then
    bif (decide ((gi o 0) = 0)) then
      some (decide ((gi o 3) = 0))
    else bif (decide ((gi o 0) = 1)) then
      some (decide ((gi o 3) = 0))
    else bif (decide ((gi o 0) = 3)) then
      some (decide ((gi o 3) = 0))
    else bif (decide ((gi o 0) = 4)) then
      some (decide ((gi o 3) ≤ 1))
    else bif (decide ((gi o 0) = 2)) then
      some true
    else some (decide ((1 : Int) ≤ (gi o 3)))
  else bif (decide ((gi o 0) = 2)) then
    bif (decide ((gi o 0) = 0)) then
      some (decide ((gi o 3) = 0))
    else bif (decide ((gi o 0) = 1)) then
      some (decide ((gi o 3) = 0))
    else bif (decide ((gi o 0) = 3)) then
      some (decide ((gi o 3) = 0))
    else bif (decide ((gi o 0) = 4)) then
      some (decide ((gi o 3) ≤ 1))
    else bif (decide ((gi o 0) = 2)) then
      some true
    else some (decide ((1 : Int) ≤ (gi o 3)))
  else bif (!(decide ((gi o 0) = 6))) then
    bif (decide ((0 : Int) < (((gl o 2).length : Nat) : Int))) then
      some false
    else bif (decide ((gi o 0) = 0)) then
      some (decide ((gi o 3) = 0))
    else bif (decide ((gi o 0) = 1)) then
      some (decide ((gi o 3) = 0))
    else bif (decide ((gi o 0) = 3)) then
      some (decide ((gi o 3) = 0))
    else bif (decide ((gi o 0) = 4)) then
      some (decide ((gi o 3) ≤ 1))
    else bif (decide ((gi o 0) = 2)) then
      some true
    else some (decide ((1 : Int) ≤ (gi o 3)))
  else bif (decide ((gi o 0) = 0)) then
    some (decide ((gi o 3) = 0))
  else bif (decide ((gi o 0) = 1)) then
    some (decide ((gi o 3) = 0))
  else bif (decide ((gi o 0) = 3)) then
    some (decide ((gi o 3) = 0))
  else bif (decide ((gi o 0) = 4)) then
    some (decide ((gi o 3) ≤ 1))
  else bif (decide ((gi o 0) = 2)) then
    some true
  else some (decide ((1 : Int) ≤ (gi o 3)))
def spec_CmdOk (c : V) : Option (Bool) :=
  bif (decide ((gi c 0) = (-1))) then
    bif (decide ((gi c 1) = 0)) then
      bif (decide ((gi c 2) = 0)) then
        Option.bind (spec_OpOk (V.agg [(V.int .i64 (gi c 2)), (V.inl t_byte (gl c 3)), (V.inl t_byte (gl c 4)), (V.int .i64 (gi c 5))])) fun r25 =>
        some r25
      else some false
    else some false
  else bif (decide ((0 : Int) ≤ (gi c 0))) then
    bif (decide ((gi c 0) < 4)) then
      bif (decide ((1 : Int) ≤ (gi c 1))) then
        bif (decide ((gi c 1) ≤ 1000000)) then
          Option.bind (spec_OpOk (V.agg [(V.int .i64 (gi c 2)), (V.inl t_byte (gl c 3)), (V.inl t_byte (gl c 4)), (V.int .i64 (gi c 5))])) fun r26 =>
          some r26
        else some false
      else some false
    else some false
  else some false
def spec_ItemOk (x : V) : Option (Bool) :=
  bif (decide ((1 : Int) ≤ (gi x 0))) then
    bif (decide ((gi x 0) ≤ 100000)) then
      Option.bind (spec_CmdOk (V.agg [(V.int .i64 (gi x 1)), (V.int .i64 (gi x 2)), (V.int .i64 (gi x 3)), (V.inl t_byte (gl x 4)), (V.inl t_byte (gl x 5)), (V.int .i64 (gi x 6))])) fun r27 =>
      some r27
    else some false
  else some false
def spec_NodeOk_l4 : Nat → Int → Int → V → Option (Nat × Int × Bool × V)
  | 0, _, _, _ => none
  | k_ + 1, servers1, i5, b0 =>
    bif (decide (i5 < (((gl b0 3).length : Nat) : Int))) then
      bif (idxOk i5 ((gl b0 3).length)) then
        Option.bind (spec_ItemOk (n_impl_Item (rd (gl b0 3) i5.toNat))) fun r28 =>
        bif (!r28) then
          some (0, servers1, false, (n_impl_Node b0))
        else bif (idxOk i5 ((gl b0 3).length)) then
          bif (decide ((gi b0 1) < (gi (rd (gl b0 3) i5.toNat) 0))) then
            some (0, servers1, false, (n_impl_Node b0))
          else bif (decide ((0 : Int) < i5)) then
            bif (idxOk (IntKind.i64.wrap (i5 - 1)) ((gl b0 3).length)) then
              bif (idxOk i5 ((gl b0 3).length)) then
                bif (decide ((gi (rd (gl b0 3) i5.toNat) 0) < (gi (rd (gl b0 3) ((IntKind.i64.wrap (i5 - 1)).toNat)) 0))) then
                  some (0, servers1, false, (n_impl_Node b0))
                else spec_NodeOk_l4 k_ servers1 (IntKind.i64.wrap (i5 + 1)) (n_impl_Node b0)
              else none
            else none
          else spec_NodeOk_l4 k_ servers1 (IntKind.i64.wrap (i5 + 1)) (n_impl_Node b0)
        else none
      else none
    else some (1, servers1, false, (n_impl_Node b0))
def spec_NodeOk_l11 : Nat → Int → Int → V → Option (Nat × Bool × V)
  | 0, _, _, _ => none
  | k_ + 1, servers1, i6, b0 =>
    bif (decide (i6 < servers1)) then
      bif (decide ((gi b0 5) = 2)) then
        bif (idxOk i6 ((gl b0 9).length)) then
          bif (decide ((gi (rd (gl b0 9) i6.toNat) 0) < 1)) then
            some (0, false, (n_impl_Node b0))
          else bif (idxOk i6 ((gl b0 9).length)) then
            bif (decide ((IntKind.i64.wrap ((((gl b0 3).length : Nat) : Int) + 1)) < (gi (rd (gl b0 9) i6.toNat) 0))) then
              some (0, false, (n_impl_Node b0))
            else bif (idxOk i6 ((gl b0 10).length)) then
              bif (decide ((gi (rd (gl b0 10) i6.toNat) 0) < 0)) then
                some (0, false, (n_impl_Node b0))
              else bif (idxOk i6 ((gl b0 10).length)) then
                bif (decide ((((gl b0 3).length : Nat) : Int) < (gi (rd (gl b0 10) i6.toNat) 0))) then
                  some (0, false, (n_impl_Node b0))
                else bif (!(decide ((gi b0 5) = 2))) then
                  bif (idxOk i6 ((gl b0 9).length)) then
                    bif (!(decide ((gi (rd (gl b0 9) i6.toNat) 0) = 0))) then
                      some (0, false, (n_impl_Node b0))
                    else bif (idxOk i6 ((gl b0 10).length)) then
                      bif (!(decide ((gi (rd (gl b0 10) i6.toNat) 0) = 0))) then
                        some (0, false, (n_impl_Node b0))
                      else bif (decide ((gi b0 5) = 0)) then
                        bif (idxOk i6 ((gl b0 8).length)) then
                          bif (gb (rd (gl b0 8) i6.toNat) 0) then
                            some (0, false, (n_impl_Node b0))
                          else spec_NodeOk_l11 k_ servers1 (IntKind.i64.wrap (i6 + 1)) (n_impl_Node b0)
                        else none
                      else spec_NodeOk_l11 k_ servers1 (IntKind.i64.wrap (i6 + 1)) (n_impl_Node b0)
                    else none
                  else none
                else bif (decide ((gi b0 5) = 0)) then
                  bif (idxOk i6 ((gl b0 8).length)) then
                    bif (gb (rd (gl b0 8) i6.toNat) 0) then
                      some (0, false, (n_impl_Node b0))
                    else spec_NodeOk_l11 k_ servers1 (IntKind.i64.wrap (i6 + 1)) (n_impl_Node b0)
                  else none
                else spec_NodeOk_l11 k_ servers1 (IntKind.i64.wrap (i6 + 1)) (n_impl_Node b0)
              else none
            else none
          else none
        else none
      else bif (!(decide ((gi b0 5) = 2))) then
        bif (idxOk i6 ((gl b0 9).length)) then
          bif (!(decide ((gi (rd (gl b0 9) i6.toNat) 0) = 0))) then
            some (0, false, (n_impl_Node b0))
          else bif (idxOk i6 ((gl b0 10).length)) then
            bif (!(decide ((gi (rd (gl b0 10) i6.toNat) 0) = 0))) then
              some (0, false, (n_impl_Node b0))
            else bif (decide ((gi b0 5) = 0)) then
              bif (idxOk i6 ((gl b0 8).length)) then
                bif (gb (rd (gl b0 8) i6.toNat) 0) then
                  some (0, false, (n_impl_Node b0))
                else spec_NodeOk_l11 k_ servers1 (IntKind.i64.wrap (i6 + 1)) (n_impl_Node b0)
              else none
            else spec_NodeOk_l11 k_ servers1 (IntKind.i64.wrap (i6 + 1)) (n_impl_Node b0)
          else none
        else none
      else bif (decide ((gi b0 5) = 0)) then
        bif (idxOk i6 ((gl b0 8).length)) then
          bif (gb (rd (gl b0 8) i6.toNat) 0) then
            some (0, false, (n_impl_Node b0))
          else spec_NodeOk_l11 k_ servers1 (IntKind.i64.wrap (i6 + 1)) (n_impl_Node b0)
        else none
      else spec_NodeOk_l11 k_ servers1 (IntKind.i64.wrap (i6 + 1)) (n_impl_Node b0)
    else some (1, false, (n_impl_Node b0))
def spec_NodeOk (n : V) (servers : Int) : Option (Bool) :=
  bif (!(spec_l4servers servers)) then
    some false
  else bif (decide ((gi n 0) < 0)) then
    some false
  else bif (decide (servers ≤ (gi n 0))) then
    some false
  else bif (!(spec_l3term (gi n 1))) then
    some false
  else bif (!(spec_l4who (gi n 2) servers)) then
    some false
  else bif (decide ((400 : Int) < (((gl n 3).length : Nat) : Int))) then
    some false
  else bif (decide ((gi n 4) < 0)) then
    some false
  else bif (decide ((((gl n 3).length : Nat) : Int) < (gi n 4))) then
    some false
  else bif (decide ((gi n 5) < 0)) then
    some false
  else bif (decide ((2 : Int) < (gi n 5))) then
    some false
  else bif (!(spec_l4who (gi n 6) servers)) then
    some false
  else bif (decide ((gi n 7) < 0)) then
    some false
  else bif (decide ((20 : Int) < (gi n 7))) then
    some false
  else bif (!(decide ((((gl n 8).length : Nat) : Int) = servers))) then
    some false
  else bif (!(decide ((((gl n 9).length : Nat) : Int) = servers))) then
    some false
  else bif (!(decide ((((gl n 10).length : Nat) : Int) = servers))) then
    some false
  else Option.bind (spec_NodeOk_l4 (((((gl (n_impl_Node n) 3).length : Nat) : Int) - 0).toNat + 1) servers 0 (n_impl_Node n)) fun r29 =>
  bif (Nat.beq r29.1 0) then
    some r29.2.2.1
  else bif (!(decide ((gi r29.2.2.2 5) = 0))) then
    bif (decide ((gi r29.2.2.2 1) < 1)) then
      some false
    else bif (!(decide ((gi r29.2.2.2 2) = (gi r29.2.2.2 0)))) then
      some false
    else Option.bind (spec_NodeOk_l11 ((r29.2.1 - 0).toNat + 1) r29.2.1 0 (n_impl_Node r29.2.2.2)) fun r30 =>
    bif (Nat.beq r30.1 0) then
      some r30.2.1
    else bif (!(decide ((gi r30.2.2 5) = 2))) then
      some true
    else some (decide ((gi r30.2.2 6) = (gi r30.2.2 0)))
  else Option.bind (spec_NodeOk_l11 ((r29.2.1 - 0).toNat + 1) r29.2.1 0 (n_impl_Node r29.2.2.2)) fun r31 =>
  bif (Nat.beq r31.1 0) then
    some r31.2.1
  else bif (!(decide ((gi r31.2.2 5) = 2))) then
    some true
  else some (decide ((gi r31.2.2 6) = (gi r31.2.2 0)))
def spec_l3ownItem (x : V) : Option (V) :=
  bif ((roomy (0 + ((gl x 4).length)) 1) && true) then
    bif ((roomy (0 + ((gl x 5).length)) 1) && true) then
      some (n_impl_Item x)
    else none
  else none
def spec_l3ownItems_l3 : Nat → List V → Int → List V → Option (List V)
  | 0, _, _, _ => none
  | k_ + 1, l0, i4, r0 =>
    bif (decide (i4 < ((l0.length : Nat) : Int))) then
      bif (idxOk i4 l0.length) then
        Option.bind (spec_l3ownItem (n_impl_Item (rd l0 i4.toNat))) fun r34 =>
        bif ((roomy (r0.length + 1) 88) && true) then
          spec_l3ownItems_l3 k_ l0 (IntKind.i64.wrap (i4 + 1)) (r0 ++ [(n_impl_Item r34)])
        else none
      else none
    else some r0
def spec_l3ownItems (l : List V) : Option (List V) :=
  Option.bind (spec_l3ownItems_l3 ((((l.length : Nat) : Int) - 0).toNat + 1) l 0 []) fun r35 =>
  some r35
def spec_l4own (n : V) : Option (V) :=
  Option.bind (spec_l3ownItems (gl n 3)) fun r36 =>
  bif ((roomy (0 + ((gl n 8).length)) 1) && true) then
    bif ((roomy (0 + ((gl n 9).length)) 8) && true) then
      bif ((roomy (0 + ((gl n 10).length)) 8) && true) then
        some (V.agg [(V.int .i64 (gi n 0)), (V.int .i64 (gi n 1)), (V.int .i64 (gi n 2)), (V.inl t_impl_Item r36), (V.int .i64 (gi n 4)), (V.int .i64 (gi n 5)), (V.int .i64 (gi n 6)), (V.int .i64 (gi n 7)), (V.inl t_bool (gl n 8)), (V.inl t_int' (gl n 9)), (V.inl t_int' (gl n 10))])
      else none
    else none
  else none
def spec_l4most (k : Int) (servers : Int) : Bool :=
  (decide (servers < (IntKind.i64.wrap (2 * k))))
def spec_l4termAt (n : V) (place : Int) : Option (Int) :=
  bif (decide (place < 1)) then
    some 0
  else bif (decide ((((gl n 3).length : Nat) : Int) < place)) then
    some 0
  else bif (idxOk (IntKind.i64.wrap (place - 1)) ((gl n 3).length)) then
    some (gi (rd (gl n 3) ((IntKind.i64.wrap (place - 1)).toNat)) 0)
  else none
def spec_l4commit_l7 : Nat → Int → Int → Int → V → List V → List V → List V → List V → Option (Int × Int × V × List V × List V × List V × List V)
  | 0, _, _, _, _, _, _, _, _ => none
  | k_ + 1, p2, k3, i4, b0, r1, r2, r3, r4 =>
    bif (decide (i4 < ((r4.length : Nat) : Int))) then
      bif (idxOk i4 r4.length) then
        bif (decide (p2 ≤ (gi (rd r4 (0 + i4.toNat)) 0))) then
          spec_l4commit_l7 k_ p2 (IntKind.i64.wrap (k3 + 1)) (IntKind.i64.wrap (i4 + 1)) (V.agg [(V.int .i64 (gi b0 0)), (V.int .i64 (gi b0 1)), (V.int .i64 (gi b0 2)), (V.sl 1 t_impl_Item 0 none), (V.int .i64 (gi b0 4)), (V.int .i64 (gi b0 5)), (V.int .i64 (gi b0 6)), (V.int .i64 (gi b0 7)), (V.sl 2 t_bool 0 none), (V.sl 3 t_int' 0 none), (V.sl 4 t_int' 0 none)]) r1 r2 r3 r4
        else spec_l4commit_l7 k_ p2 k3 (IntKind.i64.wrap (i4 + 1)) (V.agg [(V.int .i64 (gi b0 0)), (V.int .i64 (gi b0 1)), (V.int .i64 (gi b0 2)), (V.sl 1 t_impl_Item 0 none), (V.int .i64 (gi b0 4)), (V.int .i64 (gi b0 5)), (V.int .i64 (gi b0 6)), (V.int .i64 (gi b0 7)), (V.sl 2 t_bool 0 none), (V.sl 3 t_int' 0 none), (V.sl 4 t_int' 0 none)]) r1 r2 r3 r4
      else none
    else some (p2, k3, (V.agg [(V.int .i64 (gi b0 0)), (V.int .i64 (gi b0 1)), (V.int .i64 (gi b0 2)), (V.sl 1 t_impl_Item 0 none), (V.int .i64 (gi b0 4)), (V.int .i64 (gi b0 5)), (V.int .i64 (gi b0 6)), (V.int .i64 (gi b0 7)), (V.sl 2 t_bool 0 none), (V.sl 3 t_int' 0 none), (V.sl 4 t_int' 0 none)]), r1, r2, r3, r4)
def spec_l4commit_l3 : Nat → Int → V → List V → List V → List V → List V → Option (Nat × V × List V × List V × List V × List V)
  | 0, _, _, _, _, _, _ => none
  | k_ + 1, p2, b0, r1, r2, r3, r4 =>
    bif (decide ((gi b0 4) < p2)) then
      Option.bind (spec_l4commit_l7 ((((r4.length : Nat) : Int) - 0).toNat + 1) p2 0 0 (V.agg [(V.int .i64 (gi b0 0)), (V.int .i64 (gi b0 1)), (V.int .i64 (gi b0 2)), (V.sl 1 t_impl_Item 0 none), (V.int .i64 (gi b0 4)), (V.int .i64 (gi b0 5)), (V.int .i64 (gi b0 6)), (V.int .i64 (gi b0 7)), (V.sl 2 t_bool 0 none), (V.sl 3 t_int' 0 none), (V.sl 4 t_int' 0 none)]) r1 r2 r3 r4) fun r38 =>
      bif spec_l4most r38.2.1 ((r38.2.2.2.2.2.2.length : Nat) : Int) then
        Option.bind (spec_l4termAt (V.agg [(V.int .i64 (gi r38.2.2.1 0)), (V.int .i64 (gi r38.2.2.1 1)), (V.int .i64 (gi r38.2.2.1 2)), (V.inl t_impl_Item r38.2.2.2.1), (V.int .i64 (gi r38.2.2.1 4)), (V.int .i64 (gi r38.2.2.1 5)), (V.int .i64 (gi r38.2.2.1 6)), (V.int .i64 (gi r38.2.2.1 7)), (V.inl t_bool r38.2.2.2.2.1), (V.inl t_int' r38.2.2.2.2.2.1), (V.inl t_int' r38.2.2.2.2.2.2)]) r38.1) fun r39 =>
        bif (decide (r39 = (gi r38.2.2.1 1))) then
          some (0, (V.agg [(V.int .i64 (gi r38.2.2.1 0)), (V.int .i64 (gi r38.2.2.1 1)), (V.int .i64 (gi r38.2.2.1 2)), (V.sl 1 t_impl_Item 0 none), (V.int .i64 r38.1), (V.int .i64 (gi r38.2.2.1 5)), (V.int .i64 (gi r38.2.2.1 6)), (V.int .i64 (gi r38.2.2.1 7)), (V.sl 2 t_bool 0 none), (V.sl 3 t_int' 0 none), (V.sl 4 t_int' 0 none)]), r38.2.2.2.1, r38.2.2.2.2.1, r38.2.2.2.2.2.1, r38.2.2.2.2.2.2)
        else spec_l4commit_l3 k_ (IntKind.i64.wrap (r38.1 - 1)) (V.agg [(V.int .i64 (gi r38.2.2.1 0)), (V.int .i64 (gi r38.2.2.1 1)), (V.int .i64 (gi r38.2.2.1 2)), (V.sl 1 t_impl_Item 0 none), (V.int .i64 (gi r38.2.2.1 4)), (V.int .i64 (gi r38.2.2.1 5)), (V.int .i64 (gi r38.2.2.1 6)), (V.int .i64 (gi r38.2.2.1 7)), (V.sl 2 t_bool 0 none), (V.sl 3 t_int' 0 none), (V.sl 4 t_int' 0 none)]) r38.2.2.2.1 r38.2.2.2.2.1 r38.2.2.2.2.2.1 r38.2.2.2.2.2.2
      else spec_l4commit_l3 k_ (IntKind.i64.wrap (r38.1 - 1)) (V.agg [(V.int .i64 (gi r38.2.2.1 0)), (V.int .i64 (gi r38.2.2.1 1)), (V.int .i64 (gi r38.2.2.1 2)), (V.sl 1 t_impl_Item 0 none), (V.int .i64 (gi r38.2.2.1 4)), (V.int .i64 (gi r38.2.2.1 5)), (V.int .i64 (gi r38.2.2.1 6)), (V.int .i64 (gi r38.2.2.1 7)), (V.sl 2 t_bool 0 none), (V.sl 3 t_int' 0 none), (V.sl 4 t_int' 0 none)]) r38.2.2.2.1 r38.2.2.2.2.1 r38.2.2.2.2.2.1 r38.2.2.2.2.2.2
    else some (1, (V.agg [(V.int .i64 (gi b0 0)), (V.int .i64 (gi b0 1)), (V.int .i64 (gi b0 2)), (V.sl 1 t_impl_Item 0 none), (V.int .i64 (gi b0 4)), (V.int .i64 (gi b0 5)), (V.int .i64 (gi b0 6)), (V.int .i64 (gi b0 7)), (V.sl 2 t_bool 0 none), (V.sl 3 t_int' 0 none), (V.sl 4 t_int' 0 none)]), r1, r2, r3, r4)
def spec_l4commit (n : V) : Option (V) :=
  bif (idxOk (gi n 0) ((gl n 10).length)) then
    bif (idxOk (gi n 0) ((gl n 9).length)) then
      Option.bind (spec_l4commit_l3 (((((gl n 3).length : Nat) : Int) - (gi (V.agg [(V.int .i64 (gi n 0)), (V.int .i64 (gi n 1)), (V.int .i64 (gi n 2)), (V.sl 1 t_impl_Item 0 none), (V.int .i64 (gi n 4)), (V.int .i64 (gi n 5)), (V.int .i64 (gi n 6)), (V.int .i64 (gi n 7)), (V.sl 2 t_bool 0 none), (V.sl 3 t_int' 0 none), (V.sl 4 t_int' 0 none)]) 4)).toNat + 1) (((gl n 3).length : Nat) : Int) (V.agg [(V.int .i64 (gi n 0)), (V.int .i64 (gi n 1)), (V.int .i64 (gi n 2)), (V.sl 1 t_impl_Item 0 none), (V.int .i64 (gi n 4)), (V.int .i64 (gi n 5)), (V.int .i64 (gi n 6)), (V.int .i64 (gi n 7)), (V.sl 2 t_bool 0 none), (V.sl 3 t_int' 0 none), (V.sl 4 t_int' 0 none)]) (gl n 3) (gl n 8) ((gl n 9).set (0 + ((gi n 0).toNat)) (V.int .i64 (IntKind.i64.wrap ((((gl n 3).length : Nat) : Int) + 1)))) ((gl n 10).set (0 + ((gi n 0).toNat)) (V.int .i64 (((gl n 3).length : Nat) : Int)))) fun r40 =>
      bif (Nat.beq r40.1 0) then
        some (V.agg [(V.int .i64 (gi r40.2.1 0)), (V.int .i64 (gi r40.2.1 1)), (V.int .i64 (gi r40.2.1 2)), (V.inl t_impl_Item r40.2.2.1), (V.int .i64 (gi r40.2.1 4)), (V.int .i64 (gi r40.2.1 5)), (V.int .i64 (gi r40.2.1 6)), (V.int .i64 (gi r40.2.1 7)), (V.inl t_bool r40.2.2.2.1), (V.inl t_int' r40.2.2.2.2.1), (V.inl t_int' r40.2.2.2.2.2)])
      else some (V.agg [(V.int .i64 (gi r40.2.1 0)), (V.int .i64 (gi r40.2.1 1)), (V.int .i64 (gi r40.2.1 2)), (V.inl t_impl_Item r40.2.2.1), (V.int .i64 (gi r40.2.1 4)), (V.int .i64 (gi r40.2.1 5)), (V.int .i64 (gi r40.2.1 6)), (V.int .i64 (gi r40.2.1 7)), (V.inl t_bool r40.2.2.2.1), (V.inl t_int' r40.2.2.2.2.1), (V.inl t_int' r40.2.2.2.2.2)])
    else none
  else none
def spec_l4add_v2_l4 : Nat → Int → V → V → V → List V → List V → List V → List V → List V → List V → Option (V × V × V × List V × List V × List V × List V × List V × List V)
  | 0, _, _, _, _, _, _, _, _, _, _ => none
  | k_ + 1, i7, b0, b1, b2, r3, r4, r5, r6, r7, r8 =>
    bif (decide (i7 < ((r3.length : Nat) : Int))) then
      bif (decide (((r8.length : Nat) : Int) < 4)) then
        bif (idxOk i7 r3.length) then
          bif ((roomy (r8.length + 1) 88) && true) then
            spec_l4add_v2_l4 k_ (IntKind.i64.wrap (i7 + 1)) (V.agg [(V.int .i64 (gi b0 0)), (V.int .i64 (gi b0 1)), (V.int .i64 (gi b0 2)), (V.sl 3 t_impl_Item 0 none), (V.int .i64 (gi b0 4)), (V.int .i64 (gi b0 5)), (V.int .i64 (gi b0 6)), (V.int .i64 (gi b0 7)), (V.sl 4 t_bool 0 none), (V.sl 5 t_int' 0 none), (V.sl 6 t_int' 0 none)]) (V.agg [(V.int .i64 (gi b1 0)), (V.int .i64 (gi b1 1)), (V.int .i64 (gi b1 2)), (V.int .i64 (gi b1 3)), (V.int .i64 (gi b1 4)), (V.int .i64 (gi b1 5)), (V.sl 7 t_impl_Item 0 none), (V.int .i64 (gi b1 7)), (V.bool (gb b1 8))]) (V.agg [(V.int .i64 (gi b2 0)), (V.int .i64 (gi b2 1)), (V.int .i64 (gi b2 2)), (V.int .i64 (gi b2 3)), (V.int .i64 (gi b2 4)), (V.int .i64 (gi b2 5)), (V.sl 8 t_impl_Item 0 none), (V.int .i64 (gi b2 7)), (V.bool (gb b2 8))]) r3 r4 r5 r6 r7 (r8 ++ [(n_impl_Item (rd r3 (0 + i7.toNat)))])
          else none
        else none
      else some ((V.agg [(V.int .i64 (gi b0 0)), (V.int .i64 (gi b0 1)), (V.int .i64 (gi b0 2)), (V.sl 3 t_impl_Item 0 none), (V.int .i64 (gi b0 4)), (V.int .i64 (gi b0 5)), (V.int .i64 (gi b0 6)), (V.int .i64 (gi b0 7)), (V.sl 4 t_bool 0 none), (V.sl 5 t_int' 0 none), (V.sl 6 t_int' 0 none)]), (V.agg [(V.int .i64 (gi b1 0)), (V.int .i64 (gi b1 1)), (V.int .i64 (gi b1 2)), (V.int .i64 (gi b1 3)), (V.int .i64 (gi b1 4)), (V.int .i64 (gi b1 5)), (V.sl 7 t_impl_Item 0 none), (V.int .i64 (gi b1 7)), (V.bool (gb b1 8))]), (V.agg [(V.int .i64 (gi b2 0)), (V.int .i64 (gi b2 1)), (V.int .i64 (gi b2 2)), (V.int .i64 (gi b2 3)), (V.int .i64 (gi b2 4)), (V.int .i64 (gi b2 5)), (V.sl 8 t_impl_Item 0 none), (V.int .i64 (gi b2 7)), (V.bool (gb b2 8))]), r3, r4, r5, r6, r7, r8)
    else some ((V.agg [(V.int .i64 (gi b0 0)), (V.int .i64 (gi b0 1)), (V.int .i64 (gi b0 2)), (V.sl 3 t_impl_Item 0 none), (V.int .i64 (gi b0 4)), (V.int .i64 (gi b0 5)), (V.int .i64 (gi b0 6)), (V.int .i64 (gi b0 7)), (V.sl 4 t_bool 0 none), (V.sl 5 t_int' 0 none), (V.sl 6 t_int' 0 none)]), (V.agg [(V.int .i64 (gi b1 0)), (V.int .i64 (gi b1 1)), (V.int .i64 (gi b1 2)), (V.int .i64 (gi b1 3)), (V.int .i64 (gi b1 4)), (V.int .i64 (gi b1 5)), (V.sl 7 t_impl_Item 0 none), (V.int .i64 (gi b1 7)), (V.bool (gb b1 8))]), (V.agg [(V.int .i64 (gi b2 0)), (V.int .i64 (gi b2 1)), (V.int .i64 (gi b2 2)), (V.int .i64 (gi b2 3)), (V.int .i64 (gi b2 4)), (V.int .i64 (gi b2 5)), (V.sl 8 t_impl_Item 0 none), (V.int .i64 (gi b2 7)), (V.bool (gb b2 8))]), r3, r4, r5, r6, r7, r8)
def spec_l4add_v2 (n : V) (to : Int) : Option (V × V) :=
  bif (idxOk to ((gl n 9).length)) then
    Option.bind (spec_l4termAt (n_impl_Node n) (IntKind.i64.wrap ((gi (rd (gl n 9) (0 + to.toNat)) 0) - 1))) fun r54 =>
    Option.bind (spec_l4add_v2_l4 (((((gl n 3).length : Nat) : Int) - (IntKind.i64.wrap ((gi (rd (gl n 9) (0 + to.toNat)) 0) - 1))).toNat + 1) (IntKind.i64.wrap ((gi (rd (gl n 9) (0 + to.toNat)) 0) - 1)) (V.agg [(V.int .i64 (gi n 0)), (V.int .i64 (gi n 1)), (V.int .i64 (gi n 2)), (V.sl 3 t_impl_Item 0 none), (V.int .i64 (gi n 4)), (V.int .i64 (gi n 5)), (V.int .i64 (gi n 6)), (V.int .i64 (gi n 7)), (V.sl 4 t_bool 0 none), (V.sl 5 t_int' 0 none), (V.sl 6 t_int' 0 none)]) (V.agg [(V.int .i64 0), (V.int .i64 0), (V.int .i64 0), (V.int .i64 0), (V.int .i64 0), (V.int .i64 0), (V.sl 7 t_impl_Item 0 none), (V.int .i64 0), (V.bool false)]) (V.agg [(V.int .i64 2), (V.int .i64 (gi n 0)), (V.int .i64 to), (V.int .i64 (gi n 1)), (V.int .i64 (IntKind.i64.wrap ((gi (rd (gl n 9) (0 + to.toNat)) 0) - 1))), (V.int .i64 r54), (V.sl 8 t_impl_Item 0 none), (V.int .i64 (gi n 4)), (V.bool false)]) (gl n 3) (gl n 8) (gl n 9) (gl n 10) [] []) fun r55 =>
    some ((V.agg [(V.int .i64 (gi r55.2.2.1 0)), (V.int .i64 (gi r55.2.2.1 1)), (V.int .i64 (gi r55.2.2.1 2)), (V.int .i64 (gi r55.2.2.1 3)), (V.int .i64 (gi r55.2.2.1 4)), (V.int .i64 (gi r55.2.2.1 5)), (V.inl t_impl_Item r55.2.2.2.2.2.2.2.2), (V.int .i64 (gi r55.2.2.1 7)), (V.bool (gb r55.2.2.1 8))]), (V.agg [(V.int .i64 (gi r55.1 0)), (V.int .i64 (gi r55.1 1)), (V.int .i64 (gi r55.1 2)), (V.inl t_impl_Item r55.2.2.2.1), (V.int .i64 (gi r55.1 4)), (V.int .i64 (gi r55.1 5)), (V.int .i64 (gi r55.1 6)), (V.int .i64 (gi r55.1 7)), (V.inl t_bool r55.2.2.2.2.1), (V.inl t_int' r55.2.2.2.2.2.1), (V.inl t_int' r55.2.2.2.2.2.2.1)]))
  else none
def spec_l4all_v1_l3 : Nat → Int → V → List V → List V → List V → List V → List V → Option (V × List V × List V × List V × List V × List V)
  | 0, _, _, _, _, _, _, _ => none
  | k_ + 1, i4, b0, r1, r2, r3, r4, r5 =>
    bif (decide (i4 < ((r3.length : Nat) : Int))) then
      bif (!(decide (i4 = (gi b0 0)))) then
        Option.bind (spec_l4add_v2 (V.agg [(V.int .i64 (gi b0 0)), (V.int .i64 (gi b0 1)), (V.int .i64 (gi b0 2)), (V.inl t_impl_Item r2), (V.int .i64 (gi b0 4)), (V.int .i64 (gi b0 5)), (V.int .i64 (gi b0 6)), (V.int .i64 (gi b0 7)), (V.inl t_bool r3), (V.inl t_int' r4), (V.inl t_int' r5)]) i4) fun r57 =>
        bif ((roomy (r1.length + 1) 88) && true) then
          spec_l4all_v1_l3 k_ (IntKind.i64.wrap (i4 + 1)) (V.agg [(V.int .i64 (gi r57.2 0)), (V.int .i64 (gi r57.2 1)), (V.int .i64 (gi r57.2 2)), (V.sl 2 t_impl_Item 0 none), (V.int .i64 (gi r57.2 4)), (V.int .i64 (gi r57.2 5)), (V.int .i64 (gi r57.2 6)), (V.int .i64 (gi r57.2 7)), (V.sl 3 t_bool 0 none), (V.sl 4 t_int' 0 none), (V.sl 5 t_int' 0 none)]) (r1 ++ [(n_impl_Msg r57.1)]) (gl r57.2 3) (gl r57.2 8) (gl r57.2 9) (gl r57.2 10)
        else none
      else spec_l4all_v1_l3 k_ (IntKind.i64.wrap (i4 + 1)) (V.agg [(V.int .i64 (gi b0 0)), (V.int .i64 (gi b0 1)), (V.int .i64 (gi b0 2)), (V.sl 2 t_impl_Item 0 none), (V.int .i64 (gi b0 4)), (V.int .i64 (gi b0 5)), (V.int .i64 (gi b0 6)), (V.int .i64 (gi b0 7)), (V.sl 3 t_bool 0 none), (V.sl 4 t_int' 0 none), (V.sl 5 t_int' 0 none)]) r1 r2 r3 r4 r5
    else some ((V.agg [(V.int .i64 (gi b0 0)), (V.int .i64 (gi b0 1)), (V.int .i64 (gi b0 2)), (V.sl 2 t_impl_Item 0 none), (V.int .i64 (gi b0 4)), (V.int .i64 (gi b0 5)), (V.int .i64 (gi b0 6)), (V.int .i64 (gi b0 7)), (V.sl 3 t_bool 0 none), (V.sl 4 t_int' 0 none), (V.sl 5 t_int' 0 none)]), r1, r2, r3, r4, r5)
def spec_l4all_v1 (n : V) : Option (List V × V) :=
  Option.bind (spec_l4all_v1_l3 (((((gl n 8).length : Nat) : Int) - 0).toNat + 1) 0 (V.agg [(V.int .i64 (gi n 0)), (V.int .i64 (gi n 1)), (V.int .i64 (gi n 2)), (V.sl 2 t_impl_Item 0 none), (V.int .i64 (gi n 4)), (V.int .i64 (gi n 5)), (V.int .i64 (gi n 6)), (V.int .i64 (gi n 7)), (V.sl 3 t_bool 0 none), (V.sl 4 t_int' 0 none), (V.sl 5 t_int' 0 none)]) [] (gl n 3) (gl n 8) (gl n 9) (gl n 10)) fun r58 =>
  some (r58.2.1, (V.agg [(V.int .i64 (gi r58.1 0)), (V.int .i64 (gi r58.1 1)), (V.int .i64 (gi r58.1 2)), (V.inl t_impl_Item r58.2.2.1), (V.int .i64 (gi r58.1 4)), (V.int .i64 (gi r58.1 5)), (V.int .i64 (gi r58.1 6)), (V.int .i64 (gi r58.1 7)), (V.inl t_bool r58.2.2.2.1), (V.inl t_int' r58.2.2.2.2.1), (V.inl t_int' r58.2.2.2.2.2)]))
def spec_l4propose (n : V) (c : V) : Option (List V × Bool × V) :=
  bif (!(decide ((gi n 5) = 2))) then
    some ([], false, (n_impl_Node n))
  else bif (decide ((200 : Int) ≤ (((gl n 3).length : Nat) : Int))) then
    some ([], false, (n_impl_Node n))
  else bif ((roomy (0 + ((gl n 3).length)) 88) && true) then
    bif ((roomy (((gl n 3).length) + 1) 88) && true) then
      Option.bind (spec_l4commit (V.agg [(V.int .i64 (gi n 0)), (V.int .i64 (gi n 1)), (V.int .i64 (gi n 2)), (V.inl t_impl_Item ((gl n 3) ++ [(V.agg [(V.int .i64 (gi n 1)), (V.int .i64 (gi c 0)), (V.int .i64 (gi c 1)), (V.int .i64 (gi c 2)), (V.inl t_byte (gl c 3)), (V.inl t_byte (gl c 4)), (V.int .i64 (gi c 5))])])), (V.int .i64 (gi n 4)), (V.int .i64 (gi n 5)), (V.int .i64 (gi n 6)), (V.int .i64 (gi n 7)), (V.inl t_bool (gl n 8)), (V.inl t_int' (gl n 9)), (V.inl t_int' (gl n 10))])) fun r50 =>
      Option.bind (spec_l4all_v1 (n_impl_Node r50)) fun r59 =>
      some (r59.1, true, (n_impl_Node r59.2))
    else none
  else none
def spec_l4ownMsgs_l3 : Nat → List V → Int → List V → Option (List V)
  | 0, _, _, _ => none
  | k_ + 1, l0, i4, r0 =>
    bif (decide (i4 < ((l0.length : Nat) : Int))) then
      bif (idxOk i4 l0.length) then
        Option.bind (spec_l3ownItems (gl (rd l0 i4.toNat) 6)) fun r62 =>
        bif ((roomy (r0.length + 1) 88) && true) then
          spec_l4ownMsgs_l3 k_ l0 (IntKind.i64.wrap (i4 + 1)) (r0 ++ [(V.agg [(V.int .i64 (gi (rd l0 i4.toNat) 0)), (V.int .i64 (gi (rd l0 i4.toNat) 1)), (V.int .i64 (gi (rd l0 i4.toNat) 2)), (V.int .i64 (gi (rd l0 i4.toNat) 3)), (V.int .i64 (gi (rd l0 i4.toNat) 4)), (V.int .i64 (gi (rd l0 i4.toNat) 5)), (V.inl t_impl_Item r62), (V.int .i64 (gi (rd l0 i4.toNat) 7)), (V.bool (gb (rd l0 i4.toNat) 8))])])
        else none
      else none
    else some r0
def spec_l4ownMsgs (l : List V) : Option (List V) :=
  Option.bind (spec_l4ownMsgs_l3 ((((l.length : Nat) : Int) - 0).toNat + 1) l 0 []) fun r63 =>
  some r63
def spec_Propose (n : V) (servers : Int) (c : V) : Option (V × List V × Bool) :=
  Option.bind (spec_NodeOk (n_impl_Node n) servers) fun r32 =>
  bif (!r32) then
    some ((V.agg [(V.int .i64 0), (V.int .i64 0), (V.int .i64 0), (V.inl t_impl_Item []), (V.int .i64 0), (V.int .i64 0), (V.int .i64 0), (V.int .i64 0), (V.inl t_bool []), (V.inl t_int' []), (V.inl t_int' [])]), [], false)
  else Option.bind (spec_CmdOk (n_laws_Cmd c)) fun r33 =>
  bif (!r33) then
    some ((V.agg [(V.int .i64 0), (V.int .i64 0), (V.int .i64 0), (V.inl t_impl_Item []), (V.int .i64 0), (V.int .i64 0), (V.int .i64 0), (V.int .i64 0), (V.inl t_bool []), (V.inl t_int' []), (V.inl t_int' [])]), [], false)
  else Option.bind (spec_l4own (n_impl_Node n)) fun r37 =>
  Option.bind (spec_l4propose (n_impl_Node r37) (n_laws_Cmd c)) fun r60 =>
  Option.bind (spec_l4own (n_impl_Node r60.2.2)) fun r61 =>
  Option.bind (spec_l4ownMsgs r60.1) fun r64 =>
  some ((n_impl_Node r61), r64, r60.2.1)
def impl_within (n : Int) (low : Int) (high : Int) : Bool :=
  bif (decide (low ≤ n)) then
    (decide (n ≤ high))
  else false
def impl_isServer (id : Int) (servers : Int) : Bool :=
  bif impl_within servers 1 5 then
    (impl_within id 0 (IntKind.i64.wrap (servers - 1)))
  else false
def impl_isTerm (n : Int) : Bool :=
  (impl_within n 1 100000)
def impl_noOp : V :=
  (V.agg [(V.int .i64 (-1)), (V.int .i64 0), (V.int .i64 0), (V.inl t_byte []), (V.inl t_byte []), (V.int .i64 0)])
def bytes_Equal (a : List V) (b : List V) : Bool :=
  (eqList (a.map normB) (b.map normB))
def impl_Op_same (o : V) (p : V) : Bool :=
  bif (decide ((gi o 0) = (gi p 0))) then
    bif bytes_Equal (gl o 1) (gl p 1) then
      bif bytes_Equal (gl o 2) (gl p 2) then
        (decide ((gi o 3) = (gi p 3)))
      else false
    else false
  else false
def impl_Cmd_same (c : V) (d : V) : Bool :=
  bif (decide ((gi c 0) = (gi d 0))) then
    bif (decide ((gi c 1) = (gi d 1))) then
      (impl_Op_same (V.agg [(V.int .i64 (gi c 2)), (V.inl t_byte (gl c 3)), (V.inl t_byte (gl c 4)), (V.int .i64 (gi c 5))]) (V.agg [(V.int .i64 (gi d 2)), (V.inl t_byte (gl d 3)), (V.inl t_byte (gl d 4)), (V.int .i64 (gi d 5))]))
    else false
  else false
def impl_KeyOk_l2 : Nat → List V → List V → Int → Int → Option (Nat × List V × Bool)
  | 0, _, _, _, _ => none
  | k_ + 1, b0, v5, v6, v7 =>
    bif (decide (v7 < v6)) then
      bif (idxOk v7 v5.length) then
        bif (decide ((gi (rd v5 v7.toNat) 0) < 97)) then
          bif (!(decide ((gi (rd v5 v7.toNat) 0) = 47))) then
            some (0, b0, false)
          else impl_KeyOk_l2 k_ b0 v5 v6 (IntKind.i64.wrap (v7 + 1))
        else bif (decide ((122 : Int) < (gi (rd v5 v7.toNat) 0))) then
          bif (!(decide ((gi (rd v5 v7.toNat) 0) = 47))) then
            some (0, b0, false)
          else impl_KeyOk_l2 k_ b0 v5 v6 (IntKind.i64.wrap (v7 + 1))
        else impl_KeyOk_l2 k_ b0 v5 v6 (IntKind.i64.wrap (v7 + 1))
      else none
    else some (1, b0, false)
def impl_KeyOk (b : List V) : Option (Bool) :=
  Option.bind (impl_KeyOk_l2 ((((b.length : Nat) : Int) - 0).toNat + 1) b b ((b.length : Nat) : Int) 0) fun r68 =>
  bif (Nat.beq r68.1 0) then
    some r68.2.2
  else some (impl_within ((r68.2.1.length : Nat) : Int) 1 20)
def impl_isValue (b : List V) : Bool :=
  (decide (((b.length : Nat) : Int) ≤ 20))
def impl_OpOk (o : V) : Option (Bool) :=
  bif (decide ((gi o 0) = 0)) then
    bif impl_within (gi o 3) 0 0 then
      bif (decide ((((gl o 1).length : Nat) : Int) = 0)) then
        some (decide ((((gl o 2).length : Nat) : Int) = 0))
      else some false
    else some false
  else bif (decide ((gi o 0) = 1)) then
    bif impl_within (gi o 3) 0 0 then
      Option.bind (impl_KeyOk (gl o 1)) fun r69 =>
      bif r69 then
        bif impl_isValue (gl o 2) then
          some true
        else some false
      else some false
    else some false
  else bif (decide ((gi o 0) = 2)) then
    bif impl_within (gi o 3) 0 1000000 then
      Option.bind (impl_KeyOk (gl o 1)) fun r70 =>
      bif r70 then
        bif impl_isValue (gl o 2) then
          some true
        else some false
      else some false
    else some false
  else bif (decide ((gi o 0) = 3)) then
    bif impl_within (gi o 3) 0 0 then
      Option.bind (impl_KeyOk (gl o 1)) fun r71 =>
      bif r71 then
        some (decide ((((gl o 2).length : Nat) : Int) = 0))
      else some false
    else some false
  else bif (decide ((gi o 0) = 4)) then
    bif impl_within (gi o 3) 0 1 then
      bif (decide ((((gl o 1).length : Nat) : Int) = 0)) then
        some (decide ((((gl o 2).length : Nat) : Int) = 0))
      else some false
    else some false
  else bif (decide ((gi o 0) = 5)) then
    bif impl_within (gi o 3) 1 1000000 then
      bif (decide ((((gl o 1).length : Nat) : Int) = 0)) then
        some (decide ((((gl o 2).length : Nat) : Int) = 0))
      else some false
    else some false
  else bif (decide ((gi o 0) = 6)) then
    bif impl_within (gi o 3) 1 1000000 then
      Option.bind (impl_KeyOk (gl o 1)) fun r72 =>
      bif r72 then
        bif impl_isValue (gl o 2) then
          some true
        else some false
      else some false
    else some false
  else bif (decide ((gi o 0) = 7)) then
    bif impl_within (gi o 3) 1 1000000 then
      Option.bind (impl_KeyOk (gl o 1)) fun r73 =>
      bif r73 then
        some (decide ((((gl o 2).length : Nat) : Int) = 0))
      else some false
    else some false
  else some false
def impl_CmdOk (c : V) : Option (Bool) :=
  bif impl_Cmd_same (n_laws_Cmd c) (n_laws_Cmd impl_noOp) then
    some true
  else bif impl_within (gi c 0) 0 3 then
    bif impl_within (gi c 1) 1 1000000 then
      Option.bind (impl_OpOk (V.agg [(V.int .i64 (gi c 2)), (V.inl t_byte (gl c 3)), (V.inl t_byte (gl c 4)), (V.int .i64 (gi c 5))])) fun r74 =>
      some r74
    else some false
  else some false
def impl_ItemOk (x : V) : Option (Bool) :=
  bif impl_isTerm (gi x 0) then
    Option.bind (impl_CmdOk (V.agg [(V.int .i64 (gi x 1)), (V.int .i64 (gi x 2)), (V.int .i64 (gi x 3)), (V.inl t_byte (gl x 4)), (V.inl t_byte (gl x 5)), (V.int .i64 (gi x 6))])) fun r75 =>
    some r75
  else some false
def slices_Index_bool_l2 : Nat → List V → Bool → Int → Int → Option (Nat × Int)
  | 0, _, _, _, _ => none
  | k_ + 1, s0, v1, v7, v8 =>
    bif (decide (v8 < v7)) then
      bif (idxOk v8 s0.length) then
        bif (v1 == (gb (rd s0 v8.toNat) 0)) then
          some (0, v8)
        else slices_Index_bool_l2 k_ s0 v1 v7 (IntKind.i64.wrap (v8 + 1))
      else none
    else some (1, 0)
def slices_Index_bool (s : List V) (v : Bool) : Option (Int) :=
  Option.bind (slices_Index_bool_l2 ((((s.length : Nat) : Int) - 0).toNat + 1) s v ((s.length : Nat) : Int) 0) fun r78 =>
  bif (Nat.beq r78.1 0) then
    some r78.2
  else some (-1)
def slices_Contains_bool (s : List V) (v : Bool) : Option (Bool) :=
  Option.bind (slices_Index_bool s v) fun r79 =>
  some (decide ((0 : Int) ≤ r79))
def impl_NodeOk_l5 : Nat → Int → Int → List V → Int → Int → V → Option (Nat × Int × Bool × V)
  | 0, _, _, _, _, _, _ => none
  | k_ + 1, servers1, term5, v43, v44, v45, b0 =>
    bif (decide (v45 < v44)) then
      bif (idxOk v45 v43.length) then
        Option.bind (impl_ItemOk (n_impl_Item (rd v43 v45.toNat))) fun r76 =>
        bif (!r76) then
          some (0, servers1, false, (n_impl_Node b0))
        else bif (!(impl_within (gi (rd v43 v45.toNat) 0) term5 (gi b0 1))) then
          some (0, servers1, false, (n_impl_Node b0))
        else impl_NodeOk_l5 k_ servers1 (gi (rd v43 v45.toNat) 0) v43 v44 (IntKind.i64.wrap (v45 + 1)) (n_impl_Node b0)
      else none
    else some (1, servers1, false, (n_impl_Node b0))
def impl_NodeOk_l16 : Nat → Int → Int → V → Option (Nat × Bool)
  | 0, _, _, _ => none
  | k_ + 1, v141, v142, b0 =>
    bif (decide (v142 < v141)) then
      bif (decide ((gi b0 5) = 2)) then
        bif (idxOk v142 ((gl b0 9).length)) then
          bif (!(impl_within (gi (rd (gl b0 9) v142.toNat) 0) 1 (IntKind.i64.wrap ((((gl b0 3).length : Nat) : Int) + 1)))) then
            some (0, false)
          else bif (idxOk v142 ((gl b0 10).length)) then
            bif (!(impl_within (gi (rd (gl b0 10) v142.toNat) 0) 0 (((gl b0 3).length : Nat) : Int))) then
              some (0, false)
            else bif (!(decide ((gi b0 5) = 2))) then
              bif (idxOk v142 ((gl b0 9).length)) then
                bif (!(decide ((gi (rd (gl b0 9) v142.toNat) 0) = 0))) then
                  some (0, false)
                else bif (idxOk v142 ((gl b0 10).length)) then
                  bif (!(decide ((gi (rd (gl b0 10) v142.toNat) 0) = 0))) then
                    some (0, false)
                  else impl_NodeOk_l16 k_ v141 (IntKind.i64.wrap (v142 + 1)) (n_impl_Node b0)
                else none
              else none
            else impl_NodeOk_l16 k_ v141 (IntKind.i64.wrap (v142 + 1)) (n_impl_Node b0)
          else none
        else none
      else bif (!(decide ((gi b0 5) = 2))) then
        bif (idxOk v142 ((gl b0 9).length)) then
          bif (!(decide ((gi (rd (gl b0 9) v142.toNat) 0) = 0))) then
            some (0, false)
          else bif (idxOk v142 ((gl b0 10).length)) then
            bif (!(decide ((gi (rd (gl b0 10) v142.toNat) 0) = 0))) then
              some (0, false)
            else impl_NodeOk_l16 k_ v141 (IntKind.i64.wrap (v142 + 1)) (n_impl_Node b0)
          else none
        else none
      else impl_NodeOk_l16 k_ v141 (IntKind.i64.wrap (v142 + 1)) (n_impl_Node b0)
    else some (1, false)
def impl_NodeOk (n : V) (servers : Int) : Option (Bool) :=
  bif (!(impl_isServer (gi n 0) servers)) then
    some false
  else bif (!(impl_within (gi n 1) 0 100000)) then
    some false
  else bif (!(impl_within (gi n 2) (-1) (IntKind.i64.wrap (servers - 1)))) then
    some false
  else bif (!(impl_within (gi n 6) (-1) (IntKind.i64.wrap (servers - 1)))) then
    some false
  else bif (decide ((400 : Int) < (((gl n 3).length : Nat) : Int))) then
    some false
  else Option.bind (impl_NodeOk_l5 (((((gl n 3).length : Nat) : Int) - 0).toNat + 1) servers 1 (gl n 3) (((gl n 3).length : Nat) : Int) 0 (n_impl_Node n)) fun r77 =>
  bif (Nat.beq r77.1 0) then
    some r77.2.2.1
  else bif (!(impl_within (gi r77.2.2.2 4) 0 (((gl r77.2.2.2 3).length : Nat) : Int))) then
    some false
  else bif (!(impl_within (gi r77.2.2.2 5) 0 2)) then
    some false
  else bif (!(impl_within (gi r77.2.2.2 7) 0 20)) then
    some false
  else bif (!(decide ((((gl r77.2.2.2 8).length : Nat) : Int) = r77.2.1))) then
    some false
  else bif (!(decide ((((gl r77.2.2.2 9).length : Nat) : Int) = r77.2.1))) then
    some false
  else bif (!(decide ((((gl r77.2.2.2 10).length : Nat) : Int) = r77.2.1))) then
    some false
  else bif (decide ((gi r77.2.2.2 5) = 0)) then
    Option.bind (slices_Contains_bool (gl r77.2.2.2 8) true) fun r80 =>
    bif r80 then
      some false
    else bif (!(decide ((gi r77.2.2.2 5) = 0))) then
      bif (decide ((gi r77.2.2.2 1) < 1)) then
        some false
      else bif (!(decide ((gi r77.2.2.2 2) = (gi r77.2.2.2 0)))) then
        some false
      else bif (decide ((gi r77.2.2.2 5) = 2)) then
        bif (!(decide ((gi r77.2.2.2 6) = (gi r77.2.2.2 0)))) then
          some false
        else Option.bind (impl_NodeOk_l16 ((r77.2.1 - 0).toNat + 1) r77.2.1 0 (n_impl_Node r77.2.2.2)) fun r81 =>
        bif (Nat.beq r81.1 0) then
          some r81.2
        else some true
      else Option.bind (impl_NodeOk_l16 ((r77.2.1 - 0).toNat + 1) r77.2.1 0 (n_impl_Node r77.2.2.2)) fun r82 =>
      bif (Nat.beq r82.1 0) then
        some r82.2
      else some true
    else bif (decide ((gi r77.2.2.2 5) = 2)) then
      bif (!(decide ((gi r77.2.2.2 6) = (gi r77.2.2.2 0)))) then
        some false
      else Option.bind (impl_NodeOk_l16 ((r77.2.1 - 0).toNat + 1) r77.2.1 0 (n_impl_Node r77.2.2.2)) fun r83 =>
      bif (Nat.beq r83.1 0) then
        some r83.2
      else some true
    else Option.bind (impl_NodeOk_l16 ((r77.2.1 - 0).toNat + 1) r77.2.1 0 (n_impl_Node r77.2.2.2)) fun r84 =>
    bif (Nat.beq r84.1 0) then
      some r84.2
    else some true
  else bif (!(decide ((gi r77.2.2.2 5) = 0))) then
    bif (decide ((gi r77.2.2.2 1) < 1)) then
      some false
    else bif (!(decide ((gi r77.2.2.2 2) = (gi r77.2.2.2 0)))) then
      some false
    else bif (decide ((gi r77.2.2.2 5) = 2)) then
      bif (!(decide ((gi r77.2.2.2 6) = (gi r77.2.2.2 0)))) then
        some false
      else Option.bind (impl_NodeOk_l16 ((r77.2.1 - 0).toNat + 1) r77.2.1 0 (n_impl_Node r77.2.2.2)) fun r85 =>
      bif (Nat.beq r85.1 0) then
        some r85.2
      else some true
    else Option.bind (impl_NodeOk_l16 ((r77.2.1 - 0).toNat + 1) r77.2.1 0 (n_impl_Node r77.2.2.2)) fun r86 =>
    bif (Nat.beq r86.1 0) then
      some r86.2
    else some true
  else bif (decide ((gi r77.2.2.2 5) = 2)) then
    bif (!(decide ((gi r77.2.2.2 6) = (gi r77.2.2.2 0)))) then
      some false
    else Option.bind (impl_NodeOk_l16 ((r77.2.1 - 0).toNat + 1) r77.2.1 0 (n_impl_Node r77.2.2.2)) fun r87 =>
    bif (Nat.beq r87.1 0) then
      some r87.2
    else some true
  else Option.bind (impl_NodeOk_l16 ((r77.2.1 - 0).toNat + 1) r77.2.1 0 (n_impl_Node r77.2.2.2)) fun r88 =>
  bif (Nat.beq r88.1 0) then
    some r88.2
  else some true
def slices_Clone_byte (s : List V) : Option (List V) :=
  bif ((roomy (0 + s.length) 1) && true) then
    some s
  else none
def impl_Op_own (o : V) : Option (V) :=
  Option.bind (slices_Clone_byte (gl o 1)) fun r91 =>
  Option.bind (slices_Clone_byte (gl o 2)) fun r92 =>
  some (V.agg [(V.int .i64 (gi o 0)), (V.inl t_byte r91), (V.inl t_byte r92), (V.int .i64 (gi o 3))])
def impl_Cmd_own (c : V) : Option (V) :=
  Option.bind (impl_Op_own (V.agg [(V.int .i64 (gi c 2)), (V.inl t_byte (gl c 3)), (V.inl t_byte (gl c 4)), (V.int .i64 (gi c 5))])) fun r93 =>
  some (V.agg [(V.int .i64 (gi c 0)), (V.int .i64 (gi c 1)), (V.int .i64 (gi r93 0)), (V.inl t_byte (gl r93 1)), (V.inl t_byte (gl r93 2)), (V.int .i64 (gi r93 3))])
def impl_ownItems_l3 : Nat → List V → Int → Int → List V → Option (List V)
  | 0, _, _, _, _ => none
  | k_ + 1, v6, v7, v8, r0 =>
    bif (decide (v8 < v7)) then
      bif (idxOk v8 v6.length) then
        Option.bind (impl_Cmd_own (V.agg [(V.int .i64 (gi (rd v6 v8.toNat) 1)), (V.int .i64 (gi (rd v6 v8.toNat) 2)), (V.int .i64 (gi (rd v6 v8.toNat) 3)), (V.inl t_byte (gl (rd v6 v8.toNat) 4)), (V.inl t_byte (gl (rd v6 v8.toNat) 5)), (V.int .i64 (gi (rd v6 v8.toNat) 6))])) fun r94 =>
        bif ((roomy (r0.length + 1) 88) && true) then
          impl_ownItems_l3 k_ v6 v7 (IntKind.i64.wrap (v8 + 1)) (r0 ++ [(V.agg [(V.int .i64 (gi (rd v6 v8.toNat) 0)), (V.int .i64 (gi r94 0)), (V.int .i64 (gi r94 1)), (V.int .i64 (gi r94 2)), (V.inl t_byte (gl r94 3)), (V.inl t_byte (gl r94 4)), (V.int .i64 (gi r94 5))])])
        else none
      else none
    else some r0
def impl_ownItems (list : List V) : Option (List V) :=
  Option.bind (impl_ownItems_l3 ((((list.length : Nat) : Int) - 0).toNat + 1) list ((list.length : Nat) : Int) 0 []) fun r95 =>
  some r95
def slices_Clone_bool (s : List V) : Option (List V) :=
  bif ((roomy (0 + s.length) 1) && true) then
    some s
  else none
def slices_Clone_int (s : List V) : Option (List V) :=
  bif ((roomy (0 + s.length) 8) && true) then
    some s
  else none
def impl_Node_own (n : V) : Option (V) :=
  Option.bind (impl_ownItems (gl n 3)) fun r96 =>
  Option.bind (slices_Clone_bool (gl n 8)) fun r97 =>
  Option.bind (slices_Clone_int (gl n 9)) fun r98 =>
  Option.bind (slices_Clone_int (gl n 10)) fun r99 =>
  some (V.agg [(V.int .i64 (gi n 0)), (V.int .i64 (gi n 1)), (V.int .i64 (gi n 2)), (V.inl t_impl_Item r96), (V.int .i64 (gi n 4)), (V.int .i64 (gi n 5)), (V.int .i64 (gi n 6)), (V.int .i64 (gi n 7)), (V.inl t_bool r97), (V.inl t_int' r98), (V.inl t_int' r99)])
def impl_Node_termAt (n : V) (place : Int) : Option (Int) :=
  bif (!(impl_within place 1 (((gl n 3).length : Nat) : Int))) then
    some 0
  else bif (idxOk (IntKind.i64.wrap (place - 1)) ((gl n 3).length)) then
    some (gi (rd (gl n 3) ((IntKind.i64.wrap (place - 1)).toNat)) 0)
  else none
def impl_Node_most (n : V) (count : Int) : Bool :=
  (decide ((((gl n 8).length : Nat) : Int) < (IntKind.i64.wrap (2 * count))))
def impl_server_advance_l6 : Nat → Int → Int → Int → Int → V → List V → List V → List V → List V → List V → Option (Int × Int × V × List V × List V × List V × List V × List V)
  | 0, _, _, _, _, _, _, _, _, _, _ => none
  | k_ + 1, place2, count3, v61, v62, b0, r1, r2, r3, r4, r5 =>
    bif (decide (v62 < v61)) then
      bif (idxOk v62 r1.length) then
        bif (decide (place2 ≤ (gi (rd r1 (0 + v62.toNat)) 0))) then
          impl_server_advance_l6 k_ place2 (IntKind.i64.wrap (count3 + 1)) v61 (IntKind.i64.wrap (v62 + 1)) (V.agg [(V.int .i64 (gi b0 0)), (V.int .i64 (gi b0 1)), (V.int .i64 (gi b0 2)), (V.sl 2 t_impl_Item 0 none), (V.int .i64 (gi b0 4)), (V.int .i64 (gi b0 5)), (V.int .i64 (gi b0 6)), (V.int .i64 (gi b0 7)), (V.sl 3 t_bool 0 none), (V.sl 4 t_int' 0 none), (V.sl 1 t_int' 0 none), (V.sl 5 t_impl_Msg 0 none)]) r1 r2 r3 r4 r5
        else impl_server_advance_l6 k_ place2 count3 v61 (IntKind.i64.wrap (v62 + 1)) (V.agg [(V.int .i64 (gi b0 0)), (V.int .i64 (gi b0 1)), (V.int .i64 (gi b0 2)), (V.sl 2 t_impl_Item 0 none), (V.int .i64 (gi b0 4)), (V.int .i64 (gi b0 5)), (V.int .i64 (gi b0 6)), (V.int .i64 (gi b0 7)), (V.sl 3 t_bool 0 none), (V.sl 4 t_int' 0 none), (V.sl 1 t_int' 0 none), (V.sl 5 t_impl_Msg 0 none)]) r1 r2 r3 r4 r5
      else none
    else some (place2, count3, (V.agg [(V.int .i64 (gi b0 0)), (V.int .i64 (gi b0 1)), (V.int .i64 (gi b0 2)), (V.sl 1 t_impl_Item 0 none), (V.int .i64 (gi b0 4)), (V.int .i64 (gi b0 5)), (V.int .i64 (gi b0 6)), (V.int .i64 (gi b0 7)), (V.sl 2 t_bool 0 none), (V.sl 3 t_int' 0 none), (V.sl 4 t_int' 0 none), (V.sl 5 t_impl_Msg 0 none)]), r2, r3, r4, r1, r5)
def impl_server_advance_l2 : Nat → Int → V → List V → List V → List V → List V → List V → Option (Nat × V × List V × List V × List V × List V × List V)
  | 0, _, _, _, _, _, _, _ => none
  | k_ + 1, place2, b0, r1, r2, r3, r4, r5 =>
    bif (decide ((gi b0 4) < place2)) then
      Option.bind (impl_server_advance_l6 ((((r4.length : Nat) : Int) - 0).toNat + 1) place2 0 ((r4.length : Nat) : Int) 0 (V.agg [(V.int .i64 (gi b0 0)), (V.int .i64 (gi b0 1)), (V.int .i64 (gi b0 2)), (V.sl 2 t_impl_Item 0 none), (V.int .i64 (gi b0 4)), (V.int .i64 (gi b0 5)), (V.int .i64 (gi b0 6)), (V.int .i64 (gi b0 7)), (V.sl 3 t_bool 0 none), (V.sl 4 t_int' 0 none), (V.sl 1 t_int' 0 none), (V.sl 5 t_impl_Msg 0 none)]) r4 r1 r2 r3 r5) fun r102 =>
      Option.bind (impl_Node_termAt (V.agg [(V.int .i64 (gi r102.2.2.1 0)), (V.int .i64 (gi r102.2.2.1 1)), (V.int .i64 (gi r102.2.2.1 2)), (V.inl t_impl_Item r102.2.2.2.1), (V.int .i64 (gi r102.2.2.1 4)), (V.int .i64 (gi r102.2.2.1 5)), (V.int .i64 (gi r102.2.2.1 6)), (V.int .i64 (gi r102.2.2.1 7)), (V.inl t_bool r102.2.2.2.2.1), (V.inl t_int' r102.2.2.2.2.2.1), (V.inl t_int' r102.2.2.2.2.2.2.1)]) r102.1) fun r103 =>
      bif (decide (r103 = (gi r102.2.2.1 1))) then
        bif impl_Node_most (V.agg [(V.int .i64 (gi r102.2.2.1 0)), (V.int .i64 (gi r102.2.2.1 1)), (V.int .i64 (gi r102.2.2.1 2)), (V.inl t_impl_Item r102.2.2.2.1), (V.int .i64 (gi r102.2.2.1 4)), (V.int .i64 (gi r102.2.2.1 5)), (V.int .i64 (gi r102.2.2.1 6)), (V.int .i64 (gi r102.2.2.1 7)), (V.inl t_bool r102.2.2.2.2.1), (V.inl t_int' r102.2.2.2.2.2.1), (V.inl t_int' r102.2.2.2.2.2.2.1)]) r102.2.1 then
          some (0, (V.agg [(V.int .i64 (gi r102.2.2.1 0)), (V.int .i64 (gi r102.2.2.1 1)), (V.int .i64 (gi r102.2.2.1 2)), (V.sl 1 t_impl_Item 0 none), (V.int .i64 r102.1), (V.int .i64 (gi r102.2.2.1 5)), (V.int .i64 (gi r102.2.2.1 6)), (V.int .i64 (gi r102.2.2.1 7)), (V.sl 2 t_bool 0 none), (V.sl 3 t_int' 0 none), (V.sl 4 t_int' 0 none), (V.sl 5 t_impl_Msg 0 none)]), r102.2.2.2.1, r102.2.2.2.2.1, r102.2.2.2.2.2.1, r102.2.2.2.2.2.2.1, r102.2.2.2.2.2.2.2)
        else impl_server_advance_l2 k_ (IntKind.i64.wrap (r102.1 - 1)) (V.agg [(V.int .i64 (gi r102.2.2.1 0)), (V.int .i64 (gi r102.2.2.1 1)), (V.int .i64 (gi r102.2.2.1 2)), (V.sl 1 t_impl_Item 0 none), (V.int .i64 (gi r102.2.2.1 4)), (V.int .i64 (gi r102.2.2.1 5)), (V.int .i64 (gi r102.2.2.1 6)), (V.int .i64 (gi r102.2.2.1 7)), (V.sl 2 t_bool 0 none), (V.sl 3 t_int' 0 none), (V.sl 4 t_int' 0 none), (V.sl 5 t_impl_Msg 0 none)]) r102.2.2.2.1 r102.2.2.2.2.1 r102.2.2.2.2.2.1 r102.2.2.2.2.2.2.1 r102.2.2.2.2.2.2.2
      else impl_server_advance_l2 k_ (IntKind.i64.wrap (r102.1 - 1)) (V.agg [(V.int .i64 (gi r102.2.2.1 0)), (V.int .i64 (gi r102.2.2.1 1)), (V.int .i64 (gi r102.2.2.1 2)), (V.sl 1 t_impl_Item 0 none), (V.int .i64 (gi r102.2.2.1 4)), (V.int .i64 (gi r102.2.2.1 5)), (V.int .i64 (gi r102.2.2.1 6)), (V.int .i64 (gi r102.2.2.1 7)), (V.sl 2 t_bool 0 none), (V.sl 3 t_int' 0 none), (V.sl 4 t_int' 0 none), (V.sl 5 t_impl_Msg 0 none)]) r102.2.2.2.1 r102.2.2.2.2.1 r102.2.2.2.2.2.1 r102.2.2.2.2.2.2.1 r102.2.2.2.2.2.2.2
    else some (1, (V.agg [(V.int .i64 (gi b0 0)), (V.int .i64 (gi b0 1)), (V.int .i64 (gi b0 2)), (V.sl 1 t_impl_Item 0 none), (V.int .i64 (gi b0 4)), (V.int .i64 (gi b0 5)), (V.int .i64 (gi b0 6)), (V.int .i64 (gi b0 7)), (V.sl 2 t_bool 0 none), (V.sl 3 t_int' 0 none), (V.sl 4 t_int' 0 none), (V.sl 5 t_impl_Msg 0 none)]), r1, r2, r3, r4, r5)
def impl_server_advance (s : V) : Option (V) :=
  bif (idxOk (gi s 0) ((gl s 10).length)) then
    bif (idxOk (gi s 0) ((gl s 9).length)) then
      Option.bind (impl_server_advance_l2 (((((gl s 3).length : Nat) : Int) - (gi (V.agg [(V.int .i64 (gi s 0)), (V.int .i64 (gi s 1)), (V.int .i64 (gi s 2)), (V.sl 1 t_impl_Item 0 none), (V.int .i64 (gi s 4)), (V.int .i64 (gi s 5)), (V.int .i64 (gi s 6)), (V.int .i64 (gi s 7)), (V.sl 2 t_bool 0 none), (V.sl 3 t_int' 0 none), (V.sl 4 t_int' 0 none), (V.sl 5 t_impl_Msg 0 none)]) 4)).toNat + 1) (((gl s 3).length : Nat) : Int) (V.agg [(V.int .i64 (gi s 0)), (V.int .i64 (gi s 1)), (V.int .i64 (gi s 2)), (V.sl 1 t_impl_Item 0 none), (V.int .i64 (gi s 4)), (V.int .i64 (gi s 5)), (V.int .i64 (gi s 6)), (V.int .i64 (gi s 7)), (V.sl 2 t_bool 0 none), (V.sl 3 t_int' 0 none), (V.sl 4 t_int' 0 none), (V.sl 5 t_impl_Msg 0 none)]) (gl s 3) (gl s 8) ((gl s 9).set (0 + ((gi s 0).toNat)) (V.int .i64 (IntKind.i64.wrap ((((gl s 3).length : Nat) : Int) + 1)))) ((gl s 10).set (0 + ((gi s 0).toNat)) (V.int .i64 (((gl s 3).length : Nat) : Int))) (gl s 11)) fun r104 =>
      bif (Nat.beq r104.1 0) then
        some (V.agg [(V.int .i64 (gi r104.2.1 0)), (V.int .i64 (gi r104.2.1 1)), (V.int .i64 (gi r104.2.1 2)), (V.inl t_impl_Item r104.2.2.1), (V.int .i64 (gi r104.2.1 4)), (V.int .i64 (gi r104.2.1 5)), (V.int .i64 (gi r104.2.1 6)), (V.int .i64 (gi r104.2.1 7)), (V.inl t_bool r104.2.2.2.1), (V.inl t_int' r104.2.2.2.2.1), (V.inl t_int' r104.2.2.2.2.2.1), (V.inl t_impl_Msg r104.2.2.2.2.2.2)])
      else some (V.agg [(V.int .i64 (gi r104.2.1 0)), (V.int .i64 (gi r104.2.1 1)), (V.int .i64 (gi r104.2.1 2)), (V.inl t_impl_Item r104.2.2.1), (V.int .i64 (gi r104.2.1 4)), (V.int .i64 (gi r104.2.1 5)), (V.int .i64 (gi r104.2.1 6)), (V.int .i64 (gi r104.2.1 7)), (V.inl t_bool r104.2.2.2.1), (V.inl t_int' r104.2.2.2.2.1), (V.inl t_int' r104.2.2.2.2.2.1), (V.inl t_impl_Msg r104.2.2.2.2.2.2)])
    else none
  else none
def impl_Node_others_l3 : Nat → Int → Int → V → List V → Option (List V)
  | 0, _, _, _, _ => none
  | k_ + 1, v7, v8, b0, r1 =>
    bif (decide (v8 < v7)) then
      bif (!(decide (v8 = (gi b0 0)))) then
        bif ((roomy (r1.length + 1) 8) && true) then
          impl_Node_others_l3 k_ v7 (IntKind.i64.wrap (v8 + 1)) (n_impl_Node b0) (r1 ++ [(V.int .i64 v8)])
        else none
      else impl_Node_others_l3 k_ v7 (IntKind.i64.wrap (v8 + 1)) (n_impl_Node b0) r1
    else some r1
def impl_Node_others (n : V) : Option (List V) :=
  Option.bind (impl_Node_others_l3 (((((gl n 8).length : Nat) : Int) - 0).toNat + 1) (((gl n 8).length : Nat) : Int) 0 (n_impl_Node n) []) fun r106 =>
  some r106
def impl_Node_entries (n : V) (to : Int) : Option (V) :=
  bif (idxOk to ((gl n 9).length)) then
    bif ((decide ((0 : Int) ≤ (mnI (((gl n 3).length : Nat) : Int) (IntKind.i64.wrap ((IntKind.i64.wrap ((gi (rd (gl n 9) to.toNat) 0) - 1)) + 4))))) && (decide ((mnI (((gl n 3).length : Nat) : Int) (IntKind.i64.wrap ((IntKind.i64.wrap ((gi (rd (gl n 9) to.toNat) 0) - 1)) + 4))) ≤ (((gl n 3).length : Nat) : Int)))) then
      bif ((decide ((0 : Int) ≤ (IntKind.i64.wrap ((gi (rd (gl n 9) to.toNat) 0) - 1)))) && (decide ((IntKind.i64.wrap ((gi (rd (gl n 9) to.toNat) 0) - 1)) ≤ (((mnI (((gl n 3).length : Nat) : Int) (IntKind.i64.wrap ((IntKind.i64.wrap ((gi (rd (gl n 9) to.toNat) 0) - 1)) + 4))).toNat : Nat) : Int)))) then
        Option.bind (impl_Node_termAt (n_impl_Node n) (IntKind.i64.wrap ((gi (rd (gl n 9) to.toNat) 0) - 1))) fun r108 =>
        Option.bind (impl_ownItems (((gl n 3).drop ((IntKind.i64.wrap ((gi (rd (gl n 9) to.toNat) 0) - 1)).toNat)).take (((mnI (((gl n 3).length : Nat) : Int) (IntKind.i64.wrap ((IntKind.i64.wrap ((gi (rd (gl n 9) to.toNat) 0) - 1)) + 4))).toNat) - ((IntKind.i64.wrap ((gi (rd (gl n 9) to.toNat) 0) - 1)).toNat)))) fun r109 =>
        some (V.agg [(V.int .i64 2), (V.int .i64 (gi n 0)), (V.int .i64 to), (V.int .i64 (gi n 1)), (V.int .i64 (IntKind.i64.wrap ((gi (rd (gl n 9) to.toNat) 0) - 1))), (V.int .i64 r108), (V.inl t_impl_Item r109), (V.int .i64 (gi n 4)), (V.bool false)])
      else none
    else none
  else none
def impl_server_send (s : V) (to : Int) : Option (V) :=
  Option.bind (impl_Node_entries (n_impl_Node s) to) fun r110 =>
  bif ((roomy (((gl s 11).length) + 1) 88) && true) then
    some (V.agg [(V.int .i64 (gi s 0)), (V.int .i64 (gi s 1)), (V.int .i64 (gi s 2)), (V.inl t_impl_Item (gl s 3)), (V.int .i64 (gi s 4)), (V.int .i64 (gi s 5)), (V.int .i64 (gi s 6)), (V.int .i64 (gi s 7)), (V.inl t_bool (gl s 8)), (V.inl t_int' (gl s 9)), (V.inl t_int' (gl s 10)), (V.inl t_impl_Msg ((gl s 11) ++ [(n_impl_Msg r110)]))])
  else none
def impl_server_sendAll_l1 : Nat → Int → Int → V → List V → List V → List V → List V → List V → List V → Option (V × List V × List V × List V × List V × List V)
  | 0, _, _, _, _, _, _, _, _, _ => none
  | k_ + 1, v9, v10, b0, r1, r2, r3, r4, r5, r6 =>
    bif (decide (v10 < v9)) then
      bif (idxOk v10 r1.length) then
        Option.bind (impl_server_send (V.agg [(V.int .i64 (gi b0 0)), (V.int .i64 (gi b0 1)), (V.int .i64 (gi b0 2)), (V.inl t_impl_Item r2), (V.int .i64 (gi b0 4)), (V.int .i64 (gi b0 5)), (V.int .i64 (gi b0 6)), (V.int .i64 (gi b0 7)), (V.inl t_bool r3), (V.inl t_int' r4), (V.inl t_int' r5), (V.inl t_impl_Msg r6)]) (gi (rd r1 (0 + v10.toNat)) 0)) fun r111 =>
        impl_server_sendAll_l1 k_ v9 (IntKind.i64.wrap (v10 + 1)) (V.agg [(V.int .i64 (gi r111 0)), (V.int .i64 (gi r111 1)), (V.int .i64 (gi r111 2)), (V.sl 2 t_impl_Item 0 none), (V.int .i64 (gi r111 4)), (V.int .i64 (gi r111 5)), (V.int .i64 (gi r111 6)), (V.int .i64 (gi r111 7)), (V.sl 3 t_bool 0 none), (V.sl 4 t_int' 0 none), (V.sl 5 t_int' 0 none), (V.sl 6 t_impl_Msg 0 none)]) r1 (gl r111 3) (gl r111 8) (gl r111 9) (gl r111 10) (gl r111 11)
      else none
    else some ((V.agg [(V.int .i64 (gi b0 0)), (V.int .i64 (gi b0 1)), (V.int .i64 (gi b0 2)), (V.sl 1 t_impl_Item 0 none), (V.int .i64 (gi b0 4)), (V.int .i64 (gi b0 5)), (V.int .i64 (gi b0 6)), (V.int .i64 (gi b0 7)), (V.sl 2 t_bool 0 none), (V.sl 3 t_int' 0 none), (V.sl 4 t_int' 0 none), (V.sl 5 t_impl_Msg 0 none)]), r2, r3, r4, r5, r6)
def impl_server_sendAll (s : V) : Option (V) :=
  Option.bind (impl_Node_others (n_impl_Node s)) fun r107 =>
  Option.bind (impl_server_sendAll_l1 ((((r107.length : Nat) : Int) - 0).toNat + 1) ((r107.length : Nat) : Int) 0 (V.agg [(V.int .i64 (gi s 0)), (V.int .i64 (gi s 1)), (V.int .i64 (gi s 2)), (V.sl 2 t_impl_Item 0 none), (V.int .i64 (gi s 4)), (V.int .i64 (gi s 5)), (V.int .i64 (gi s 6)), (V.int .i64 (gi s 7)), (V.sl 3 t_bool 0 none), (V.sl 4 t_int' 0 none), (V.sl 5 t_int' 0 none), (V.sl 6 t_impl_Msg 0 none)]) r107 (gl s 3) (gl s 8) (gl s 9) (gl s 10) (gl s 11)) fun r112 =>
  some (V.agg [(V.int .i64 (gi r112.1 0)), (V.int .i64 (gi r112.1 1)), (V.int .i64 (gi r112.1 2)), (V.inl t_impl_Item r112.2.1), (V.int .i64 (gi r112.1 4)), (V.int .i64 (gi r112.1 5)), (V.int .i64 (gi r112.1 6)), (V.int .i64 (gi r112.1 7)), (V.inl t_bool r112.2.2.1), (V.inl t_int' r112.2.2.2.1), (V.inl t_int' r112.2.2.2.2.1), (V.inl t_impl_Msg r112.2.2.2.2.2)])
def impl_server_propose (s : V) (c : V) : Option (Bool × V) :=
  bif (!(decide ((gi s 5) = 2))) then
    some (false, (n_impl_server s))
  else bif (decide ((200 : Int) ≤ (((gl s 3).length : Nat) : Int))) then
    some (false, (n_impl_server s))
  else Option.bind (impl_Cmd_own (n_laws_Cmd c)) fun r101 =>
  bif ((roomy (((gl s 3).length) + 1) 88) && true) then
    Option.bind (impl_server_advance (V.agg [(V.int .i64 (gi s 0)), (V.int .i64 (gi s 1)), (V.int .i64 (gi s 2)), (V.inl t_impl_Item ((gl s 3) ++ [(V.agg [(V.int .i64 (gi s 1)), (V.int .i64 (gi r101 0)), (V.int .i64 (gi r101 1)), (V.int .i64 (gi r101 2)), (V.inl t_byte (gl r101 3)), (V.inl t_byte (gl r101 4)), (V.int .i64 (gi r101 5))])])), (V.int .i64 (gi s 4)), (V.int .i64 (gi s 5)), (V.int .i64 (gi s 6)), (V.int .i64 (gi s 7)), (V.inl t_bool (gl s 8)), (V.inl t_int' (gl s 9)), (V.inl t_int' (gl s 10)), (V.inl t_impl_Msg (gl s 11))])) fun r105 =>
    Option.bind (impl_server_sendAll (n_impl_server r105)) fun r113 =>
    some (true, (n_impl_server r113))
  else none
def impl_Propose (n : V) (servers : Int) (c : V) : Option (V × List V × Bool) :=
  Option.bind (impl_NodeOk (n_impl_Node n) servers) fun r89 =>
  bif (!r89) then
    some ((V.agg [(V.int .i64 0), (V.int .i64 0), (V.int .i64 0), (V.inl t_impl_Item []), (V.int .i64 0), (V.int .i64 0), (V.int .i64 0), (V.int .i64 0), (V.inl t_bool []), (V.inl t_int' []), (V.inl t_int' [])]), [], false)
  else Option.bind (impl_CmdOk (n_laws_Cmd c)) fun r90 =>
  bif (!r90) then
    some ((V.agg [(V.int .i64 0), (V.int .i64 0), (V.int .i64 0), (V.inl t_impl_Item []), (V.int .i64 0), (V.int .i64 0), (V.int .i64 0), (V.int .i64 0), (V.inl t_bool []), (V.inl t_int' []), (V.inl t_int' [])]), [], false)
  else Option.bind (impl_Node_own (n_impl_Node n)) fun r100 =>
  Option.bind (impl_server_propose (V.agg [(V.int .i64 (gi r100 0)), (V.int .i64 (gi r100 1)), (V.int .i64 (gi r100 2)), (V.inl t_impl_Item (gl r100 3)), (V.int .i64 (gi r100 4)), (V.int .i64 (gi r100 5)), (V.int .i64 (gi r100 6)), (V.int .i64 (gi r100 7)), (V.inl t_bool (gl r100 8)), (V.inl t_int' (gl r100 9)), (V.inl t_int' (gl r100 10)), (V.inl t_impl_Msg [])]) (n_laws_Cmd c)) fun r114 =>
  some ((n_impl_Node r114.2), (gl r114.2 11), r114.1)
def laws_eqByteS_l4 : Nat → List V → List V → Int → Option (Nat × Bool)
  | 0, _, _, _ => none
  | k_ + 1, a0, b1, i5 =>
    bif (decide (i5 < ((a0.length : Nat) : Int))) then
      bif (idxOk i5 a0.length) then
        bif (idxOk i5 b1.length) then
          bif (!(decide ((gi (rd a0 i5.toNat) 0) = (gi (rd b1 i5.toNat) 0)))) then
            some (0, false)
          else laws_eqByteS_l4 k_ a0 b1 (IntKind.i64.wrap (i5 + 1))
        else none
      else none
    else some (1, false)
def laws_eqByteS (a : List V) (b : List V) : Option (Bool) :=
  bif (!(decide (((a.length : Nat) : Int) = ((b.length : Nat) : Int)))) then
    some false
  else Option.bind (laws_eqByteS_l4 ((((a.length : Nat) : Int) - 0).toNat + 1) a b 0) fun r116 =>
  bif (Nat.beq r116.1 0) then
    some r116.2
  else some true
def laws_eqOp (a : V) (b : V) : Option (Bool) :=
  bif (!(decide ((gi a 0) = (gi b 0)))) then
    some false
  else Option.bind (laws_eqByteS (gl a 1) (gl b 1)) fun r117 =>
  bif (!r117) then
    some false
  else Option.bind (laws_eqByteS (gl a 2) (gl b 2)) fun r118 =>
  bif (!r118) then
    some false
  else bif (!(decide ((gi a 3) = (gi b 3)))) then
    some false
  else some true
def laws_eqCmd (a : V) (b : V) : Option (Bool) :=
  bif (!(decide ((gi a 0) = (gi b 0)))) then
    some false
  else bif (!(decide ((gi a 1) = (gi b 1)))) then
    some false
  else Option.bind (laws_eqOp (V.agg [(V.int .i64 (gi a 2)), (V.inl t_byte (gl a 3)), (V.inl t_byte (gl a 4)), (V.int .i64 (gi a 5))]) (V.agg [(V.int .i64 (gi b 2)), (V.inl t_byte (gl b 3)), (V.inl t_byte (gl b 4)), (V.int .i64 (gi b 5))])) fun r119 =>
  bif (!r119) then
    some false
  else some true
def laws_eqItem (a : V) (b : V) : Option (Bool) :=
  bif (!(decide ((gi a 0) = (gi b 0)))) then
    some false
  else Option.bind (laws_eqCmd (V.agg [(V.int .i64 (gi a 1)), (V.int .i64 (gi a 2)), (V.int .i64 (gi a 3)), (V.inl t_byte (gl a 4)), (V.inl t_byte (gl a 5)), (V.int .i64 (gi a 6))]) (V.agg [(V.int .i64 (gi b 1)), (V.int .i64 (gi b 2)), (V.int .i64 (gi b 3)), (V.inl t_byte (gl b 4)), (V.inl t_byte (gl b 5)), (V.int .i64 (gi b 6))])) fun r120 =>
  bif (!r120) then
    some false
  else some true
def laws_eqItemS_l4 : Nat → List V → List V → Int → Option (Nat × Bool)
  | 0, _, _, _ => none
  | k_ + 1, a0, b1, i5 =>
    bif (decide (i5 < ((a0.length : Nat) : Int))) then
      bif (idxOk i5 a0.length) then
        bif (idxOk i5 b1.length) then
          Option.bind (laws_eqItem (n_impl_Item (rd a0 i5.toNat)) (n_impl_Item (rd b1 i5.toNat))) fun r121 =>
          bif (!r121) then
            some (0, false)
          else laws_eqItemS_l4 k_ a0 b1 (IntKind.i64.wrap (i5 + 1))
        else none
      else none
    else some (1, false)
def laws_eqItemS (a : List V) (b : List V) : Option (Bool) :=
  bif (!(decide (((a.length : Nat) : Int) = ((b.length : Nat) : Int)))) then
    some false
  else Option.bind (laws_eqItemS_l4 ((((a.length : Nat) : Int) - 0).toNat + 1) a b 0) fun r122 =>
  bif (Nat.beq r122.1 0) then
    some r122.2
  else some true
def laws_eqBoolS_l4 : Nat → List V → List V → Int → Option (Nat × Bool)
  | 0, _, _, _ => none
  | k_ + 1, a0, b1, i5 =>
    bif (decide (i5 < ((a0.length : Nat) : Int))) then
      bif (idxOk i5 a0.length) then
        bif (idxOk i5 b1.length) then
          bif (!((gb (rd a0 i5.toNat) 0) == (gb (rd b1 i5.toNat) 0))) then
            some (0, false)
          else laws_eqBoolS_l4 k_ a0 b1 (IntKind.i64.wrap (i5 + 1))
        else none
      else none
    else some (1, false)
def laws_eqBoolS (a : List V) (b : List V) : Option (Bool) :=
  bif (!(decide (((a.length : Nat) : Int) = ((b.length : Nat) : Int)))) then
    some false
  else Option.bind (laws_eqBoolS_l4 ((((a.length : Nat) : Int) - 0).toNat + 1) a b 0) fun r124 =>
  bif (Nat.beq r124.1 0) then
    some r124.2
  else some true
def laws_eqIntS_l4 : Nat → List V → List V → Int → Option (Nat × Bool)
  | 0, _, _, _ => none
  | k_ + 1, a0, b1, i5 =>
    bif (decide (i5 < ((a0.length : Nat) : Int))) then
      bif (idxOk i5 a0.length) then
        bif (idxOk i5 b1.length) then
          bif (!(decide ((gi (rd a0 i5.toNat) 0) = (gi (rd b1 i5.toNat) 0)))) then
            some (0, false)
          else laws_eqIntS_l4 k_ a0 b1 (IntKind.i64.wrap (i5 + 1))
        else none
      else none
    else some (1, false)
def laws_eqIntS (a : List V) (b : List V) : Option (Bool) :=
  bif (!(decide (((a.length : Nat) : Int) = ((b.length : Nat) : Int)))) then
    some false
  else Option.bind (laws_eqIntS_l4 ((((a.length : Nat) : Int) - 0).toNat + 1) a b 0) fun r126 =>
  bif (Nat.beq r126.1 0) then
    some r126.2
  else some true
def laws_eqNode (a : V) (b : V) : Option (Bool) :=
  bif (!(decide ((gi a 0) = (gi b 0)))) then
    some false
  else bif (!(decide ((gi a 1) = (gi b 1)))) then
    some false
  else bif (!(decide ((gi a 2) = (gi b 2)))) then
    some false
  else Option.bind (laws_eqItemS (gl a 3) (gl b 3)) fun r123 =>
  bif (!r123) then
    some false
  else bif (!(decide ((gi a 4) = (gi b 4)))) then
    some false
  else bif (!(decide ((gi a 5) = (gi b 5)))) then
    some false
  else bif (!(decide ((gi a 6) = (gi b 6)))) then
    some false
  else bif (!(decide ((gi a 7) = (gi b 7)))) then
    some false
  else Option.bind (laws_eqBoolS (gl a 8) (gl b 8)) fun r125 =>
  bif (!r125) then
    some false
  else Option.bind (laws_eqIntS (gl a 9) (gl b 9)) fun r127 =>
  bif (!r127) then
    some false
  else Option.bind (laws_eqIntS (gl a 10) (gl b 10)) fun r128 =>
  bif (!r128) then
    some false
  else some true
def laws_eqMsg (a : V) (b : V) : Option (Bool) :=
  bif (!(decide ((gi a 0) = (gi b 0)))) then
    some false
  else bif (!(decide ((gi a 1) = (gi b 1)))) then
    some false
  else bif (!(decide ((gi a 2) = (gi b 2)))) then
    some false
  else bif (!(decide ((gi a 3) = (gi b 3)))) then
    some false
  else bif (!(decide ((gi a 4) = (gi b 4)))) then
    some false
  else bif (!(decide ((gi a 5) = (gi b 5)))) then
    some false
  else Option.bind (laws_eqItemS (gl a 6) (gl b 6)) fun r130 =>
  bif (!r130) then
    some false
  else bif (!(decide ((gi a 7) = (gi b 7)))) then
    some false
  else bif (!((gb a 8) == (gb b 8))) then
    some false
  else some true
def laws_eqMsgS_l4 : Nat → List V → List V → Int → Option (Nat × Bool)
  | 0, _, _, _ => none
  | k_ + 1, a0, b1, i5 =>
    bif (decide (i5 < ((a0.length : Nat) : Int))) then
      bif (idxOk i5 a0.length) then
        bif (idxOk i5 b1.length) then
          Option.bind (laws_eqMsg (n_impl_Msg (rd a0 i5.toNat)) (n_impl_Msg (rd b1 i5.toNat))) fun r131 =>
          bif (!r131) then
            some (0, false)
          else laws_eqMsgS_l4 k_ a0 b1 (IntKind.i64.wrap (i5 + 1))
        else none
      else none
    else some (1, false)
def laws_eqMsgS (a : List V) (b : List V) : Option (Bool) :=
  bif (!(decide (((a.length : Nat) : Int) = ((b.length : Nat) : Int)))) then
    some false
  else Option.bind (laws_eqMsgS_l4 ((((a.length : Nat) : Int) - 0).toNat + 1) a b 0) fun r132 =>
  bif (Nat.beq r132.1 0) then
    some r132.2
  else some true
def laws_markByteS_l2 : Nat → Int → Int → List V → Option (Int × List V)
  | 0, _, _, _ => none
  | k_ + 1, k1, i5, r0 =>
    bif (decide (i5 < ((r0.length : Nat) : Int))) then
      bif (idxOk i5 r0.length) then
        laws_markByteS_l2 k_ (IntKind.i64.wrap (k1 + 1)) (IntKind.i64.wrap (i5 + 1)) (r0.set (0 + i5.toNat) (V.int .u8 (IntKind.u8.wrap k1)))
      else none
    else some (k1, r0)
def laws_markByteS (a : List V) (k : Int) : Option (Int × List V) :=
  Option.bind (laws_markByteS_l2 ((((a.length : Nat) : Int) - 0).toNat + 1) k 0 a) fun r142 =>
  some (r142.1, r142.2)
def laws_markItemS_l2 : Nat → Int → Int → List V → Option (Int × List V)
  | 0, _, _, _ => none
  | k_ + 1, k1, i5, r0 =>
    bif (decide (i5 < ((r0.length : Nat) : Int))) then
      bif (idxOk i5 r0.length) then
        rlet ((r0.set (0 + i5.toNat) (V.agg [(V.int .i64 k1), (V.int .i64 (gi (rd r0 (0 + i5.toNat)) 1)), (V.int .i64 (gi (rd r0 (0 + i5.toNat)) 2)), (V.int .i64 (gi (rd r0 (0 + i5.toNat)) 3)), (V.inl t_byte (gl (rd r0 (0 + i5.toNat)) 4)), (V.inl t_byte (gl (rd r0 (0 + i5.toNat)) 5)), (V.int .i64 (gi (rd r0 (0 + i5.toNat)) 6))]))) fun u138 =>
        bif (idxOk i5 u138.length) then
          rlet ((u138.set (0 + i5.toNat) (V.agg [(V.int .i64 (gi (rd u138 (0 + i5.toNat)) 0)), (V.int .i64 (IntKind.i64.wrap (k1 + 1))), (V.int .i64 (gi (rd u138 (0 + i5.toNat)) 2)), (V.int .i64 (gi (rd u138 (0 + i5.toNat)) 3)), (V.inl t_byte (gl (rd u138 (0 + i5.toNat)) 4)), (V.inl t_byte (gl (rd u138 (0 + i5.toNat)) 5)), (V.int .i64 (gi (rd u138 (0 + i5.toNat)) 6))]))) fun u139 =>
          bif (idxOk i5 u139.length) then
            rlet ((u139.set (0 + i5.toNat) (V.agg [(V.int .i64 (gi (rd u139 (0 + i5.toNat)) 0)), (V.int .i64 (gi (rd u139 (0 + i5.toNat)) 1)), (V.int .i64 (IntKind.i64.wrap ((IntKind.i64.wrap (k1 + 1)) + 1))), (V.int .i64 (gi (rd u139 (0 + i5.toNat)) 3)), (V.inl t_byte (gl (rd u139 (0 + i5.toNat)) 4)), (V.inl t_byte (gl (rd u139 (0 + i5.toNat)) 5)), (V.int .i64 (gi (rd u139 (0 + i5.toNat)) 6))]))) fun u140 =>
            bif (idxOk i5 u140.length) then
              rlet ((u140.set (0 + i5.toNat) (V.agg [(V.int .i64 (gi (rd u140 (0 + i5.toNat)) 0)), (V.int .i64 (gi (rd u140 (0 + i5.toNat)) 1)), (V.int .i64 (gi (rd u140 (0 + i5.toNat)) 2)), (V.int .i64 (IntKind.i64.wrap ((IntKind.i64.wrap ((IntKind.i64.wrap (k1 + 1)) + 1)) + 1))), (V.inl t_byte (gl (rd u140 (0 + i5.toNat)) 4)), (V.inl t_byte (gl (rd u140 (0 + i5.toNat)) 5)), (V.int .i64 (gi (rd u140 (0 + i5.toNat)) 6))]))) fun u141 =>
              bif (idxOk i5 u141.length) then
                Option.bind (laws_markByteS (gl (rd u141 (0 + i5.toNat)) 4) (IntKind.i64.wrap ((IntKind.i64.wrap ((IntKind.i64.wrap ((IntKind.i64.wrap (k1 + 1)) + 1)) + 1)) + 1))) fun r143 =>
                bif (idxOk i5 u141.length) then
                  rlet ((u141.set (0 + i5.toNat) (V.agg [(V.int .i64 (gi (rd u141 (0 + i5.toNat)) 0)), (V.int .i64 (gi (rd u141 (0 + i5.toNat)) 1)), (V.int .i64 (gi (rd u141 (0 + i5.toNat)) 2)), (V.int .i64 (gi (rd u141 (0 + i5.toNat)) 3)), (V.inl t_byte r143.2), (V.inl t_byte (gl (rd u141 (0 + i5.toNat)) 5)), (V.int .i64 (gi (rd u141 (0 + i5.toNat)) 6))]))) fun u144 =>
                  Option.bind (laws_markByteS (gl (rd u144 (0 + i5.toNat)) 5) r143.1) fun r145 =>
                  bif (idxOk i5 u144.length) then
                    rlet ((u144.set (0 + i5.toNat) (V.agg [(V.int .i64 (gi (rd u144 (0 + i5.toNat)) 0)), (V.int .i64 (gi (rd u144 (0 + i5.toNat)) 1)), (V.int .i64 (gi (rd u144 (0 + i5.toNat)) 2)), (V.int .i64 (gi (rd u144 (0 + i5.toNat)) 3)), (V.inl t_byte (gl (rd u144 (0 + i5.toNat)) 4)), (V.inl t_byte r145.2), (V.int .i64 (gi (rd u144 (0 + i5.toNat)) 6))]))) fun u146 =>
                    rlet ((u146.set (0 + i5.toNat) (V.agg [(V.int .i64 (gi (rd u146 (0 + i5.toNat)) 0)), (V.int .i64 (gi (rd u146 (0 + i5.toNat)) 1)), (V.int .i64 (gi (rd u146 (0 + i5.toNat)) 2)), (V.int .i64 (gi (rd u146 (0 + i5.toNat)) 3)), (V.inl t_byte (gl (rd u146 (0 + i5.toNat)) 4)), (V.inl t_byte (gl (rd u146 (0 + i5.toNat)) 5)), (V.int .i64 r145.1)]))) fun u147 =>
                    laws_markItemS_l2 k_ (IntKind.i64.wrap (r145.1 + 1)) (IntKind.i64.wrap (i5 + 1)) u147
                  else none
                else none
              else none
            else none
          else none
        else none
      else none
    else some (k1, r0)
def laws_markItemS (a : List V) (k : Int) : Option (Int × List V) :=
  Option.bind (laws_markItemS_l2 ((((a.length : Nat) : Int) - 0).toNat + 1) k 0 a) fun r148 =>
  some (r148.1, r148.2)
def laws_markBoolS_l2 : Nat → Int → Int → List V → Option (Int × List V)
  | 0, _, _, _ => none
  | k_ + 1, k1, i5, r0 =>
    bif (decide (i5 < ((r0.length : Nat) : Int))) then
      bif (idxOk i5 r0.length) then
        laws_markBoolS_l2 k_ (IntKind.i64.wrap (k1 + 1)) (IntKind.i64.wrap (i5 + 1)) (r0.set (0 + i5.toNat) (V.bool (decide ((k1.tmod 3) = 0))))
      else none
    else some (k1, r0)
def laws_markBoolS (a : List V) (k : Int) : Option (Int × List V) :=
  Option.bind (laws_markBoolS_l2 ((((a.length : Nat) : Int) - 0).toNat + 1) k 0 a) fun r150 =>
  some (r150.1, r150.2)
def laws_markIntS_l2 : Nat → Int → Int → List V → Option (Int × List V)
  | 0, _, _, _ => none
  | k_ + 1, k1, i5, r0 =>
    bif (decide (i5 < ((r0.length : Nat) : Int))) then
      bif (idxOk i5 r0.length) then
        laws_markIntS_l2 k_ (IntKind.i64.wrap (k1 + 1)) (IntKind.i64.wrap (i5 + 1)) (r0.set (0 + i5.toNat) (V.int .i64 k1))
      else none
    else some (k1, r0)
def laws_markIntS (a : List V) (k : Int) : Option (Int × List V) :=
  Option.bind (laws_markIntS_l2 ((((a.length : Nat) : Int) - 0).toNat + 1) k 0 a) fun r152 =>
  some (r152.1, r152.2)
def laws_markNode (a : V) (k : Int) : Option (Int × List V × List V × List V × List V) :=
  Option.bind (laws_markItemS (gl a 3) k) fun r149 =>
  Option.bind (laws_markBoolS (gl a 8) r149.1) fun r151 =>
  Option.bind (laws_markIntS (gl a 9) r151.1) fun r153 =>
  Option.bind (laws_markIntS (gl a 10) r153.1) fun r154 =>
  some (r154.1, r149.2, r151.2, r153.2, r154.2)
def laws_markOp (a : V) (k : Int) : Option (Int × List V × List V) :=
  Option.bind (laws_markByteS (gl a 1) k) fun r156 =>
  Option.bind (laws_markByteS (gl a 2) r156.1) fun r157 =>
  some (r157.1, r156.2, r157.2)
def laws_markCmd (a : V) (k : Int) : Option (Int × List V × List V) :=
  Option.bind (laws_markOp (V.agg [(V.int .i64 (gi a 2)), (V.inl t_byte (gl a 3)), (V.inl t_byte (gl a 4)), (V.int .i64 (gi a 5))]) k) fun r158 =>
  some (r158.1, r158.2.1, r158.2.2)
def laws_markMsgS_l2 : Nat → Int → Int → List V → Option (Int × List V)
  | 0, _, _, _ => none
  | k_ + 1, k1, i5, r0 =>
    bif (decide (i5 < ((r0.length : Nat) : Int))) then
      bif (idxOk i5 r0.length) then
        rlet ((r0.set (0 + i5.toNat) (V.agg [(V.int .i64 k1), (V.int .i64 (gi (rd r0 (0 + i5.toNat)) 1)), (V.int .i64 (gi (rd r0 (0 + i5.toNat)) 2)), (V.int .i64 (gi (rd r0 (0 + i5.toNat)) 3)), (V.int .i64 (gi (rd r0 (0 + i5.toNat)) 4)), (V.int .i64 (gi (rd r0 (0 + i5.toNat)) 5)), (V.inl t_impl_Item (gl (rd r0 (0 + i5.toNat)) 6)), (V.int .i64 (gi (rd r0 (0 + i5.toNat)) 7)), (V.bool (gb (rd r0 (0 + i5.toNat)) 8))]))) fun u163 =>
        bif (idxOk i5 u163.length) then
          rlet ((u163.set (0 + i5.toNat) (V.agg [(V.int .i64 (gi (rd u163 (0 + i5.toNat)) 0)), (V.int .i64 (IntKind.i64.wrap (k1 + 1))), (V.int .i64 (gi (rd u163 (0 + i5.toNat)) 2)), (V.int .i64 (gi (rd u163 (0 + i5.toNat)) 3)), (V.int .i64 (gi (rd u163 (0 + i5.toNat)) 4)), (V.int .i64 (gi (rd u163 (0 + i5.toNat)) 5)), (V.inl t_impl_Item (gl (rd u163 (0 + i5.toNat)) 6)), (V.int .i64 (gi (rd u163 (0 + i5.toNat)) 7)), (V.bool (gb (rd u163 (0 + i5.toNat)) 8))]))) fun u164 =>
          bif (idxOk i5 u164.length) then
            rlet ((u164.set (0 + i5.toNat) (V.agg [(V.int .i64 (gi (rd u164 (0 + i5.toNat)) 0)), (V.int .i64 (gi (rd u164 (0 + i5.toNat)) 1)), (V.int .i64 (IntKind.i64.wrap ((IntKind.i64.wrap (k1 + 1)) + 1))), (V.int .i64 (gi (rd u164 (0 + i5.toNat)) 3)), (V.int .i64 (gi (rd u164 (0 + i5.toNat)) 4)), (V.int .i64 (gi (rd u164 (0 + i5.toNat)) 5)), (V.inl t_impl_Item (gl (rd u164 (0 + i5.toNat)) 6)), (V.int .i64 (gi (rd u164 (0 + i5.toNat)) 7)), (V.bool (gb (rd u164 (0 + i5.toNat)) 8))]))) fun u165 =>
            bif (idxOk i5 u165.length) then
              rlet ((u165.set (0 + i5.toNat) (V.agg [(V.int .i64 (gi (rd u165 (0 + i5.toNat)) 0)), (V.int .i64 (gi (rd u165 (0 + i5.toNat)) 1)), (V.int .i64 (gi (rd u165 (0 + i5.toNat)) 2)), (V.int .i64 (IntKind.i64.wrap ((IntKind.i64.wrap ((IntKind.i64.wrap (k1 + 1)) + 1)) + 1))), (V.int .i64 (gi (rd u165 (0 + i5.toNat)) 4)), (V.int .i64 (gi (rd u165 (0 + i5.toNat)) 5)), (V.inl t_impl_Item (gl (rd u165 (0 + i5.toNat)) 6)), (V.int .i64 (gi (rd u165 (0 + i5.toNat)) 7)), (V.bool (gb (rd u165 (0 + i5.toNat)) 8))]))) fun u166 =>
              bif (idxOk i5 u166.length) then
                rlet ((u166.set (0 + i5.toNat) (V.agg [(V.int .i64 (gi (rd u166 (0 + i5.toNat)) 0)), (V.int .i64 (gi (rd u166 (0 + i5.toNat)) 1)), (V.int .i64 (gi (rd u166 (0 + i5.toNat)) 2)), (V.int .i64 (gi (rd u166 (0 + i5.toNat)) 3)), (V.int .i64 (IntKind.i64.wrap ((IntKind.i64.wrap ((IntKind.i64.wrap ((IntKind.i64.wrap (k1 + 1)) + 1)) + 1)) + 1))), (V.int .i64 (gi (rd u166 (0 + i5.toNat)) 5)), (V.inl t_impl_Item (gl (rd u166 (0 + i5.toNat)) 6)), (V.int .i64 (gi (rd u166 (0 + i5.toNat)) 7)), (V.bool (gb (rd u166 (0 + i5.toNat)) 8))]))) fun u167 =>
                bif (idxOk i5 u167.length) then
                  rlet ((u167.set (0 + i5.toNat) (V.agg [(V.int .i64 (gi (rd u167 (0 + i5.toNat)) 0)), (V.int .i64 (gi (rd u167 (0 + i5.toNat)) 1)), (V.int .i64 (gi (rd u167 (0 + i5.toNat)) 2)), (V.int .i64 (gi (rd u167 (0 + i5.toNat)) 3)), (V.int .i64 (gi (rd u167 (0 + i5.toNat)) 4)), (V.int .i64 (IntKind.i64.wrap ((IntKind.i64.wrap ((IntKind.i64.wrap ((IntKind.i64.wrap ((IntKind.i64.wrap (k1 + 1)) + 1)) + 1)) + 1)) + 1))), (V.inl t_impl_Item (gl (rd u167 (0 + i5.toNat)) 6)), (V.int .i64 (gi (rd u167 (0 + i5.toNat)) 7)), (V.bool (gb (rd u167 (0 + i5.toNat)) 8))]))) fun u168 =>
                  bif (idxOk i5 u168.length) then
                    Option.bind (laws_markItemS (gl (rd u168 (0 + i5.toNat)) 6) (IntKind.i64.wrap ((IntKind.i64.wrap ((IntKind.i64.wrap ((IntKind.i64.wrap ((IntKind.i64.wrap ((IntKind.i64.wrap (k1 + 1)) + 1)) + 1)) + 1)) + 1)) + 1))) fun r169 =>
                    bif (idxOk i5 u168.length) then
                      rlet ((u168.set (0 + i5.toNat) (V.agg [(V.int .i64 (gi (rd u168 (0 + i5.toNat)) 0)), (V.int .i64 (gi (rd u168 (0 + i5.toNat)) 1)), (V.int .i64 (gi (rd u168 (0 + i5.toNat)) 2)), (V.int .i64 (gi (rd u168 (0 + i5.toNat)) 3)), (V.int .i64 (gi (rd u168 (0 + i5.toNat)) 4)), (V.int .i64 (gi (rd u168 (0 + i5.toNat)) 5)), (V.inl t_impl_Item r169.2), (V.int .i64 (gi (rd u168 (0 + i5.toNat)) 7)), (V.bool (gb (rd u168 (0 + i5.toNat)) 8))]))) fun u170 =>
                      rlet ((u170.set (0 + i5.toNat) (V.agg [(V.int .i64 (gi (rd u170 (0 + i5.toNat)) 0)), (V.int .i64 (gi (rd u170 (0 + i5.toNat)) 1)), (V.int .i64 (gi (rd u170 (0 + i5.toNat)) 2)), (V.int .i64 (gi (rd u170 (0 + i5.toNat)) 3)), (V.int .i64 (gi (rd u170 (0 + i5.toNat)) 4)), (V.int .i64 (gi (rd u170 (0 + i5.toNat)) 5)), (V.inl t_impl_Item (gl (rd u170 (0 + i5.toNat)) 6)), (V.int .i64 r169.1), (V.bool (gb (rd u170 (0 + i5.toNat)) 8))]))) fun u171 =>
                      bif (idxOk i5 u171.length) then
                        rlet ((u171.set (0 + i5.toNat) (V.agg [(V.int .i64 (gi (rd u171 (0 + i5.toNat)) 0)), (V.int .i64 (gi (rd u171 (0 + i5.toNat)) 1)), (V.int .i64 (gi (rd u171 (0 + i5.toNat)) 2)), (V.int .i64 (gi (rd u171 (0 + i5.toNat)) 3)), (V.int .i64 (gi (rd u171 (0 + i5.toNat)) 4)), (V.int .i64 (gi (rd u171 (0 + i5.toNat)) 5)), (V.inl t_impl_Item (gl (rd u171 (0 + i5.toNat)) 6)), (V.int .i64 (gi (rd u171 (0 + i5.toNat)) 7)), (V.bool (decide (((IntKind.i64.wrap (r169.1 + 1)).tmod 3) = 0)))]))) fun u172 =>
                        laws_markMsgS_l2 k_ (IntKind.i64.wrap ((IntKind.i64.wrap (r169.1 + 1)) + 1)) (IntKind.i64.wrap (i5 + 1)) u172
                      else none
                    else none
                  else none
                else none
              else none
            else none
          else none
        else none
      else none
    else some (k1, r0)
def laws_markMsgS (a : List V) (k : Int) : Option (Int × List V) :=
  Option.bind (laws_markMsgS_l2 ((((a.length : Nat) : Int) - 0).toNat + 1) k 0 a) fun r173 =>
  some (r173.1, r173.2)
def laws_heldByteS_l2 : Nat → List V → Int → Int → Option (Nat × Int × Int)
  | 0, _, _, _ => none
  | k_ + 1, a0, k1, i5 =>
    bif (decide (i5 < ((a0.length : Nat) : Int))) then
      bif (idxOk i5 a0.length) then
        bif (!(decide ((gi (rd a0 i5.toNat) 0) = (IntKind.u8.wrap k1)))) then
          some (0, k1, -1)
        else laws_heldByteS_l2 k_ a0 (IntKind.i64.wrap (k1 + 1)) (IntKind.i64.wrap (i5 + 1))
      else none
    else some (1, k1, 0)
def laws_heldByteS (a : List V) (k : Int) : Option (Int) :=
  Option.bind (laws_heldByteS_l2 ((((a.length : Nat) : Int) - 0).toNat + 1) a k 0) fun r175 =>
  bif (Nat.beq r175.1 0) then
    some r175.2.2
  else some r175.2.1
def laws_heldItemS_l2 : Nat → List V → Int → Int → Option (Nat × Int × Int)
  | 0, _, _, _ => none
  | k_ + 1, a0, k1, i5 =>
    bif (decide (i5 < ((a0.length : Nat) : Int))) then
      bif (idxOk i5 a0.length) then
        bif (!(decide ((gi (rd a0 i5.toNat) 0) = k1))) then
          some (0, k1, -1)
        else bif (idxOk i5 a0.length) then
          bif (!(decide ((gi (rd a0 i5.toNat) 1) = (IntKind.i64.wrap (k1 + 1))))) then
            some (0, (IntKind.i64.wrap (k1 + 1)), -1)
          else bif (idxOk i5 a0.length) then
            bif (!(decide ((gi (rd a0 i5.toNat) 2) = (IntKind.i64.wrap ((IntKind.i64.wrap (k1 + 1)) + 1))))) then
              some (0, (IntKind.i64.wrap ((IntKind.i64.wrap (k1 + 1)) + 1)), -1)
            else bif (idxOk i5 a0.length) then
              bif (!(decide ((gi (rd a0 i5.toNat) 3) = (IntKind.i64.wrap ((IntKind.i64.wrap ((IntKind.i64.wrap (k1 + 1)) + 1)) + 1))))) then
                some (0, (IntKind.i64.wrap ((IntKind.i64.wrap ((IntKind.i64.wrap (k1 + 1)) + 1)) + 1)), -1)
              else bif (idxOk i5 a0.length) then
                Option.bind (laws_heldByteS (gl (rd a0 i5.toNat) 4) (IntKind.i64.wrap ((IntKind.i64.wrap ((IntKind.i64.wrap ((IntKind.i64.wrap (k1 + 1)) + 1)) + 1)) + 1))) fun r176 =>
                bif (decide (r176 < 0)) then
                  some (0, r176, -1)
                else bif (idxOk i5 a0.length) then
                  Option.bind (laws_heldByteS (gl (rd a0 i5.toNat) 5) r176) fun r177 =>
                  bif (decide (r177 < 0)) then
                    some (0, r177, -1)
                  else bif (idxOk i5 a0.length) then
                    bif (!(decide ((gi (rd a0 i5.toNat) 6) = r177))) then
                      some (0, r177, -1)
                    else laws_heldItemS_l2 k_ a0 (IntKind.i64.wrap (r177 + 1)) (IntKind.i64.wrap (i5 + 1))
                  else none
                else none
              else none
            else none
          else none
        else none
      else none
    else some (1, k1, 0)
def laws_heldItemS (a : List V) (k : Int) : Option (Int) :=
  Option.bind (laws_heldItemS_l2 ((((a.length : Nat) : Int) - 0).toNat + 1) a k 0) fun r178 =>
  bif (Nat.beq r178.1 0) then
    some r178.2.2
  else some r178.2.1
def laws_heldBoolS_l2 : Nat → List V → Int → Int → Option (Nat × Int × Int)
  | 0, _, _, _ => none
  | k_ + 1, a0, k1, i5 =>
    bif (decide (i5 < ((a0.length : Nat) : Int))) then
      bif (idxOk i5 a0.length) then
        bif (!((gb (rd a0 i5.toNat) 0) == (decide ((k1.tmod 3) = 0)))) then
          some (0, k1, -1)
        else laws_heldBoolS_l2 k_ a0 (IntKind.i64.wrap (k1 + 1)) (IntKind.i64.wrap (i5 + 1))
      else none
    else some (1, k1, 0)
def laws_heldBoolS (a : List V) (k : Int) : Option (Int) :=
  Option.bind (laws_heldBoolS_l2 ((((a.length : Nat) : Int) - 0).toNat + 1) a k 0) fun r180 =>
  bif (Nat.beq r180.1 0) then
    some r180.2.2
  else some r180.2.1
def laws_heldIntS_l2 : Nat → List V → Int → Int → Option (Nat × Int × Int)
  | 0, _, _, _ => none
  | k_ + 1, a0, k1, i5 =>
    bif (decide (i5 < ((a0.length : Nat) : Int))) then
      bif (idxOk i5 a0.length) then
        bif (!(decide ((gi (rd a0 i5.toNat) 0) = k1))) then
          some (0, k1, -1)
        else laws_heldIntS_l2 k_ a0 (IntKind.i64.wrap (k1 + 1)) (IntKind.i64.wrap (i5 + 1))
      else none
    else some (1, k1, 0)
def laws_heldIntS (a : List V) (k : Int) : Option (Int) :=
  Option.bind (laws_heldIntS_l2 ((((a.length : Nat) : Int) - 0).toNat + 1) a k 0) fun r182 =>
  bif (Nat.beq r182.1 0) then
    some r182.2.2
  else some r182.2.1
def laws_heldNode (a : V) (k : Int) : Option (Int) :=
  Option.bind (laws_heldItemS (gl a 3) k) fun r179 =>
  bif (decide (r179 < 0)) then
    some (-1)
  else Option.bind (laws_heldBoolS (gl a 8) r179) fun r181 =>
  bif (decide (r181 < 0)) then
    some (-1)
  else Option.bind (laws_heldIntS (gl a 9) r181) fun r183 =>
  bif (decide (r183 < 0)) then
    some (-1)
  else Option.bind (laws_heldIntS (gl a 10) r183) fun r184 =>
  bif (decide (r184 < 0)) then
    some (-1)
  else some r184
def laws_heldMsgS_l2 : Nat → List V → Int → Int → Option (Nat × Int × Int)
  | 0, _, _, _ => none
  | k_ + 1, a0, k1, i5 =>
    bif (decide (i5 < ((a0.length : Nat) : Int))) then
      bif (idxOk i5 a0.length) then
        bif (!(decide ((gi (rd a0 i5.toNat) 0) = k1))) then
          some (0, k1, -1)
        else bif (idxOk i5 a0.length) then
          bif (!(decide ((gi (rd a0 i5.toNat) 1) = (IntKind.i64.wrap (k1 + 1))))) then
            some (0, (IntKind.i64.wrap (k1 + 1)), -1)
          else bif (idxOk i5 a0.length) then
            bif (!(decide ((gi (rd a0 i5.toNat) 2) = (IntKind.i64.wrap ((IntKind.i64.wrap (k1 + 1)) + 1))))) then
              some (0, (IntKind.i64.wrap ((IntKind.i64.wrap (k1 + 1)) + 1)), -1)
            else bif (idxOk i5 a0.length) then
              bif (!(decide ((gi (rd a0 i5.toNat) 3) = (IntKind.i64.wrap ((IntKind.i64.wrap ((IntKind.i64.wrap (k1 + 1)) + 1)) + 1))))) then
                some (0, (IntKind.i64.wrap ((IntKind.i64.wrap ((IntKind.i64.wrap (k1 + 1)) + 1)) + 1)), -1)
              else bif (idxOk i5 a0.length) then
                bif (!(decide ((gi (rd a0 i5.toNat) 4) = (IntKind.i64.wrap ((IntKind.i64.wrap ((IntKind.i64.wrap ((IntKind.i64.wrap (k1 + 1)) + 1)) + 1)) + 1))))) then
                  some (0, (IntKind.i64.wrap ((IntKind.i64.wrap ((IntKind.i64.wrap ((IntKind.i64.wrap (k1 + 1)) + 1)) + 1)) + 1)), -1)
                else bif (idxOk i5 a0.length) then
                  bif (!(decide ((gi (rd a0 i5.toNat) 5) = (IntKind.i64.wrap ((IntKind.i64.wrap ((IntKind.i64.wrap ((IntKind.i64.wrap ((IntKind.i64.wrap (k1 + 1)) + 1)) + 1)) + 1)) + 1))))) then
                    some (0, (IntKind.i64.wrap ((IntKind.i64.wrap ((IntKind.i64.wrap ((IntKind.i64.wrap ((IntKind.i64.wrap (k1 + 1)) + 1)) + 1)) + 1)) + 1)), -1)
                  else bif (idxOk i5 a0.length) then
                    Option.bind (laws_heldItemS (gl (rd a0 i5.toNat) 6) (IntKind.i64.wrap ((IntKind.i64.wrap ((IntKind.i64.wrap ((IntKind.i64.wrap ((IntKind.i64.wrap ((IntKind.i64.wrap (k1 + 1)) + 1)) + 1)) + 1)) + 1)) + 1))) fun r186 =>
                    bif (decide (r186 < 0)) then
                      some (0, r186, -1)
                    else bif (idxOk i5 a0.length) then
                      bif (!(decide ((gi (rd a0 i5.toNat) 7) = r186))) then
                        some (0, r186, -1)
                      else bif (idxOk i5 a0.length) then
                        bif (!((gb (rd a0 i5.toNat) 8) == (decide (((IntKind.i64.wrap (r186 + 1)).tmod 3) = 0)))) then
                          some (0, (IntKind.i64.wrap (r186 + 1)), -1)
                        else laws_heldMsgS_l2 k_ a0 (IntKind.i64.wrap ((IntKind.i64.wrap (r186 + 1)) + 1)) (IntKind.i64.wrap (i5 + 1))
                      else none
                    else none
                  else none
                else none
              else none
            else none
          else none
        else none
      else none
    else some (1, k1, 0)
def laws_heldMsgS (a : List V) (k : Int) : Option (Int) :=
  Option.bind (laws_heldMsgS_l2 ((((a.length : Nat) : Int) - 0).toNat + 1) a k 0) fun r187 =>
  bif (Nat.beq r187.1 0) then
    some r187.2.2
  else some r187.2.1
def laws_FnExactPropose (aN : V) (aServers : Int) (aC : V) : Option (Bool) :=
  Option.bind (laws_szNode (n_laws_Node aN) 1048576) fun r3 =>
  bif (decide (r3 < 0)) then
    some true
  else bif (decide ((laws_szCmd (n_laws_Cmd aC) r3) < 0)) then
    some true
  else Option.bind (laws_toNode (n_laws_Node aN)) fun r17 =>
  Option.bind (laws_toCmd (n_laws_Cmd aC)) fun r18 =>
  Option.bind (spec_Propose (n_impl_Node r17) aServers (n_laws_Cmd r18)) fun r65 =>
  Option.bind (laws_toNode (n_laws_Node aN)) fun r66 =>
  Option.bind (laws_toCmd (n_laws_Cmd aC)) fun r67 =>
  Option.bind (impl_Propose (n_impl_Node r66) aServers (n_laws_Cmd r67)) fun r115 =>
  Option.bind (laws_eqNode (n_impl_Node r115.1) (n_impl_Node r65.1)) fun r129 =>
  bif (!r129) then
    some false
  else Option.bind (laws_eqMsgS r115.2.1 r65.2.1) fun r133 =>
  bif (!r133) then
    some false
  else bif (!(r115.2.2 == r65.2.2)) then
    some false
  else Option.bind (laws_toNode (n_laws_Node aN)) fun r134 =>
  Option.bind (laws_eqNode (n_impl_Node r66) (n_impl_Node r134)) fun r135 =>
  bif (!r135) then
    some false
  else Option.bind (laws_toCmd (n_laws_Cmd aC)) fun r136 =>
  Option.bind (laws_eqCmd (n_laws_Cmd r67) (n_laws_Cmd r136)) fun r137 =>
  bif (!r137) then
    some false
  else Option.bind (laws_markNode (n_impl_Node r66) 1) fun r155 =>
  Option.bind (laws_markCmd (n_laws_Cmd r67) r155.1) fun r159 =>
  bif (decide (r159.1 < 0)) then
    some false
  else Option.bind (laws_eqNode (n_impl_Node r115.1) (n_impl_Node r65.1)) fun r160 =>
  bif (!r160) then
    some false
  else Option.bind (laws_eqMsgS r115.2.1 r65.2.1) fun r161 =>
  bif (!r161) then
    some false
  else bif (!(r115.2.2 == r65.2.2)) then
    some false
  else Option.bind (laws_markNode (n_impl_Node r115.1) 1) fun r162 =>
  Option.bind (laws_markMsgS r115.2.1 r162.1) fun r174 =>
  Option.bind (laws_heldNode (V.agg [(V.int .i64 (gi r115.1 0)), (V.int .i64 (gi r115.1 1)), (V.int .i64 (gi r115.1 2)), (V.inl t_impl_Item r162.2.1), (V.int .i64 (gi r115.1 4)), (V.int .i64 (gi r115.1 5)), (V.int .i64 (gi r115.1 6)), (V.int .i64 (gi r115.1 7)), (V.inl t_bool r162.2.2.1), (V.inl t_int' r162.2.2.2.1), (V.inl t_int' r162.2.2.2.2)]) 1) fun r185 =>
  bif (decide (r185 < 0)) then
    some false
  else Option.bind (laws_heldMsgS r174.2 r185) fun r188 =>
  bif (decide (r188 < 0)) then
    some false
  else bif (!(decide (r188 = r174.1))) then
    some false
  else Option.bind (laws_toNode (n_laws_Node aN)) fun r189 =>
  Option.bind (laws_toCmd (n_laws_Cmd aC)) fun r190 =>
  Option.bind (impl_Propose (n_impl_Node r189) aServers (n_laws_Cmd r190)) fun r191 =>
  Option.bind (laws_eqNode (n_impl_Node r191.1) (n_impl_Node r65.1)) fun r192 =>
  bif (!r192) then
    some false
  else Option.bind (laws_eqMsgS r191.2.1 r65.2.1) fun r193 =>
  bif (!r193) then
    some false
  else bif (!(r191.2.2 == r65.2.2)) then
    some false
  else Option.bind (laws_heldNode (V.agg [(V.int .i64 (gi r115.1 0)), (V.int .i64 (gi r115.1 1)), (V.int .i64 (gi r115.1 2)), (V.inl t_impl_Item r162.2.1), (V.int .i64 (gi r115.1 4)), (V.int .i64 (gi r115.1 5)), (V.int .i64 (gi r115.1 6)), (V.int .i64 (gi r115.1 7)), (V.inl t_bool r162.2.2.1), (V.inl t_int' r162.2.2.2.1), (V.inl t_int' r162.2.2.2.2)]) 1) fun r194 =>
  bif (decide (r194 < 0)) then
    some false
  else Option.bind (laws_heldMsgS r174.2 r194) fun r195 =>
  bif (decide (r195 < 0)) then
    some false
  else bif (!(decide (r195 = r174.1))) then
    some false
  else some true
end Go.Eng.R
open Go Go.Eng Go.Proofs
namespace Go.Eng.R
theorem tab_ok : TabOk Try.prog tab := tabB_spec (by kernel_rfl)
theorem mixed : Try.prog.follows .mixedOrders = true := by kernel_rfl
theorem base : Base Try.prog tab := ⟨tab_ok, mixed⟩
theorem f5_en : Enters Try.prog 5 := enters_of (fn := Try.f5) Try.func5 (by kernel_rfl)
theorem f8_en : Enters Try.prog 8 := enters_of (fn := Try.f8) Try.func8 (by kernel_rfl)
theorem f10_en : Enters Try.prog 10 := enters_of (fn := Try.f10) Try.func10 (by kernel_rfl)
theorem f12_en : Enters Try.prog 12 := enters_of (fn := Try.f12) Try.func12 (by kernel_rfl)
theorem f13_en : Enters Try.prog 13 := enters_of (fn := Try.f13) Try.func13 (by kernel_rfl)
theorem f14_en : Enters Try.prog 14 := enters_of (fn := Try.f14) Try.func14 (by kernel_rfl)
theorem f17_en : Enters Try.prog 17 := enters_of (fn := Try.f17) Try.func17 (by kernel_rfl)
theorem f20_en : Enters Try.prog 20 := enters_of (fn := Try.f20) Try.func20 (by kernel_rfl)
theorem f21_en : Enters Try.prog 21 := enters_of (fn := Try.f21) Try.func21 (by kernel_rfl)
theorem f22_en : Enters Try.prog 22 := enters_of (fn := Try.f22) Try.func22 (by kernel_rfl)
theorem f23_en : Enters Try.prog 23 := enters_of (fn := Try.f23) Try.func23 (by kernel_rfl)
theorem f24_en : Enters Try.prog 24 := enters_of (fn := Try.f24) Try.func24 (by kernel_rfl)
theorem f25_en : Enters Try.prog 25 := enters_of (fn := Try.f25) Try.func25 (by kernel_rfl)
theorem f26_en : Enters Try.prog 26 := enters_of (fn := Try.f26) Try.func26 (by kernel_rfl)
theorem f27_en : Enters Try.prog 27 := enters_of (fn := Try.f27) Try.func27 (by kernel_rfl)
theorem f28_en : Enters Try.prog 28 := enters_of (fn := Try.f28) Try.func28 (by kernel_rfl)
theorem f33_en : Enters Try.prog 33 := enters_of (fn := Try.f33) Try.func33 (by kernel_rfl)
theorem f35_en : Enters Try.prog 35 := enters_of (fn := Try.f35) Try.func35 (by kernel_rfl)
theorem f38_en : Enters Try.prog 38 := enters_of (fn := Try.f38) Try.func38 (by kernel_rfl)
theorem f39_en : Enters Try.prog 39 := enters_of (fn := Try.f39) Try.func39 (by kernel_rfl)
theorem f40_en : Enters Try.prog 40 := enters_of (fn := Try.f40) Try.func40 (by kernel_rfl)
theorem f42_en : Enters Try.prog 42 := enters_of (fn := Try.f42) Try.func42 (by kernel_rfl)
theorem f43_en : Enters Try.prog 43 := enters_of (fn := Try.f43) Try.func43 (by kernel_rfl)
theorem f44_en : Enters Try.prog 44 := enters_of (fn := Try.f44) Try.func44 (by kernel_rfl)
theorem f45_en : Enters Try.prog 45 := enters_of (fn := Try.f45) Try.func45 (by kernel_rfl)
theorem f47_en : Enters Try.prog 47 := enters_of (fn := Try.f47) Try.func47 (by kernel_rfl)
theorem f48_en : Enters Try.prog 48 := enters_of (fn := Try.f48) Try.func48 (by kernel_rfl)
theorem f49_en : Enters Try.prog 49 := enters_of (fn := Try.f49) Try.func49 (by kernel_rfl)
theorem f50_en : Enters Try.prog 50 := enters_of (fn := Try.f50) Try.func50 (by kernel_rfl)
theorem f51_en : Enters Try.prog 51 := enters_of (fn := Try.f51) Try.func51 (by kernel_rfl)
theorem f52_en : Enters Try.prog 52 := enters_of (fn := Try.f52) Try.func52 (by kernel_rfl)
theorem f53_en : Enters Try.prog 53 := enters_of (fn := Try.f53) Try.func53 (by kernel_rfl)
theorem f54_en : Enters Try.prog 54 := enters_of (fn := Try.f54) Try.func54 (by kernel_rfl)
theorem f55_en : Enters Try.prog 55 := enters_of (fn := Try.f55) Try.func55 (by kernel_rfl)
theorem f56_en : Enters Try.prog 56 := enters_of (fn := Try.f56) Try.func56 (by kernel_rfl)
theorem f57_en : Enters Try.prog 57 := enters_of (fn := Try.f57) Try.func57 (by kernel_rfl)
theorem f58_en : Enters Try.prog 58 := enters_of (fn := Try.f58) Try.func58 (by kernel_rfl)
theorem f61_en : Enters Try.prog 61 := enters_of (fn := Try.f61) Try.func61 (by kernel_rfl)
theorem f62_en : Enters Try.prog 62 := enters_of (fn := Try.f62) Try.func62 (by kernel_rfl)
theorem f63_en : Enters Try.prog 63 := enters_of (fn := Try.f63) Try.func63 (by kernel_rfl)
theorem f64_en : Enters Try.prog 64 := enters_of (fn := Try.f64) Try.func64 (by kernel_rfl)
theorem f65_en : Enters Try.prog 65 := enters_of (fn := Try.f65) Try.func65 (by kernel_rfl)
theorem f66_en : Enters Try.prog 66 := enters_of (fn := Try.f66) Try.func66 (by kernel_rfl)
theorem f67_en : Enters Try.prog 67 := enters_of (fn := Try.f67) Try.func67 (by kernel_rfl)
theorem f68_en : Enters Try.prog 68 := enters_of (fn := Try.f68) Try.func68 (by kernel_rfl)
theorem f69_en : Enters Try.prog 69 := enters_of (fn := Try.f69) Try.func69 (by kernel_rfl)
theorem f70_en : Enters Try.prog 70 := enters_of (fn := Try.f70) Try.func70 (by kernel_rfl)
theorem f71_en : Enters Try.prog 71 := enters_of (fn := Try.f71) Try.func71 (by kernel_rfl)
theorem f72_en : Enters Try.prog 72 := enters_of (fn := Try.f72) Try.func72 (by kernel_rfl)
theorem f81_en : Enters Try.prog 81 := enters_of (fn := Try.f81) Try.func81 (by kernel_rfl)
theorem f83_en : Enters Try.prog 83 := enters_of (fn := Try.f83) Try.func83 (by kernel_rfl)
theorem f84_en : Enters Try.prog 84 := enters_of (fn := Try.f84) Try.func84 (by kernel_rfl)
theorem f85_en : Enters Try.prog 85 := enters_of (fn := Try.f85) Try.func85 (by kernel_rfl)
theorem f86_en : Enters Try.prog 86 := enters_of (fn := Try.f86) Try.func86 (by kernel_rfl)
theorem f89_en : Enters Try.prog 89 := enters_of (fn := Try.f89) Try.func89 (by kernel_rfl)
theorem f90_en : Enters Try.prog 90 := enters_of (fn := Try.f90) Try.func90 (by kernel_rfl)
theorem f91_en : Enters Try.prog 91 := enters_of (fn := Try.f91) Try.func91 (by kernel_rfl)
theorem f92_en : Enters Try.prog 92 := enters_of (fn := Try.f92) Try.func92 (by kernel_rfl)
theorem f94_en : Enters Try.prog 94 := enters_of (fn := Try.f94) Try.func94 (by kernel_rfl)
theorem f95_en : Enters Try.prog 95 := enters_of (fn := Try.f95) Try.func95 (by kernel_rfl)
theorem f96_en : Enters Try.prog 96 := enters_of (fn := Try.f96) Try.func96 (by kernel_rfl)
theorem f97_en : Enters Try.prog 97 := enters_of (fn := Try.f97) Try.func97 (by kernel_rfl)
theorem f98_en : Enters Try.prog 98 := enters_of (fn := Try.f98) Try.func98 (by kernel_rfl)
theorem f99_en : Enters Try.prog 99 := enters_of (fn := Try.f99) Try.func99 (by kernel_rfl)
theorem f100_en : Enters Try.prog 100 := enters_of (fn := Try.f100) Try.func100 (by kernel_rfl)
theorem f101_en : Enters Try.prog 101 := enters_of (fn := Try.f101) Try.func101 (by kernel_rfl)
theorem f103_en : Enters Try.prog 103 := enters_of (fn := Try.f103) Try.func103 (by kernel_rfl)
theorem f104_en : Enters Try.prog 104 := enters_of (fn := Try.f104) Try.func104 (by kernel_rfl)
theorem f105_en : Enters Try.prog 105 := enters_of (fn := Try.f105) Try.func105 (by kernel_rfl)
theorem f106_en : Enters Try.prog 106 := enters_of (fn := Try.f106) Try.func106 (by kernel_rfl)
theorem f107_en : Enters Try.prog 107 := enters_of (fn := Try.f107) Try.func107 (by kernel_rfl)
theorem f108_en : Enters Try.prog 108 := enters_of (fn := Try.f108) Try.func108 (by kernel_rfl)
theorem f109_en : Enters Try.prog 109 := enters_of (fn := Try.f109) Try.func109 (by kernel_rfl)
theorem f110_en : Enters Try.prog 110 := enters_of (fn := Try.f110) Try.func110 (by kernel_rfl)
theorem f111_en : Enters Try.prog 111 := enters_of (fn := Try.f111) Try.func111 (by kernel_rfl)
theorem f112_en : Enters Try.prog 112 := enters_of (fn := Try.f112) Try.func112 (by kernel_rfl)
theorem f113_en : Enters Try.prog 113 := enters_of (fn := Try.f113) Try.func113 (by kernel_rfl)
theorem f114_en : Enters Try.prog 114 := enters_of (fn := Try.f114) Try.func114 (by kernel_rfl)
theorem f115_en : Enters Try.prog 115 := enters_of (fn := Try.f115) Try.func115 (by kernel_rfl)
theorem f116_en : Enters Try.prog 116 := enters_of (fn := Try.f116) Try.func116 (by kernel_rfl)
theorem f130_en : Enters Try.prog 130 := enters_of (fn := Try.f130) Try.func130 (by kernel_rfl)
theorem f132_en : Enters Try.prog 132 := enters_of (fn := Try.f132) Try.func132 (by kernel_rfl)
theorem f133_en : Enters Try.prog 133 := enters_of (fn := Try.f133) Try.func133 (by kernel_rfl)
theorem f134_en : Enters Try.prog 134 := enters_of (fn := Try.f134) Try.func134 (by kernel_rfl)
theorem f135_en : Enters Try.prog 135 := enters_of (fn := Try.f135) Try.func135 (by kernel_rfl)
theorem f136_en : Enters Try.prog 136 := enters_of (fn := Try.f136) Try.func136 (by kernel_rfl)
theorem f137_en : Enters Try.prog 137 := enters_of (fn := Try.f137) Try.func137 (by kernel_rfl)
theorem f138_en : Enters Try.prog 138 := enters_of (fn := Try.f138) Try.func138 (by kernel_rfl)
theorem f139_en : Enters Try.prog 139 := enters_of (fn := Try.f139) Try.func139 (by kernel_rfl)
theorem f140_en : Enters Try.prog 140 := enters_of (fn := Try.f140) Try.func140 (by kernel_rfl)
theorem f141_en : Enters Try.prog 141 := enters_of (fn := Try.f141) Try.func141 (by kernel_rfl)
theorem f144_en : Enters Try.prog 144 := enters_of (fn := Try.f144) Try.func144 (by kernel_rfl)
theorem f145_en : Enters Try.prog 145 := enters_of (fn := Try.f145) Try.func145 (by kernel_rfl)
end Go.Eng.R
open Go Go.Eng Go.Proofs
namespace Go.Eng.R
def laws_szByteS_c : Cfg := ⟨tab, sumsOf [], fun _ => false, fun f => (look [] f).getD [], false, fun _ => false⟩
theorem laws_szByteS_c_ok : SumsOk Try.prog tab laws_szByteS_c.sums := sums_nil
def laws_szByteS_L : Loops := ⟨fun k => (look [] k).getD [], fun k => (look [] k).getD [], fun k => (look [] k).getD [], runL []⟩
def laws_szByteS_sh (r_ : Int) : V × List V := ((V.int .i64 r_), [])
theorem laws_szByteS_e (a : List V) (left : Int) : Tot (wkF [[.dead]] []) laws_szByteS_sh (laws_szByteS a left) (evalFn laws_szByteS_c laws_szByteS_L Try.f104 [(V.inl t_byte a), (V.int .i64 left)]) := by
  have h : evalFn laws_szByteS_c laws_szByteS_L Try.f104 [(V.inl t_byte a), (V.int .i64 left)] = (bif (decide ((IntKind.i64.wrap (left - ((a.length : Nat) : Int))) < 0)) then some ((V.int .i64 (-1)), []) else some ((V.int .i64 (IntKind.i64.wrap (left - ((a.length : Nat) : Int)))), [])) := by kernel_rfl
  rw [h, laws_szByteS]
  clear h
  repeat' (first | refine tot_if ?_ ?_ | refine tot_let fun _ => ?_ | exact tot_leaf (by kernel_rfl))
def laws_szByteS_s (args : List V) : Option (Bool × (V × List V)) := bif argsOk [(.one (.inl t_byte)), (.one (.int .i64))] args then some (true, laws_szByteS_sh (laws_szByteS ((rd args 0).L) ((rd args 1).I))) else none
theorem laws_szByteS_s_ok : ∀ args r, laws_szByteS_s args = some (true, r) → SumOk Try.prog tab 104 args r :=
  Base.sumT (cfg := laws_szByteS_c) (F := fun args => laws_szByteS ((rd args 0).L) ((rd args 1).I)) (shr := laws_szByteS_sh) base laws_szByteS_c_ok Try.func104 (by kernel_rfl) (GoodAll.ok (l := []) GoodAll.nil rfl) [(.one (.inl t_byte)), (.one (.int .i64))] (by kernel_rfl) [[.dead]] [] (by kernel_rfl) fun args h => by
    have q := laws_szByteS_e ((rd args 0).L) ((rd args 1).I)
    rw [show [(V.inl t_byte ((rd args 0).L)), (V.int .i64 ((rd args 1).I))] = args from h] at q
    exact q
def laws_szOp_c : Cfg := ⟨tab, sumsOf [(104, laws_szByteS_s)], fun _ => false, fun f => (look [(104, [some t_byte, none])] f).getD [], false, fun _ => false⟩
theorem laws_szOp_c_ok : SumsOk Try.prog tab laws_szOp_c.sums := sums_cons f104_en laws_szByteS_s_ok (sums_nil)
def laws_szOp_L : Loops := ⟨fun k => (look [] k).getD [], fun k => (look [] k).getD [], fun k => (look [] k).getD [], runL []⟩
def laws_szOp_sh (r_ : Int) : V × List V := ((V.int .i64 r_), [])
theorem laws_szOp_e (a : V) (left : Int) : Tot (wkF [[.dead]] []) laws_szOp_sh (laws_szOp a left) (evalFn laws_szOp_c laws_szOp_L Try.f63 [(n_laws_Op a), (V.int .i64 left)]) := by
  have h : evalFn laws_szOp_c laws_szOp_L Try.f63 [(n_laws_Op a), (V.int .i64 left)] = (bif (decide ((laws_szByteS (gl a 1) left) < 0)) then some ((V.int .i64 (-1)), []) else bif (decide ((laws_szByteS (gl a 2) (laws_szByteS (gl a 1) left)) < 0)) then some ((V.int .i64 (-1)), []) else some ((V.int .i64 (laws_szByteS (gl a 2) (laws_szByteS (gl a 1) left))), [])) := by kernel_rfl
  rw [h, laws_szOp]
  clear h
  repeat' (first | refine tot_if ?_ ?_ | refine tot_let fun _ => ?_ | exact tot_leaf (by kernel_rfl))
def laws_szOp_s (args : List V) : Option (Bool × (V × List V)) := bif argsOk [(.agg [(.int .i64), (.inl t_byte), (.inl t_byte), (.int .i64)]), (.one (.int .i64))] args then some (true, laws_szOp_sh (laws_szOp (rd args 0) ((rd args 1).I))) else none
theorem laws_szOp_s_ok : ∀ args r, laws_szOp_s args = some (true, r) → SumOk Try.prog tab 63 args r :=
  Base.sumT (cfg := laws_szOp_c) (F := fun args => laws_szOp (rd args 0) ((rd args 1).I)) (shr := laws_szOp_sh) base laws_szOp_c_ok Try.func63 (by kernel_rfl) (GoodAll.ok (l := []) GoodAll.nil rfl) [(.agg [(.int .i64), (.inl t_byte), (.inl t_byte), (.int .i64)]), (.one (.int .i64))] (by kernel_rfl) [[.dead]] [] (by kernel_rfl) fun args h => by
    have q := laws_szOp_e (rd args 0) ((rd args 1).I)
    rw [show [(n_laws_Op (rd args 0)), (V.int .i64 ((rd args 1).I))] = args from h] at q
    exact q
def laws_szCmd_c : Cfg := ⟨tab, sumsOf [(63, laws_szOp_s)], fun _ => false, fun f => (look [(63, [none, none])] f).getD [], false, fun _ => false⟩
theorem laws_szCmd_c_ok : SumsOk Try.prog tab laws_szCmd_c.sums := sums_cons f63_en laws_szOp_s_ok (sums_nil)
def laws_szCmd_L : Loops := ⟨fun k => (look [] k).getD [], fun k => (look [] k).getD [], fun k => (look [] k).getD [], runL []⟩
def laws_szCmd_sh (r_ : Int) : V × List V := ((V.int .i64 r_), [])
theorem laws_szCmd_e (a : V) (left : Int) : Tot (wkF [[.dead]] []) laws_szCmd_sh (laws_szCmd a left) (evalFn laws_szCmd_c laws_szCmd_L Try.f20 [(n_laws_Cmd a), (V.int .i64 left)]) := by
  have h : evalFn laws_szCmd_c laws_szCmd_L Try.f20 [(n_laws_Cmd a), (V.int .i64 left)] = (bif (decide ((laws_szOp (V.agg [(V.int .i64 (gi a 2)), (V.inl t_byte (gl a 3)), (V.inl t_byte (gl a 4)), (V.int .i64 (gi a 5))]) left) < 0)) then some ((V.int .i64 (-1)), []) else some ((V.int .i64 (laws_szOp (V.agg [(V.int .i64 (gi a 2)), (V.inl t_byte (gl a 3)), (V.inl t_byte (gl a 4)), (V.int .i64 (gi a 5))]) left)), [])) := by kernel_rfl
  rw [h, laws_szCmd]
  clear h
  repeat' (first | refine tot_if ?_ ?_ | refine tot_let fun _ => ?_ | exact tot_leaf (by kernel_rfl))
def laws_szCmd_s (args : List V) : Option (Bool × (V × List V)) := bif argsOk [(.agg [(.int .i64), (.int .i64), (.int .i64), (.inl t_byte), (.inl t_byte), (.int .i64)]), (.one (.int .i64))] args then some (true, laws_szCmd_sh (laws_szCmd (rd args 0) ((rd args 1).I))) else none
theorem laws_szCmd_s_ok : ∀ args r, laws_szCmd_s args = some (true, r) → SumOk Try.prog tab 20 args r :=
  Base.sumT (cfg := laws_szCmd_c) (F := fun args => laws_szCmd (rd args 0) ((rd args 1).I)) (shr := laws_szCmd_sh) base laws_szCmd_c_ok Try.func20 (by kernel_rfl) (GoodAll.ok (l := []) GoodAll.nil rfl) [(.agg [(.int .i64), (.int .i64), (.int .i64), (.inl t_byte), (.inl t_byte), (.int .i64)]), (.one (.int .i64))] (by kernel_rfl) [[.dead]] [] (by kernel_rfl) fun args h => by
    have q := laws_szCmd_e (rd args 0) ((rd args 1).I)
    rw [show [(n_laws_Cmd (rd args 0)), (V.int .i64 ((rd args 1).I))] = args from h] at q
    exact q
def laws_szItem_c : Cfg := ⟨tab, sumsOf [(20, laws_szCmd_s)], fun _ => false, fun f => (look [(20, [none, none])] f).getD [], false, fun _ => false⟩
theorem laws_szItem_c_ok : SumsOk Try.prog tab laws_szItem_c.sums := sums_cons f20_en laws_szCmd_s_ok (sums_nil)
def laws_szItem_L : Loops := ⟨fun k => (look [] k).getD [], fun k => (look [] k).getD [], fun k => (look [] k).getD [], runL []⟩
def laws_szItem_sh (r_ : Int) : V × List V := ((V.int .i64 r_), [])
theorem laws_szItem_e (a : V) (left : Int) : Tot (wkF [[.dead]] []) laws_szItem_sh (laws_szItem a left) (evalFn laws_szItem_c laws_szItem_L Try.f95 [(n_impl_Item a), (V.int .i64 left)]) := by
  have h : evalFn laws_szItem_c laws_szItem_L Try.f95 [(n_impl_Item a), (V.int .i64 left)] = (bif (decide ((laws_szCmd (V.agg [(V.int .i64 (gi a 1)), (V.int .i64 (gi a 2)), (V.int .i64 (gi a 3)), (V.inl t_byte (gl a 4)), (V.inl t_byte (gl a 5)), (V.int .i64 (gi a 6))]) left) < 0)) then some ((V.int .i64 (-1)), []) else some ((V.int .i64 (laws_szCmd (V.agg [(V.int .i64 (gi a 1)), (V.int .i64 (gi a 2)), (V.int .i64 (gi a 3)), (V.inl t_byte (gl a 4)), (V.inl t_byte (gl a 5)), (V.int .i64 (gi a 6))]) left)), [])) := by kernel_rfl
  rw [h, laws_szItem]
  clear h
  repeat' (first | refine tot_if ?_ ?_ | refine tot_let fun _ => ?_ | exact tot_leaf (by kernel_rfl))
def laws_szItem_s (args : List V) : Option (Bool × (V × List V)) := bif argsOk [(.agg [(.int .i64), (.int .i64), (.int .i64), (.int .i64), (.inl t_byte), (.inl t_byte), (.int .i64)]), (.one (.int .i64))] args then some (true, laws_szItem_sh (laws_szItem (rd args 0) ((rd args 1).I))) else none
theorem laws_szItem_s_ok : ∀ args r, laws_szItem_s args = some (true, r) → SumOk Try.prog tab 95 args r :=
  Base.sumT (cfg := laws_szItem_c) (F := fun args => laws_szItem (rd args 0) ((rd args 1).I)) (shr := laws_szItem_sh) base laws_szItem_c_ok Try.func95 (by kernel_rfl) (GoodAll.ok (l := []) GoodAll.nil rfl) [(.agg [(.int .i64), (.int .i64), (.int .i64), (.int .i64), (.inl t_byte), (.inl t_byte), (.int .i64)]), (.one (.int .i64))] (by kernel_rfl) [[.dead]] [] (by kernel_rfl) fun args h => by
    have q := laws_szItem_e (rd args 0) ((rd args 1).I)
    rw [show [(n_impl_Item (rd args 0)), (V.int .i64 ((rd args 1).I))] = args from h] at q
    exact q
def laws_szItemS_c : Cfg := ⟨tab, sumsOf [(95, laws_szItem_s)], fun _ => false, fun f => (look [(95, [none, none])] f).getD [], false, fun _ => false⟩
theorem laws_szItemS_c_ok : SumsOk Try.prog tab laws_szItemS_c.sums := sums_cons f95_en laws_szItem_s_ok (sums_nil)
def laws_szItemS_l5_e : LE := ⟨5, ⟨[(0, (.one (.inl t_laws_Item))), (1, (.one (.int .i64))), (5, (.one (.int .i64)))], [], 0, []⟩, fun st => Out.tst (laws_szItemS_l5 ((((((sv st 0).L).length : Nat) : Int) - ((sv st 2).I)).toNat + 1) ((sv st 0).L) ((sv st 1).I) ((sv st 2).I)).isSome (brs ((fun r_ => r_.1) ((laws_szItemS_l5 ((((((sv st 0).L).length : Nat) : Int) - ((sv st 2).I)).toNat + 1) ((sv st 0).L) ((sv st 1).I) ((sv st 2).I)).getD default)) 0 ((fun r_ => [(Ex.ret, (⟨[(1, (V.int .i64 r_.2.1)), (4, (V.int .i64 r_.2.2))], [], 0, []⟩ : St)), ((Ex.exit 0), (⟨[(1, (V.int .i64 r_.2.1)), (4, V.dead)], [], 0, []⟩ : St))]) ((laws_szItemS_l5 ((((((sv st 0).L).length : Nat) : Int) - ((sv st 2).I)).toNat + 1) ((sv st 0).L) ((sv st 1).I) ((sv st 2).I)).getD default)))⟩
def laws_szItemS_L : Loops := ⟨fun k => (look [(5, [0, 1, 5])] k).getD [], fun k => (look [] k).getD [], fun k => (look [(5, [1, 4])] k).getD [], runL [laws_szItemS_l5_e]⟩
theorem laws_szItemS_l5_ok (k_ : Nat) : ∀ (a0 : List V) (left1 : Int) (i5 : Int), Agr id (fun r_ => pick (r_.1) 0 [(Ex.ret, (⟨[(1, (V.int .i64 r_.2.1)), (4, (V.int .i64 r_.2.2))], [], 0, []⟩ : St)), ((Ex.exit 0), (⟨[(1, (V.int .i64 r_.2.1)), (4, V.dead)], [], 0, []⟩ : St))]) (laws_szItemS_l5 k_ a0 left1 i5) (rounds laws_szItemS_c laws_szItemS_L ((loopsIn (bodyOf Try.f38)).getD 0 .skip) k_ (⟨[(0, (V.inl t_laws_Item a0)), (1, (V.int .i64 left1)), (5, (V.int .i64 i5))], [], 0, []⟩ : St)) := by
  induction k_ with
  | zero => intros; exact agr_none
  | succ k_ ih =>
    intro a0 left1 i5
    have h : rounds laws_szItemS_c laws_szItemS_L ((loopsIn (bodyOf Try.f38)).getD 0 .skip) (k_ + 1) (⟨[(0, (V.inl t_laws_Item a0)), (1, (V.int .i64 left1)), (5, (V.int .i64 i5))], [], 0, []⟩ : St) = (bif (decide (i5 < ((a0.length : Nat) : Int))) then bif (idxOk i5 a0.length) then bif (decide ((laws_szItem (n_impl_Item (rd a0 i5.toNat)) left1) < 0)) then some (Ex.ret, (⟨[(1, (V.int .i64 (laws_szItem (n_impl_Item (rd a0 i5.toNat)) left1))), (4, (V.int .i64 (-1)))], [], 0, []⟩ : St)) else rounds laws_szItemS_c laws_szItemS_L ((loopsIn (bodyOf Try.f38)).getD 0 .skip) k_ (⟨[(0, (V.inl t_laws_Item a0)), (1, (V.int .i64 (laws_szItem (n_impl_Item (rd a0 i5.toNat)) left1))), (5, (V.int .i64 (IntKind.i64.wrap (i5 + 1))))], [], 0, []⟩ : St) else none else some ((Ex.exit 0), (⟨[(1, (V.int .i64 left1)), (4, V.dead)], [], 0, []⟩ : St))) := by kernel_rfl
    rw [h, laws_szItemS_l5]
    clear h
    repeat' (first | exact agr_none | refine agr_if ?_ ?_ | refine agr_call fun _ => ?_ | refine agr_let fun _ => ?_ | exact agr_leaf (by kernel_rfl) | exact ih _ _ _)
theorem laws_szItemS_lo : LoopsOk laws_szItemS_c laws_szItemS_L (bodyOf Try.f38) := by
  refine GoodAll.ok (l := [laws_szItemS_l5_e]) ?_ rfl
  refine GoodAll.cons 0 (by kernel_rfl) ?_ ?_
  · exact good_of (key := 5) (ss := ⟨[(0, (.one (.inl t_laws_Item))), (1, (.one (.int .i64))), (5, (.one (.int .i64)))], [], 0, []⟩) (F := fun st => laws_szItemS_l5 ((((((sv st 0).L).length : Nat) : Int) - ((sv st 2).I)).toNat + 1) ((sv st 0).L) ((sv st 1).I) ((sv st 2).I)) (ix := fun r_ => r_.1) (ps := fun r_ => [(Ex.ret, (⟨[(1, (V.int .i64 r_.2.1)), (4, (V.int .i64 r_.2.2))], [], 0, []⟩ : St)), ((Ex.exit 0), (⟨[(1, (V.int .i64 r_.2.1)), (4, V.dead)], [], 0, []⟩ : St))]) (fun st => (((((sv st 0).L).length : Nat) : Int) - ((sv st 2).I)).toNat + 1) fun st h => by
      have q := laws_szItemS_l5_ok ((((((sv st 0).L).length : Nat) : Int) - ((sv st 2).I)).toNat + 1) ((sv st 0).L) ((sv st 1).I) ((sv st 2).I)
      rw [show (⟨[(0, (V.inl t_laws_Item ((sv st 0).L))), (1, (V.int .i64 ((sv st 1).I))), (5, (V.int .i64 ((sv st 2).I)))], [], 0, []⟩ : St) = st from h] at q
      exact q
  exact GoodAll.nil
def laws_szItemS_sh (r_ : Int) : V × List V := ((V.int .i64 r_), [])
theorem laws_szItemS_e (a : List V) (left : Int) : Agr (wkF [[.dead]] []) laws_szItemS_sh (laws_szItemS a left) (evalFn laws_szItemS_c laws_szItemS_L Try.f38 [(V.inl t_laws_Item a), (V.int .i64 left)]) := by
  have h : evalFn laws_szItemS_c laws_szItemS_L Try.f38 [(V.inl t_laws_Item a), (V.int .i64 left)] = (bif (decide ((IntKind.i64.wrap (left - ((a.length : Nat) : Int))) < 0)) then some ((V.int .i64 (-1)), []) else rcall (laws_szItemS_l5 ((((a.length : Nat) : Int) - 0).toNat + 1) a (IntKind.i64.wrap (left - ((a.length : Nat) : Int))) 0) fun r1 => bif (Nat.beq r1.1 0) then some ((V.int .i64 r1.2.2), []) else some ((V.int .i64 r1.2.1), [])) := by kernel_rfl
  rw [h, laws_szItemS]
  clear h
  repeat' (first | exact agr_none | refine agr_if ?_ ?_ | refine agr_call fun _ => ?_ | refine agr_let fun _ => ?_ | exact agr_leaf (by kernel_rfl))
def laws_szItemS_s (args : List V) : Option (Bool × (V × List V)) := bif argsOk [(.one (.inl t_laws_Item)), (.one (.int .i64))] args then some ((laws_szItemS ((rd args 0).L) ((rd args 1).I)).isSome, laws_szItemS_sh ((laws_szItemS ((rd args 0).L) ((rd args 1).I)).getD default)) else none
theorem laws_szItemS_s_ok : ∀ args r, laws_szItemS_s args = some (true, r) → SumOk Try.prog tab 38 args r :=
  Base.sum (cfg := laws_szItemS_c) (F := fun args => laws_szItemS ((rd args 0).L) ((rd args 1).I)) (shr := laws_szItemS_sh) base laws_szItemS_c_ok Try.func38 (by kernel_rfl) laws_szItemS_lo [(.one (.inl t_laws_Item)), (.one (.int .i64))] (by kernel_rfl) [[.dead]] [] (by kernel_rfl) fun args h => by
    have q := laws_szItemS_e ((rd args 0).L) ((rd args 1).I)
    rw [show [(V.inl t_laws_Item ((rd args 0).L)), (V.int .i64 ((rd args 1).I))] = args from h] at q
    exact q
def laws_szBoolS_c : Cfg := ⟨tab, sumsOf [], fun _ => false, fun f => (look [] f).getD [], false, fun _ => false⟩
theorem laws_szBoolS_c_ok : SumsOk Try.prog tab laws_szBoolS_c.sums := sums_nil
def laws_szBoolS_L : Loops := ⟨fun k => (look [] k).getD [], fun k => (look [] k).getD [], fun k => (look [] k).getD [], runL []⟩
def laws_szBoolS_sh (r_ : Int) : V × List V := ((V.int .i64 r_), [])
theorem laws_szBoolS_e (a : List V) (left : Int) : Tot (wkF [[.dead]] []) laws_szBoolS_sh (laws_szBoolS a left) (evalFn laws_szBoolS_c laws_szBoolS_L Try.f39 [(V.inl t_bool a), (V.int .i64 left)]) := by
  have h : evalFn laws_szBoolS_c laws_szBoolS_L Try.f39 [(V.inl t_bool a), (V.int .i64 left)] = (bif (decide ((IntKind.i64.wrap (left - ((a.length : Nat) : Int))) < 0)) then some ((V.int .i64 (-1)), []) else some ((V.int .i64 (IntKind.i64.wrap (left - ((a.length : Nat) : Int)))), [])) := by kernel_rfl
  rw [h, laws_szBoolS]
  clear h
  repeat' (first | refine tot_if ?_ ?_ | refine tot_let fun _ => ?_ | exact tot_leaf (by kernel_rfl))
def laws_szBoolS_s (args : List V) : Option (Bool × (V × List V)) := bif argsOk [(.one (.inl t_bool)), (.one (.int .i64))] args then some (true, laws_szBoolS_sh (laws_szBoolS ((rd args 0).L) ((rd args 1).I))) else none
theorem laws_szBoolS_s_ok : ∀ args r, laws_szBoolS_s args = some (true, r) → SumOk Try.prog tab 39 args r :=
  Base.sumT (cfg := laws_szBoolS_c) (F := fun args => laws_szBoolS ((rd args 0).L) ((rd args 1).I)) (shr := laws_szBoolS_sh) base laws_szBoolS_c_ok Try.func39 (by kernel_rfl) (GoodAll.ok (l := []) GoodAll.nil rfl) [(.one (.inl t_bool)), (.one (.int .i64))] (by kernel_rfl) [[.dead]] [] (by kernel_rfl) fun args h => by
    have q := laws_szBoolS_e ((rd args 0).L) ((rd args 1).I)
    rw [show [(V.inl t_bool ((rd args 0).L)), (V.int .i64 ((rd args 1).I))] = args from h] at q
    exact q
def laws_szIntS_c : Cfg := ⟨tab, sumsOf [], fun _ => false, fun f => (look [] f).getD [], false, fun _ => false⟩
theorem laws_szIntS_c_ok : SumsOk Try.prog tab laws_szIntS_c.sums := sums_nil
def laws_szIntS_L : Loops := ⟨fun k => (look [] k).getD [], fun k => (look [] k).getD [], fun k => (look [] k).getD [], runL []⟩
def laws_szIntS_sh (r_ : Int) : V × List V := ((V.int .i64 r_), [])
theorem laws_szIntS_e (a : List V) (left : Int) : Tot (wkF [[.dead]] []) laws_szIntS_sh (laws_szIntS a left) (evalFn laws_szIntS_c laws_szIntS_L Try.f40 [(V.inl t_int' a), (V.int .i64 left)]) := by
  have h : evalFn laws_szIntS_c laws_szIntS_L Try.f40 [(V.inl t_int' a), (V.int .i64 left)] = (bif (decide ((IntKind.i64.wrap (left - ((a.length : Nat) : Int))) < 0)) then some ((V.int .i64 (-1)), []) else some ((V.int .i64 (IntKind.i64.wrap (left - ((a.length : Nat) : Int)))), [])) := by kernel_rfl
  rw [h, laws_szIntS]
  clear h
  repeat' (first | refine tot_if ?_ ?_ | refine tot_let fun _ => ?_ | exact tot_leaf (by kernel_rfl))
def laws_szIntS_s (args : List V) : Option (Bool × (V × List V)) := bif argsOk [(.one (.inl t_int')), (.one (.int .i64))] args then some (true, laws_szIntS_sh (laws_szIntS ((rd args 0).L) ((rd args 1).I))) else none
theorem laws_szIntS_s_ok : ∀ args r, laws_szIntS_s args = some (true, r) → SumOk Try.prog tab 40 args r :=
  Base.sumT (cfg := laws_szIntS_c) (F := fun args => laws_szIntS ((rd args 0).L) ((rd args 1).I)) (shr := laws_szIntS_sh) base laws_szIntS_c_ok Try.func40 (by kernel_rfl) (GoodAll.ok (l := []) GoodAll.nil rfl) [(.one (.inl t_int')), (.one (.int .i64))] (by kernel_rfl) [[.dead]] [] (by kernel_rfl) fun args h => by
    have q := laws_szIntS_e ((rd args 0).L) ((rd args 1).I)
    rw [show [(V.inl t_int' ((rd args 0).L)), (V.int .i64 ((rd args 1).I))] = args from h] at q
    exact q
def laws_szNode_c : Cfg := ⟨tab, sumsOf [(38, laws_szItemS_s), (39, laws_szBoolS_s), (40, laws_szIntS_s)], fun _ => false, fun f => (look [(38, [some t_laws_Item, none]), (39, [some t_bool, none]), (40, [some t_int', none])] f).getD [], false, fun _ => false⟩
theorem laws_szNode_c_ok : SumsOk Try.prog tab laws_szNode_c.sums := sums_cons f38_en laws_szItemS_s_ok (sums_cons f39_en laws_szBoolS_s_ok (sums_cons f40_en laws_szIntS_s_ok (sums_nil)))
def laws_szNode_L : Loops := ⟨fun k => (look [] k).getD [], fun k => (look [] k).getD [], fun k => (look [] k).getD [], runL []⟩
def laws_szNode_sh (r_ : Int) : V × List V := ((V.int .i64 r_), [])
theorem laws_szNode_e (a : V) (left : Int) : Agr (wkF [[.dead]] []) laws_szNode_sh (laws_szNode a left) (evalFn laws_szNode_c laws_szNode_L Try.f8 [(n_laws_Node a), (V.int .i64 left)]) := by
  have h : evalFn laws_szNode_c laws_szNode_L Try.f8 [(n_laws_Node a), (V.int .i64 left)] = (rcall (laws_szItemS (gl a 3) left) fun r2 => bif (decide (r2 < 0)) then some ((V.int .i64 (-1)), []) else bif (decide ((laws_szBoolS (gl a 8) r2) < 0)) then some ((V.int .i64 (-1)), []) else bif (decide ((laws_szIntS (gl a 9) (laws_szBoolS (gl a 8) r2)) < 0)) then some ((V.int .i64 (-1)), []) else bif (decide ((laws_szIntS (gl a 10) (laws_szIntS (gl a 9) (laws_szBoolS (gl a 8) r2))) < 0)) then some ((V.int .i64 (-1)), []) else some ((V.int .i64 (laws_szIntS (gl a 10) (laws_szIntS (gl a 9) (laws_szBoolS (gl a 8) r2)))), [])) := by kernel_rfl
  rw [h, laws_szNode]
  clear h
  repeat' (first | exact agr_none | refine agr_if ?_ ?_ | refine agr_call fun _ => ?_ | refine agr_let fun _ => ?_ | exact agr_leaf (by kernel_rfl))
def laws_szNode_s (args : List V) : Option (Bool × (V × List V)) := bif argsOk [(.agg [(.int .i64), (.int .i64), (.int .i64), (.inl t_laws_Item), (.int .i64), (.int .i64), (.int .i64), (.int .i64), (.inl t_bool), (.inl t_int'), (.inl t_int')]), (.one (.int .i64))] args then some ((laws_szNode (rd args 0) ((rd args 1).I)).isSome, laws_szNode_sh ((laws_szNode (rd args 0) ((rd args 1).I)).getD default)) else none
theorem laws_szNode_s_ok : ∀ args r, laws_szNode_s args = some (true, r) → SumOk Try.prog tab 8 args r :=
  Base.sum (cfg := laws_szNode_c) (F := fun args => laws_szNode (rd args 0) ((rd args 1).I)) (shr := laws_szNode_sh) base laws_szNode_c_ok Try.func8 (by kernel_rfl) (GoodAll.ok (l := []) GoodAll.nil rfl) [(.agg [(.int .i64), (.int .i64), (.int .i64), (.inl t_laws_Item), (.int .i64), (.int .i64), (.int .i64), (.int .i64), (.inl t_bool), (.inl t_int'), (.inl t_int')]), (.one (.int .i64))] (by kernel_rfl) [[.dead]] [] (by kernel_rfl) fun args h => by
    have q := laws_szNode_e (rd args 0) ((rd args 1).I)
    rw [show [(n_laws_Node (rd args 0)), (V.int .i64 ((rd args 1).I))] = args from h] at q
    exact q
def laws_toByteS_c : Cfg := ⟨tab, sumsOf [], fun _ => false, fun f => (look [] f).getD [], false, fun _ => false⟩
theorem laws_toByteS_c_ok : SumsOk Try.prog tab laws_toByteS_c.sums := sums_nil
def laws_toByteS_l3_e : LE := ⟨3, ⟨[(0, (.one (.inl t_byte))), (3, (.one (.sl 0 t_byte))), (4, (.one (.int .i64)))], [(.row t_byte true)], 1, []⟩, fun st => Out.tst (laws_toByteS_l3 ((((((sv st 0).L).length : Nat) : Int) - ((sv st 2).I)).toNat + 1) ((sv st 0).L) ((sv st 2).I) (br st 0)).isSome (brs ((fun r_ => 0) ((laws_toByteS_l3 ((((((sv st 0).L).length : Nat) : Int) - ((sv st 2).I)).toNat + 1) ((sv st 0).L) ((sv st 2).I) (br st 0)).getD default)) 0 ((fun r_ => [((Ex.exit 0), (⟨[(3, (V.sl 0 t_byte 0 none))], [(0, some (Blk.row t_byte true r_))], 1, []⟩ : St))]) ((laws_toByteS_l3 ((((((sv st 0).L).length : Nat) : Int) - ((sv st 2).I)).toNat + 1) ((sv st 0).L) ((sv st 2).I) (br st 0)).getD default)))⟩
def laws_toByteS_L : Loops := ⟨fun k => (look [(3, [0, 3, 4])] k).getD [], fun k => (look [] k).getD [], fun k => (look [(3, [3])] k).getD [], runL [laws_toByteS_l3_e]⟩
theorem laws_toByteS_l3_ok (k_ : Nat) : ∀ (a0 : List V) (i4 : Int) (r0 : List V), Agr id (fun r_ => pick (0) 0 [((Ex.exit 0), (⟨[(3, (V.sl 0 t_byte 0 none))], [(0, some (Blk.row t_byte true r_))], 1, []⟩ : St))]) (laws_toByteS_l3 k_ a0 i4 r0) (rounds laws_toByteS_c laws_toByteS_L ((loopsIn (bodyOf Try.f108)).getD 0 .skip) k_ (⟨[(0, (V.inl t_byte a0)), (3, (V.sl 0 t_byte 0 none)), (4, (V.int .i64 i4))], [(0, some (Blk.row t_byte true r0))], 1, []⟩ : St)) := by
  induction k_ with
  | zero => intros; exact agr_none
  | succ k_ ih =>
    intro a0 i4 r0
    have h : rounds laws_toByteS_c laws_toByteS_L ((loopsIn (bodyOf Try.f108)).getD 0 .skip) (k_ + 1) (⟨[(0, (V.inl t_byte a0)), (3, (V.sl 0 t_byte 0 none)), (4, (V.int .i64 i4))], [(0, some (Blk.row t_byte true r0))], 1, []⟩ : St) = (bif (decide (i4 < ((a0.length : Nat) : Int))) then bif (idxOk i4 a0.length) then bif (idxOk i4 r0.length) then rounds laws_toByteS_c laws_toByteS_L ((loopsIn (bodyOf Try.f108)).getD 0 .skip) k_ (⟨[(0, (V.inl t_byte a0)), (3, (V.sl 0 t_byte 0 none)), (4, (V.int .i64 (IntKind.i64.wrap (i4 + 1))))], [(0, some (Blk.row t_byte true (r0.set (0 + i4.toNat) (V.int .u8 (gi (rd a0 i4.toNat) 0)))))], 1, []⟩ : St) else none else none else some ((Ex.exit 0), (⟨[(3, (V.sl 0 t_byte 0 none))], [(0, some (Blk.row t_byte true r0))], 1, []⟩ : St))) := by kernel_rfl
    rw [h, laws_toByteS_l3]
    clear h
    repeat' (first | exact agr_none | refine agr_if ?_ ?_ | refine agr_call fun _ => ?_ | refine agr_let fun _ => ?_ | exact agr_leaf (by kernel_rfl) | exact ih _ _ _)
theorem laws_toByteS_lo : LoopsOk laws_toByteS_c laws_toByteS_L (bodyOf Try.f108) := by
  refine GoodAll.ok (l := [laws_toByteS_l3_e]) ?_ rfl
  refine GoodAll.cons 0 (by kernel_rfl) ?_ ?_
  · exact good_of (key := 3) (ss := ⟨[(0, (.one (.inl t_byte))), (3, (.one (.sl 0 t_byte))), (4, (.one (.int .i64)))], [(.row t_byte true)], 1, []⟩) (F := fun st => laws_toByteS_l3 ((((((sv st 0).L).length : Nat) : Int) - ((sv st 2).I)).toNat + 1) ((sv st 0).L) ((sv st 2).I) (br st 0)) (ix := fun r_ => 0) (ps := fun r_ => [((Ex.exit 0), (⟨[(3, (V.sl 0 t_byte 0 none))], [(0, some (Blk.row t_byte true r_))], 1, []⟩ : St))]) (fun st => (((((sv st 0).L).length : Nat) : Int) - ((sv st 2).I)).toNat + 1) fun st h => by
      have q := laws_toByteS_l3_ok ((((((sv st 0).L).length : Nat) : Int) - ((sv st 2).I)).toNat + 1) ((sv st 0).L) ((sv st 2).I) (br st 0)
      rw [show (⟨[(0, (V.inl t_byte ((sv st 0).L))), (3, (V.sl 0 t_byte 0 none)), (4, (V.int .i64 ((sv st 2).I)))], [(0, some (Blk.row t_byte true (br st 0)))], 1, []⟩ : St) = st from h] at q
      exact q
  exact GoodAll.nil
def laws_toByteS_sh (r_ : List V) : V × List V := ((V.rr t_byte true r_), [])
theorem laws_toByteS_e (a : List V) : Agr (wkF [[(.rr t_byte true)]] []) laws_toByteS_sh (laws_toByteS a) (evalFn laws_toByteS_c laws_toByteS_L Try.f108 [(V.inl t_byte a)]) := by
  have h : evalFn laws_toByteS_c laws_toByteS_L Try.f108 [(V.inl t_byte a)] = (bif (((decide ((0 : Int) ≤ ((a.length : Nat) : Int))) && decide (((a.length : Nat) : Int) = ((a.length : Nat) : Int))) && (roomy (((a.length : Nat) : Int).toNat) 1)) then rcall (laws_toByteS_l3 ((((a.length : Nat) : Int) - 0).toNat + 1) a 0 (List.replicate (((a.length : Nat) : Int).toNat) (V.int .u8 0))) fun r4 => some ((V.rr t_byte true r4), []) else none) := by kernel_rfl
  rw [h, laws_toByteS]
  clear h
  repeat' (first | exact agr_none | refine agr_if ?_ ?_ | refine agr_call fun _ => ?_ | refine agr_let fun _ => ?_ | exact agr_leaf (by kernel_rfl))
def laws_toByteS_s (args : List V) : Option (Bool × (V × List V)) := bif argsOk [(.one (.inl t_byte))] args then some ((laws_toByteS ((rd args 0).L)).isSome, laws_toByteS_sh ((laws_toByteS ((rd args 0).L)).getD default)) else none
theorem laws_toByteS_s_ok : ∀ args r, laws_toByteS_s args = some (true, r) → SumOk Try.prog tab 108 args r :=
  Base.sum (cfg := laws_toByteS_c) (F := fun args => laws_toByteS ((rd args 0).L)) (shr := laws_toByteS_sh) base laws_toByteS_c_ok Try.func108 (by kernel_rfl) laws_toByteS_lo [(.one (.inl t_byte))] (by kernel_rfl) [[(.rr t_byte true)]] [] (by kernel_rfl) fun args h => by
    have q := laws_toByteS_e ((rd args 0).L)
    rw [show [(V.inl t_byte ((rd args 0).L))] = args from h] at q
    exact q
def laws_toOp_c : Cfg := ⟨tab, sumsOf [(108, laws_toByteS_s)], fun _ => false, fun f => (look [(108, [some t_byte])] f).getD [], false, fun _ => false⟩
theorem laws_toOp_c_ok : SumsOk Try.prog tab laws_toOp_c.sums := sums_cons f108_en laws_toByteS_s_ok (sums_nil)
def laws_toOp_L : Loops := ⟨fun k => (look [] k).getD [], fun k => (look [] k).getD [], fun k => (look [] k).getD [], runL []⟩
def laws_toOp_sh (r_ : V) : V × List V := ((V.agg [(V.int .i64 (gi r_ 0)), (V.rr t_byte true (gl r_ 1)), (V.rr t_byte true (gl r_ 2)), (V.int .i64 (gi r_ 3))]), [])
theorem laws_toOp_e (a : V) : Agr (wkF [[.dead, (.rr t_byte true), (.rr t_byte true), .dead]] []) laws_toOp_sh (laws_toOp a) (evalFn laws_toOp_c laws_toOp_L Try.f67 [(n_laws_Op a)]) := by
  have h : evalFn laws_toOp_c laws_toOp_L Try.f67 [(n_laws_Op a)] = (rcall (laws_toByteS (gl a 1)) fun r5 => rcall (laws_toByteS (gl a 2)) fun r6 => some ((V.agg [(V.int .i64 (gi a 0)), (V.rr t_byte true r5), (V.rr t_byte true r6), (V.int .i64 (gi a 3))]), [])) := by kernel_rfl
  rw [h, laws_toOp]
  clear h
  repeat' (first | exact agr_none | refine agr_if ?_ ?_ | refine agr_call fun _ => ?_ | refine agr_let fun _ => ?_ | exact agr_leaf (by kernel_rfl))
def laws_toOp_s (args : List V) : Option (Bool × (V × List V)) := bif argsOk [(.agg [(.int .i64), (.inl t_byte), (.inl t_byte), (.int .i64)])] args then some ((laws_toOp (rd args 0)).isSome, laws_toOp_sh ((laws_toOp (rd args 0)).getD default)) else none
theorem laws_toOp_s_ok : ∀ args r, laws_toOp_s args = some (true, r) → SumOk Try.prog tab 67 args r :=
  Base.sum (cfg := laws_toOp_c) (F := fun args => laws_toOp (rd args 0)) (shr := laws_toOp_sh) base laws_toOp_c_ok Try.func67 (by kernel_rfl) (GoodAll.ok (l := []) GoodAll.nil rfl) [(.agg [(.int .i64), (.inl t_byte), (.inl t_byte), (.int .i64)])] (by kernel_rfl) [[.dead, (.rr t_byte true), (.rr t_byte true), .dead]] [] (by kernel_rfl) fun args h => by
    have q := laws_toOp_e (rd args 0)
    rw [show [(n_laws_Op (rd args 0))] = args from h] at q
    exact q
def laws_toCmd_c : Cfg := ⟨tab, sumsOf [(67, laws_toOp_s)], fun _ => false, fun f => (look [(67, [none])] f).getD [], false, fun _ => false⟩
theorem laws_toCmd_c_ok : SumsOk Try.prog tab laws_toCmd_c.sums := sums_cons f67_en laws_toOp_s_ok (sums_nil)
def laws_toCmd_L : Loops := ⟨fun k => (look [] k).getD [], fun k => (look [] k).getD [], fun k => (look [] k).getD [], runL []⟩
def laws_toCmd_sh (r_ : V) : V × List V := ((V.agg [(V.int .i64 (gi r_ 0)), (V.int .i64 (gi r_ 1)), (V.int .i64 (gi r_ 2)), (V.rr t_byte true (gl r_ 3)), (V.rr t_byte true (gl r_ 4)), (V.int .i64 (gi r_ 5))]), [])
theorem laws_toCmd_e (a : V) : Agr (wkF [[.dead, .dead, .dead, (.rr t_byte true), (.rr t_byte true), .dead]] []) laws_toCmd_sh (laws_toCmd a) (evalFn laws_toCmd_c laws_toCmd_L Try.f22 [(n_laws_Cmd a)]) := by
  have h : evalFn laws_toCmd_c laws_toCmd_L Try.f22 [(n_laws_Cmd a)] = (rcall (laws_toOp (V.agg [(V.int .i64 (gi a 2)), (V.inl t_byte (gl a 3)), (V.inl t_byte (gl a 4)), (V.int .i64 (gi a 5))])) fun r7 => some ((V.agg [(V.int .i64 (gi a 0)), (V.int .i64 (gi a 1)), (V.int .i64 (gi r7 0)), (V.rr t_byte true (gl r7 1)), (V.rr t_byte true (gl r7 2)), (V.int .i64 (gi r7 3))]), [])) := by kernel_rfl
  rw [h, laws_toCmd]
  clear h
  repeat' (first | exact agr_none | refine agr_if ?_ ?_ | refine agr_call fun _ => ?_ | refine agr_let fun _ => ?_ | exact agr_leaf (by kernel_rfl))
def laws_toCmd_s (args : List V) : Option (Bool × (V × List V)) := bif argsOk [(.agg [(.int .i64), (.int .i64), (.int .i64), (.inl t_byte), (.inl t_byte), (.int .i64)])] args then some ((laws_toCmd (rd args 0)).isSome, laws_toCmd_sh ((laws_toCmd (rd args 0)).getD default)) else none
theorem laws_toCmd_s_ok : ∀ args r, laws_toCmd_s args = some (true, r) → SumOk Try.prog tab 22 args r :=
  Base.sum (cfg := laws_toCmd_c) (F := fun args => laws_toCmd (rd args 0)) (shr := laws_toCmd_sh) base laws_toCmd_c_ok Try.func22 (by kernel_rfl) (GoodAll.ok (l := []) GoodAll.nil rfl) [(.agg [(.int .i64), (.int .i64), (.int .i64), (.inl t_byte), (.inl t_byte), (.int .i64)])] (by kernel_rfl) [[.dead, .dead, .dead, (.rr t_byte true), (.rr t_byte true), .dead]] [] (by kernel_rfl) fun args h => by
    have q := laws_toCmd_e (rd args 0)
    rw [show [(n_laws_Cmd (rd args 0))] = args from h] at q
    exact q
def laws_toItem_c : Cfg := ⟨tab, sumsOf [(22, laws_toCmd_s)], fun _ => false, fun f => (look [(22, [none])] f).getD [], false, fun _ => false⟩
theorem laws_toItem_c_ok : SumsOk Try.prog tab laws_toItem_c.sums := sums_cons f22_en laws_toCmd_s_ok (sums_nil)
def laws_toItem_L : Loops := ⟨fun k => (look [] k).getD [], fun k => (look [] k).getD [], fun k => (look [] k).getD [], runL []⟩
def laws_toItem_sh (r_ : V) : V × List V := ((V.agg [(V.int .i64 (gi r_ 0)), (V.int .i64 (gi r_ 1)), (V.int .i64 (gi r_ 2)), (V.int .i64 (gi r_ 3)), (V.rr t_byte true (gl r_ 4)), (V.rr t_byte true (gl r_ 5)), (V.int .i64 (gi r_ 6))]), [])
theorem laws_toItem_e (a : V) : Agr (wkF [[.dead, .dead, .dead, .dead, (.rr t_byte true), (.rr t_byte true), .dead]] []) laws_toItem_sh (laws_toItem a) (evalFn laws_toItem_c laws_toItem_L Try.f97 [(n_impl_Item a)]) := by
  have h : evalFn laws_toItem_c laws_toItem_L Try.f97 [(n_impl_Item a)] = (rcall (laws_toCmd (V.agg [(V.int .i64 (gi a 1)), (V.int .i64 (gi a 2)), (V.int .i64 (gi a 3)), (V.inl t_byte (gl a 4)), (V.inl t_byte (gl a 5)), (V.int .i64 (gi a 6))])) fun r8 => some ((V.agg [(V.int .i64 (gi a 0)), (V.int .i64 (gi r8 0)), (V.int .i64 (gi r8 1)), (V.int .i64 (gi r8 2)), (V.rr t_byte true (gl r8 3)), (V.rr t_byte true (gl r8 4)), (V.int .i64 (gi r8 5))]), [])) := by kernel_rfl
  rw [h, laws_toItem]
  clear h
  repeat' (first | exact agr_none | refine agr_if ?_ ?_ | refine agr_call fun _ => ?_ | refine agr_let fun _ => ?_ | exact agr_leaf (by kernel_rfl))
def laws_toItem_s (args : List V) : Option (Bool × (V × List V)) := bif argsOk [(.agg [(.int .i64), (.int .i64), (.int .i64), (.int .i64), (.inl t_byte), (.inl t_byte), (.int .i64)])] args then some ((laws_toItem (rd args 0)).isSome, laws_toItem_sh ((laws_toItem (rd args 0)).getD default)) else none
theorem laws_toItem_s_ok : ∀ args r, laws_toItem_s args = some (true, r) → SumOk Try.prog tab 97 args r :=
  Base.sum (cfg := laws_toItem_c) (F := fun args => laws_toItem (rd args 0)) (shr := laws_toItem_sh) base laws_toItem_c_ok Try.func97 (by kernel_rfl) (GoodAll.ok (l := []) GoodAll.nil rfl) [(.agg [(.int .i64), (.int .i64), (.int .i64), (.int .i64), (.inl t_byte), (.inl t_byte), (.int .i64)])] (by kernel_rfl) [[.dead, .dead, .dead, .dead, (.rr t_byte true), (.rr t_byte true), .dead]] [] (by kernel_rfl) fun args h => by
    have q := laws_toItem_e (rd args 0)
    rw [show [(n_impl_Item (rd args 0))] = args from h] at q
    exact q
def laws_toItemS_c : Cfg := ⟨tab, sumsOf [(97, laws_toItem_s)], fun _ => false, fun f => (look [(97, [none])] f).getD [], false, fun _ => false⟩
theorem laws_toItemS_c_ok : SumsOk Try.prog tab laws_toItemS_c.sums := sums_cons f97_en laws_toItem_s_ok (sums_nil)
def laws_toItemS_l3_e : LE := ⟨3, ⟨[(0, (.one (.inl t_laws_Item))), (3, (.one (.sl 0 t_impl_Item))), (4, (.one (.int .i64)))], [(.row t_impl_Item true)], 1, []⟩, fun st => Out.tst (laws_toItemS_l3 ((((((sv st 0).L).length : Nat) : Int) - ((sv st 2).I)).toNat + 1) ((sv st 0).L) ((sv st 2).I) (br st 0)).isSome (brs ((fun r_ => 0) ((laws_toItemS_l3 ((((((sv st 0).L).length : Nat) : Int) - ((sv st 2).I)).toNat + 1) ((sv st 0).L) ((sv st 2).I) (br st 0)).getD default)) 0 ((fun r_ => [((Ex.exit 0), (⟨[(3, (V.sl 0 t_impl_Item 0 none))], [(0, some (Blk.row t_impl_Item true r_))], 1, []⟩ : St))]) ((laws_toItemS_l3 ((((((sv st 0).L).length : Nat) : Int) - ((sv st 2).I)).toNat + 1) ((sv st 0).L) ((sv st 2).I) (br st 0)).getD default)))⟩
def laws_toItemS_L : Loops := ⟨fun k => (look [(3, [0, 3, 4])] k).getD [], fun k => (look [] k).getD [], fun k => (look [(3, [3])] k).getD [], runL [laws_toItemS_l3_e]⟩
theorem laws_toItemS_l3_ok (k_ : Nat) : ∀ (a0 : List V) (i4 : Int) (r0 : List V), Agr id (fun r_ => pick (0) 0 [((Ex.exit 0), (⟨[(3, (V.sl 0 t_impl_Item 0 none))], [(0, some (Blk.row t_impl_Item true r_))], 1, []⟩ : St))]) (laws_toItemS_l3 k_ a0 i4 r0) (rounds laws_toItemS_c laws_toItemS_L ((loopsIn (bodyOf Try.f43)).getD 0 .skip) k_ (⟨[(0, (V.inl t_laws_Item a0)), (3, (V.sl 0 t_impl_Item 0 none)), (4, (V.int .i64 i4))], [(0, some (Blk.row t_impl_Item true r0))], 1, []⟩ : St)) := by
  induction k_ with
  | zero => intros; exact agr_none
  | succ k_ ih =>
    intro a0 i4 r0
    have h : rounds laws_toItemS_c laws_toItemS_L ((loopsIn (bodyOf Try.f43)).getD 0 .skip) (k_ + 1) (⟨[(0, (V.inl t_laws_Item a0)), (3, (V.sl 0 t_impl_Item 0 none)), (4, (V.int .i64 i4))], [(0, some (Blk.row t_impl_Item true r0))], 1, []⟩ : St) = (bif (decide (i4 < ((a0.length : Nat) : Int))) then bif (idxOk i4 a0.length) then rcall (laws_toItem (n_impl_Item (rd a0 i4.toNat))) fun r9 => bif (idxOk i4 r0.length) then rounds laws_toItemS_c laws_toItemS_L ((loopsIn (bodyOf Try.f43)).getD 0 .skip) k_ (⟨[(0, (V.inl t_laws_Item a0)), (3, (V.sl 0 t_impl_Item 0 none)), (4, (V.int .i64 (IntKind.i64.wrap (i4 + 1))))], [(0, some (Blk.row t_impl_Item true (r0.set (0 + i4.toNat) (n_impl_Item r9))))], 1, []⟩ : St) else none else none else some ((Ex.exit 0), (⟨[(3, (V.sl 0 t_impl_Item 0 none))], [(0, some (Blk.row t_impl_Item true r0))], 1, []⟩ : St))) := by kernel_rfl
    rw [h, laws_toItemS_l3]
    clear h
    repeat' (first | exact agr_none | refine agr_if ?_ ?_ | refine agr_call fun _ => ?_ | refine agr_let fun _ => ?_ | exact agr_leaf (by kernel_rfl) | exact ih _ _ _)
theorem laws_toItemS_lo : LoopsOk laws_toItemS_c laws_toItemS_L (bodyOf Try.f43) := by
  refine GoodAll.ok (l := [laws_toItemS_l3_e]) ?_ rfl
  refine GoodAll.cons 0 (by kernel_rfl) ?_ ?_
  · exact good_of (key := 3) (ss := ⟨[(0, (.one (.inl t_laws_Item))), (3, (.one (.sl 0 t_impl_Item))), (4, (.one (.int .i64)))], [(.row t_impl_Item true)], 1, []⟩) (F := fun st => laws_toItemS_l3 ((((((sv st 0).L).length : Nat) : Int) - ((sv st 2).I)).toNat + 1) ((sv st 0).L) ((sv st 2).I) (br st 0)) (ix := fun r_ => 0) (ps := fun r_ => [((Ex.exit 0), (⟨[(3, (V.sl 0 t_impl_Item 0 none))], [(0, some (Blk.row t_impl_Item true r_))], 1, []⟩ : St))]) (fun st => (((((sv st 0).L).length : Nat) : Int) - ((sv st 2).I)).toNat + 1) fun st h => by
      have q := laws_toItemS_l3_ok ((((((sv st 0).L).length : Nat) : Int) - ((sv st 2).I)).toNat + 1) ((sv st 0).L) ((sv st 2).I) (br st 0)
      rw [show (⟨[(0, (V.inl t_laws_Item ((sv st 0).L))), (3, (V.sl 0 t_impl_Item 0 none)), (4, (V.int .i64 ((sv st 2).I)))], [(0, some (Blk.row t_impl_Item true (br st 0)))], 1, []⟩ : St) = st from h] at q
      exact q
  exact GoodAll.nil
def laws_toItemS_sh (r_ : List V) : V × List V := ((V.rr t_impl_Item true r_), [])
theorem laws_toItemS_e (a : List V) : Agr (wkF [[(.rr t_impl_Item true)]] []) laws_toItemS_sh (laws_toItemS a) (evalFn laws_toItemS_c laws_toItemS_L Try.f43 [(V.inl t_laws_Item a)]) := by
  have h : evalFn laws_toItemS_c laws_toItemS_L Try.f43 [(V.inl t_laws_Item a)] = (bif (((decide ((0 : Int) ≤ ((a.length : Nat) : Int))) && decide (((a.length : Nat) : Int) = ((a.length : Nat) : Int))) && (roomy (((a.length : Nat) : Int).toNat) 88)) then rcall (laws_toItemS_l3 ((((a.length : Nat) : Int) - 0).toNat + 1) a 0 (List.replicate (((a.length : Nat) : Int).toNat) (V.agg [(V.int .i64 0), (V.int .i64 0), (V.int .i64 0), (V.int .i64 0), (V.inl t_byte []), (V.inl t_byte []), (V.int .i64 0)]))) fun r10 => some ((V.rr t_impl_Item true r10), []) else none) := by kernel_rfl
  rw [h, laws_toItemS]
  clear h
  repeat' (first | exact agr_none | refine agr_if ?_ ?_ | refine agr_call fun _ => ?_ | refine agr_let fun _ => ?_ | exact agr_leaf (by kernel_rfl))
def laws_toItemS_s (args : List V) : Option (Bool × (V × List V)) := bif argsOk [(.one (.inl t_laws_Item))] args then some ((laws_toItemS ((rd args 0).L)).isSome, laws_toItemS_sh ((laws_toItemS ((rd args 0).L)).getD default)) else none
theorem laws_toItemS_s_ok : ∀ args r, laws_toItemS_s args = some (true, r) → SumOk Try.prog tab 43 args r :=
  Base.sum (cfg := laws_toItemS_c) (F := fun args => laws_toItemS ((rd args 0).L)) (shr := laws_toItemS_sh) base laws_toItemS_c_ok Try.func43 (by kernel_rfl) laws_toItemS_lo [(.one (.inl t_laws_Item))] (by kernel_rfl) [[(.rr t_impl_Item true)]] [] (by kernel_rfl) fun args h => by
    have q := laws_toItemS_e ((rd args 0).L)
    rw [show [(V.inl t_laws_Item ((rd args 0).L))] = args from h] at q
    exact q
def laws_toBoolS_c : Cfg := ⟨tab, sumsOf [], fun _ => false, fun f => (look [] f).getD [], false, fun _ => false⟩
theorem laws_toBoolS_c_ok : SumsOk Try.prog tab laws_toBoolS_c.sums := sums_nil
def laws_toBoolS_l3_e : LE := ⟨3, ⟨[(0, (.one (.inl t_bool))), (3, (.one (.sl 0 t_bool))), (4, (.one (.int .i64)))], [(.row t_bool true)], 1, []⟩, fun st => Out.tst (laws_toBoolS_l3 ((((((sv st 0).L).length : Nat) : Int) - ((sv st 2).I)).toNat + 1) ((sv st 0).L) ((sv st 2).I) (br st 0)).isSome (brs ((fun r_ => 0) ((laws_toBoolS_l3 ((((((sv st 0).L).length : Nat) : Int) - ((sv st 2).I)).toNat + 1) ((sv st 0).L) ((sv st 2).I) (br st 0)).getD default)) 0 ((fun r_ => [((Ex.exit 0), (⟨[(3, (V.sl 0 t_bool 0 none))], [(0, some (Blk.row t_bool true r_))], 1, []⟩ : St))]) ((laws_toBoolS_l3 ((((((sv st 0).L).length : Nat) : Int) - ((sv st 2).I)).toNat + 1) ((sv st 0).L) ((sv st 2).I) (br st 0)).getD default)))⟩
def laws_toBoolS_L : Loops := ⟨fun k => (look [(3, [0, 3, 4])] k).getD [], fun k => (look [] k).getD [], fun k => (look [(3, [3])] k).getD [], runL [laws_toBoolS_l3_e]⟩
theorem laws_toBoolS_l3_ok (k_ : Nat) : ∀ (a0 : List V) (i4 : Int) (r0 : List V), Agr id (fun r_ => pick (0) 0 [((Ex.exit 0), (⟨[(3, (V.sl 0 t_bool 0 none))], [(0, some (Blk.row t_bool true r_))], 1, []⟩ : St))]) (laws_toBoolS_l3 k_ a0 i4 r0) (rounds laws_toBoolS_c laws_toBoolS_L ((loopsIn (bodyOf Try.f44)).getD 0 .skip) k_ (⟨[(0, (V.inl t_bool a0)), (3, (V.sl 0 t_bool 0 none)), (4, (V.int .i64 i4))], [(0, some (Blk.row t_bool true r0))], 1, []⟩ : St)) := by
  induction k_ with
  | zero => intros; exact agr_none
  | succ k_ ih =>
    intro a0 i4 r0
    have h : rounds laws_toBoolS_c laws_toBoolS_L ((loopsIn (bodyOf Try.f44)).getD 0 .skip) (k_ + 1) (⟨[(0, (V.inl t_bool a0)), (3, (V.sl 0 t_bool 0 none)), (4, (V.int .i64 i4))], [(0, some (Blk.row t_bool true r0))], 1, []⟩ : St) = (bif (decide (i4 < ((a0.length : Nat) : Int))) then bif (idxOk i4 a0.length) then bif (idxOk i4 r0.length) then rounds laws_toBoolS_c laws_toBoolS_L ((loopsIn (bodyOf Try.f44)).getD 0 .skip) k_ (⟨[(0, (V.inl t_bool a0)), (3, (V.sl 0 t_bool 0 none)), (4, (V.int .i64 (IntKind.i64.wrap (i4 + 1))))], [(0, some (Blk.row t_bool true (r0.set (0 + i4.toNat) (V.bool (gb (rd a0 i4.toNat) 0)))))], 1, []⟩ : St) else none else none else some ((Ex.exit 0), (⟨[(3, (V.sl 0 t_bool 0 none))], [(0, some (Blk.row t_bool true r0))], 1, []⟩ : St))) := by kernel_rfl
    rw [h, laws_toBoolS_l3]
    clear h
    repeat' (first | exact agr_none | refine agr_if ?_ ?_ | refine agr_call fun _ => ?_ | refine agr_let fun _ => ?_ | exact agr_leaf (by kernel_rfl) | exact ih _ _ _)
theorem laws_toBoolS_lo : LoopsOk laws_toBoolS_c laws_toBoolS_L (bodyOf Try.f44) := by
  refine GoodAll.ok (l := [laws_toBoolS_l3_e]) ?_ rfl
  refine GoodAll.cons 0 (by kernel_rfl) ?_ ?_
  · exact good_of (key := 3) (ss := ⟨[(0, (.one (.inl t_bool))), (3, (.one (.sl 0 t_bool))), (4, (.one (.int .i64)))], [(.row t_bool true)], 1, []⟩) (F := fun st => laws_toBoolS_l3 ((((((sv st 0).L).length : Nat) : Int) - ((sv st 2).I)).toNat + 1) ((sv st 0).L) ((sv st 2).I) (br st 0)) (ix := fun r_ => 0) (ps := fun r_ => [((Ex.exit 0), (⟨[(3, (V.sl 0 t_bool 0 none))], [(0, some (Blk.row t_bool true r_))], 1, []⟩ : St))]) (fun st => (((((sv st 0).L).length : Nat) : Int) - ((sv st 2).I)).toNat + 1) fun st h => by
      have q := laws_toBoolS_l3_ok ((((((sv st 0).L).length : Nat) : Int) - ((sv st 2).I)).toNat + 1) ((sv st 0).L) ((sv st 2).I) (br st 0)
      rw [show (⟨[(0, (V.inl t_bool ((sv st 0).L))), (3, (V.sl 0 t_bool 0 none)), (4, (V.int .i64 ((sv st 2).I)))], [(0, some (Blk.row t_bool true (br st 0)))], 1, []⟩ : St) = st from h] at q
      exact q
  exact GoodAll.nil
def laws_toBoolS_sh (r_ : List V) : V × List V := ((V.rr t_bool true r_), [])
theorem laws_toBoolS_e (a : List V) : Agr (wkF [[(.rr t_bool true)]] []) laws_toBoolS_sh (laws_toBoolS a) (evalFn laws_toBoolS_c laws_toBoolS_L Try.f44 [(V.inl t_bool a)]) := by
  have h : evalFn laws_toBoolS_c laws_toBoolS_L Try.f44 [(V.inl t_bool a)] = (bif (((decide ((0 : Int) ≤ ((a.length : Nat) : Int))) && decide (((a.length : Nat) : Int) = ((a.length : Nat) : Int))) && (roomy (((a.length : Nat) : Int).toNat) 1)) then rcall (laws_toBoolS_l3 ((((a.length : Nat) : Int) - 0).toNat + 1) a 0 (List.replicate (((a.length : Nat) : Int).toNat) (V.bool false))) fun r12 => some ((V.rr t_bool true r12), []) else none) := by kernel_rfl
  rw [h, laws_toBoolS]
  clear h
  repeat' (first | exact agr_none | refine agr_if ?_ ?_ | refine agr_call fun _ => ?_ | refine agr_let fun _ => ?_ | exact agr_leaf (by kernel_rfl))
def laws_toBoolS_s (args : List V) : Option (Bool × (V × List V)) := bif argsOk [(.one (.inl t_bool))] args then some ((laws_toBoolS ((rd args 0).L)).isSome, laws_toBoolS_sh ((laws_toBoolS ((rd args 0).L)).getD default)) else none
theorem laws_toBoolS_s_ok : ∀ args r, laws_toBoolS_s args = some (true, r) → SumOk Try.prog tab 44 args r :=
  Base.sum (cfg := laws_toBoolS_c) (F := fun args => laws_toBoolS ((rd args 0).L)) (shr := laws_toBoolS_sh) base laws_toBoolS_c_ok Try.func44 (by kernel_rfl) laws_toBoolS_lo [(.one (.inl t_bool))] (by kernel_rfl) [[(.rr t_bool true)]] [] (by kernel_rfl) fun args h => by
    have q := laws_toBoolS_e ((rd args 0).L)
    rw [show [(V.inl t_bool ((rd args 0).L))] = args from h] at q
    exact q
def laws_toIntS_c : Cfg := ⟨tab, sumsOf [], fun _ => false, fun f => (look [] f).getD [], false, fun _ => false⟩
theorem laws_toIntS_c_ok : SumsOk Try.prog tab laws_toIntS_c.sums := sums_nil
def laws_toIntS_l3_e : LE := ⟨3, ⟨[(0, (.one (.inl t_int'))), (3, (.one (.sl 0 t_int'))), (4, (.one (.int .i64)))], [(.row t_int' true)], 1, []⟩, fun st => Out.tst (laws_toIntS_l3 ((((((sv st 0).L).length : Nat) : Int) - ((sv st 2).I)).toNat + 1) ((sv st 0).L) ((sv st 2).I) (br st 0)).isSome (brs ((fun r_ => 0) ((laws_toIntS_l3 ((((((sv st 0).L).length : Nat) : Int) - ((sv st 2).I)).toNat + 1) ((sv st 0).L) ((sv st 2).I) (br st 0)).getD default)) 0 ((fun r_ => [((Ex.exit 0), (⟨[(3, (V.sl 0 t_int' 0 none))], [(0, some (Blk.row t_int' true r_))], 1, []⟩ : St))]) ((laws_toIntS_l3 ((((((sv st 0).L).length : Nat) : Int) - ((sv st 2).I)).toNat + 1) ((sv st 0).L) ((sv st 2).I) (br st 0)).getD default)))⟩
def laws_toIntS_L : Loops := ⟨fun k => (look [(3, [0, 3, 4])] k).getD [], fun k => (look [] k).getD [], fun k => (look [(3, [3])] k).getD [], runL [laws_toIntS_l3_e]⟩
theorem laws_toIntS_l3_ok (k_ : Nat) : ∀ (a0 : List V) (i4 : Int) (r0 : List V), Agr id (fun r_ => pick (0) 0 [((Ex.exit 0), (⟨[(3, (V.sl 0 t_int' 0 none))], [(0, some (Blk.row t_int' true r_))], 1, []⟩ : St))]) (laws_toIntS_l3 k_ a0 i4 r0) (rounds laws_toIntS_c laws_toIntS_L ((loopsIn (bodyOf Try.f45)).getD 0 .skip) k_ (⟨[(0, (V.inl t_int' a0)), (3, (V.sl 0 t_int' 0 none)), (4, (V.int .i64 i4))], [(0, some (Blk.row t_int' true r0))], 1, []⟩ : St)) := by
  induction k_ with
  | zero => intros; exact agr_none
  | succ k_ ih =>
    intro a0 i4 r0
    have h : rounds laws_toIntS_c laws_toIntS_L ((loopsIn (bodyOf Try.f45)).getD 0 .skip) (k_ + 1) (⟨[(0, (V.inl t_int' a0)), (3, (V.sl 0 t_int' 0 none)), (4, (V.int .i64 i4))], [(0, some (Blk.row t_int' true r0))], 1, []⟩ : St) = (bif (decide (i4 < ((a0.length : Nat) : Int))) then bif (idxOk i4 a0.length) then bif (idxOk i4 r0.length) then rounds laws_toIntS_c laws_toIntS_L ((loopsIn (bodyOf Try.f45)).getD 0 .skip) k_ (⟨[(0, (V.inl t_int' a0)), (3, (V.sl 0 t_int' 0 none)), (4, (V.int .i64 (IntKind.i64.wrap (i4 + 1))))], [(0, some (Blk.row t_int' true (r0.set (0 + i4.toNat) (V.int .i64 (gi (rd a0 i4.toNat) 0)))))], 1, []⟩ : St) else none else none else some ((Ex.exit 0), (⟨[(3, (V.sl 0 t_int' 0 none))], [(0, some (Blk.row t_int' true r0))], 1, []⟩ : St))) := by kernel_rfl
    rw [h, laws_toIntS_l3]
    clear h
    repeat' (first | exact agr_none | refine agr_if ?_ ?_ | refine agr_call fun _ => ?_ | refine agr_let fun _ => ?_ | exact agr_leaf (by kernel_rfl) | exact ih _ _ _)
theorem laws_toIntS_lo : LoopsOk laws_toIntS_c laws_toIntS_L (bodyOf Try.f45) := by
  refine GoodAll.ok (l := [laws_toIntS_l3_e]) ?_ rfl
  refine GoodAll.cons 0 (by kernel_rfl) ?_ ?_
  · exact good_of (key := 3) (ss := ⟨[(0, (.one (.inl t_int'))), (3, (.one (.sl 0 t_int'))), (4, (.one (.int .i64)))], [(.row t_int' true)], 1, []⟩) (F := fun st => laws_toIntS_l3 ((((((sv st 0).L).length : Nat) : Int) - ((sv st 2).I)).toNat + 1) ((sv st 0).L) ((sv st 2).I) (br st 0)) (ix := fun r_ => 0) (ps := fun r_ => [((Ex.exit 0), (⟨[(3, (V.sl 0 t_int' 0 none))], [(0, some (Blk.row t_int' true r_))], 1, []⟩ : St))]) (fun st => (((((sv st 0).L).length : Nat) : Int) - ((sv st 2).I)).toNat + 1) fun st h => by
      have q := laws_toIntS_l3_ok ((((((sv st 0).L).length : Nat) : Int) - ((sv st 2).I)).toNat + 1) ((sv st 0).L) ((sv st 2).I) (br st 0)
      rw [show (⟨[(0, (V.inl t_int' ((sv st 0).L))), (3, (V.sl 0 t_int' 0 none)), (4, (V.int .i64 ((sv st 2).I)))], [(0, some (Blk.row t_int' true (br st 0)))], 1, []⟩ : St) = st from h] at q
      exact q
  exact GoodAll.nil
def laws_toIntS_sh (r_ : List V) : V × List V := ((V.rr t_int' true r_), [])
theorem laws_toIntS_e (a : List V) : Agr (wkF [[(.rr t_int' true)]] []) laws_toIntS_sh (laws_toIntS a) (evalFn laws_toIntS_c laws_toIntS_L Try.f45 [(V.inl t_int' a)]) := by
  have h : evalFn laws_toIntS_c laws_toIntS_L Try.f45 [(V.inl t_int' a)] = (bif (((decide ((0 : Int) ≤ ((a.length : Nat) : Int))) && decide (((a.length : Nat) : Int) = ((a.length : Nat) : Int))) && (roomy (((a.length : Nat) : Int).toNat) 8)) then rcall (laws_toIntS_l3 ((((a.length : Nat) : Int) - 0).toNat + 1) a 0 (List.replicate (((a.length : Nat) : Int).toNat) (V.int .i64 0))) fun r14 => some ((V.rr t_int' true r14), []) else none) := by kernel_rfl
  rw [h, laws_toIntS]
  clear h
  repeat' (first | exact agr_none | refine agr_if ?_ ?_ | refine agr_call fun _ => ?_ | refine agr_let fun _ => ?_ | exact agr_leaf (by kernel_rfl))
def laws_toIntS_s (args : List V) : Option (Bool × (V × List V)) := bif argsOk [(.one (.inl t_int'))] args then some ((laws_toIntS ((rd args 0).L)).isSome, laws_toIntS_sh ((laws_toIntS ((rd args 0).L)).getD default)) else none
theorem laws_toIntS_s_ok : ∀ args r, laws_toIntS_s args = some (true, r) → SumOk Try.prog tab 45 args r :=
  Base.sum (cfg := laws_toIntS_c) (F := fun args => laws_toIntS ((rd args 0).L)) (shr := laws_toIntS_sh) base laws_toIntS_c_ok Try.func45 (by kernel_rfl) laws_toIntS_lo [(.one (.inl t_int'))] (by kernel_rfl) [[(.rr t_int' true)]] [] (by kernel_rfl) fun args h => by
    have q := laws_toIntS_e ((rd args 0).L)
    rw [show [(V.inl t_int' ((rd args 0).L))] = args from h] at q
    exact q
def laws_toNode_c : Cfg := ⟨tab, sumsOf [(43, laws_toItemS_s), (44, laws_toBoolS_s), (45, laws_toIntS_s)], fun _ => false, fun f => (look [(43, [some t_laws_Item]), (44, [some t_bool]), (45, [some t_int'])] f).getD [], false, fun _ => false⟩
theorem laws_toNode_c_ok : SumsOk Try.prog tab laws_toNode_c.sums := sums_cons f43_en laws_toItemS_s_ok (sums_cons f44_en laws_toBoolS_s_ok (sums_cons f45_en laws_toIntS_s_ok (sums_nil)))
def laws_toNode_L : Loops := ⟨fun k => (look [] k).getD [], fun k => (look [] k).getD [], fun k => (look [] k).getD [], runL []⟩
def laws_toNode_sh (r_ : V) : V × List V := ((V.agg [(V.int .i64 (gi r_ 0)), (V.int .i64 (gi r_ 1)), (V.int .i64 (gi r_ 2)), (V.rr t_impl_Item true (gl r_ 3)), (V.int .i64 (gi r_ 4)), (V.int .i64 (gi r_ 5)), (V.int .i64 (gi r_ 6)), (V.int .i64 (gi r_ 7)), (V.rr t_bool true (gl r_ 8)), (V.rr t_int' true (gl r_ 9)), (V.rr t_int' true (gl r_ 10))]), [])
theorem laws_toNode_e (a : V) : Agr (wkF [[.dead, .dead, .dead, (.rr t_impl_Item true), .dead, .dead, .dead, .dead, (.rr t_bool true), (.rr t_int' true), (.rr t_int' true)]] []) laws_toNode_sh (laws_toNode a) (evalFn laws_toNode_c laws_toNode_L Try.f10 [(n_laws_Node a)]) := by
  have h : evalFn laws_toNode_c laws_toNode_L Try.f10 [(n_laws_Node a)] = (rcall (laws_toItemS (gl a 3)) fun r11 => rcall (laws_toBoolS (gl a 8)) fun r13 => rcall (laws_toIntS (gl a 9)) fun r15 => rcall (laws_toIntS (gl a 10)) fun r16 => some ((V.agg [(V.int .i64 (gi a 0)), (V.int .i64 (gi a 1)), (V.int .i64 (gi a 2)), (V.rr t_impl_Item true r11), (V.int .i64 (gi a 4)), (V.int .i64 (gi a 5)), (V.int .i64 (gi a 6)), (V.int .i64 (gi a 7)), (V.rr t_bool true r13), (V.rr t_int' true r15), (V.rr t_int' true r16)]), [])) := by kernel_rfl
  rw [h, laws_toNode]
  clear h
  repeat' (first | exact agr_none | refine agr_if ?_ ?_ | refine agr_call fun _ => ?_ | refine agr_let fun _ => ?_ | exact agr_leaf (by kernel_rfl))
def laws_toNode_s (args : List V) : Option (Bool × (V × List V)) := bif argsOk [(.agg [(.int .i64), (.int .i64), (.int .i64), (.inl t_laws_Item), (.int .i64), (.int .i64), (.int .i64), (.int .i64), (.inl t_bool), (.inl t_int'), (.inl t_int')])] args then some ((laws_toNode (rd args 0)).isSome, laws_toNode_sh ((laws_toNode (rd args 0)).getD default)) else none
theorem laws_toNode_s_ok : ∀ args r, laws_toNode_s args = some (true, r) → SumOk Try.prog tab 10 args r :=
  Base.sum (cfg := laws_toNode_c) (F := fun args => laws_toNode (rd args 0)) (shr := laws_toNode_sh) base laws_toNode_c_ok Try.func10 (by kernel_rfl) (GoodAll.ok (l := []) GoodAll.nil rfl) [(.agg [(.int .i64), (.int .i64), (.int .i64), (.inl t_laws_Item), (.int .i64), (.int .i64), (.int .i64), (.int .i64), (.inl t_bool), (.inl t_int'), (.inl t_int')])] (by kernel_rfl) [[.dead, .dead, .dead, (.rr t_impl_Item true), .dead, .dead, .dead, .dead, (.rr t_bool true), (.rr t_int' true), (.rr t_int' true)]] [] (by kernel_rfl) fun args h => by
    have q := laws_toNode_e (rd args 0)
    rw [show [(n_laws_Node (rd args 0))] = args from h] at q
    exact q
def spec_l4servers_c : Cfg := ⟨tab, sumsOf [], fun _ => false, fun f => (look [] f).getD [], false, fun _ => false⟩
theorem spec_l4servers_c_ok : SumsOk Try.prog tab spec_l4servers_c.sums := sums_nil
def spec_l4servers_L : Loops := ⟨fun k => (look [] k).getD [], fun k => (look [] k).getD [], fun k => (look [] k).getD [], runL []⟩
def spec_l4servers_sh (r_ : Bool) : V × List V := ((V.bool r_), [])
theorem spec_l4servers_e (n : Int) : Tot (wkF [[.dead]] []) spec_l4servers_sh (spec_l4servers n) (evalFn spec_l4servers_c spec_l4servers_L Try.f83 [(V.int .i64 n)]) := by
  have h : evalFn spec_l4servers_c spec_l4servers_L Try.f83 [(V.int .i64 n)] = (bif (decide ((1 : Int) ≤ n)) then some ((V.bool (decide (n ≤ 5))), []) else some ((V.bool false), [])) := by kernel_rfl
  rw [h, spec_l4servers]
  clear h
  repeat' (first | refine tot_if ?_ ?_ | refine tot_let fun _ => ?_ | exact tot_leaf (by kernel_rfl))
def spec_l4servers_s (args : List V) : Option (Bool × (V × List V)) := bif argsOk [(.one (.int .i64))] args then some (true, spec_l4servers_sh (spec_l4servers ((rd args 0).I))) else none
theorem spec_l4servers_s_ok : ∀ args r, spec_l4servers_s args = some (true, r) → SumOk Try.prog tab 83 args r :=
  Base.sumT (cfg := spec_l4servers_c) (F := fun args => spec_l4servers ((rd args 0).I)) (shr := spec_l4servers_sh) base spec_l4servers_c_ok Try.func83 (by kernel_rfl) (GoodAll.ok (l := []) GoodAll.nil rfl) [(.one (.int .i64))] (by kernel_rfl) [[.dead]] [] (by kernel_rfl) fun args h => by
    have q := spec_l4servers_e ((rd args 0).I)
    rw [show [(V.int .i64 ((rd args 0).I))] = args from h] at q
    exact q
def spec_l3term_c : Cfg := ⟨tab, sumsOf [], fun _ => false, fun f => (look [] f).getD [], false, fun _ => false⟩
theorem spec_l3term_c_ok : SumsOk Try.prog tab spec_l3term_c.sums := sums_nil
def spec_l3term_L : Loops := ⟨fun k => (look [] k).getD [], fun k => (look [] k).getD [], fun k => (look [] k).getD [], runL []⟩
def spec_l3term_sh (r_ : Bool) : V × List V := ((V.bool r_), [])
theorem spec_l3term_e (n : Int) : Tot (wkF [[.dead]] []) spec_l3term_sh (spec_l3term n) (evalFn spec_l3term_c spec_l3term_L Try.f84 [(V.int .i64 n)]) := by
  have h : evalFn spec_l3term_c spec_l3term_L Try.f84 [(V.int .i64 n)] = (bif (decide ((0 : Int) ≤ n)) then some ((V.bool (decide (n ≤ 100000))), []) else some ((V.bool false), [])) := by kernel_rfl
  rw [h, spec_l3term]
  clear h
  repeat' (first | refine tot_if ?_ ?_ | refine tot_let fun _ => ?_ | exact tot_leaf (by kernel_rfl))
def spec_l3term_s (args : List V) : Option (Bool × (V × List V)) := bif argsOk [(.one (.int .i64))] args then some (true, spec_l3term_sh (spec_l3term ((rd args 0).I))) else none
theorem spec_l3term_s_ok : ∀ args r, spec_l3term_s args = some (true, r) → SumOk Try.prog tab 84 args r :=
  Base.sumT (cfg := spec_l3term_c) (F := fun args => spec_l3term ((rd args 0).I)) (shr := spec_l3term_sh) base spec_l3term_c_ok Try.func84 (by kernel_rfl) (GoodAll.ok (l := []) GoodAll.nil rfl) [(.one (.int .i64))] (by kernel_rfl) [[.dead]] [] (by kernel_rfl) fun args h => by
    have q := spec_l3term_e ((rd args 0).I)
    rw [show [(V.int .i64 ((rd args 0).I))] = args from h] at q
    exact q
def spec_l4who_c : Cfg := ⟨tab, sumsOf [], fun _ => false, fun f => (look [] f).getD [], false, fun _ => false⟩
theorem spec_l4who_c_ok : SumsOk Try.prog tab spec_l4who_c.sums := sums_nil
def spec_l4who_L : Loops := ⟨fun k => (look [] k).getD [], fun k => (look [] k).getD [], fun k => (look [] k).getD [], runL []⟩
def spec_l4who_sh (r_ : Bool) : V × List V := ((V.bool r_), [])
theorem spec_l4who_e (n : Int) (servers : Int) : Tot (wkF [[.dead]] []) spec_l4who_sh (spec_l4who n servers) (evalFn spec_l4who_c spec_l4who_L Try.f85 [(V.int .i64 n), (V.int .i64 servers)]) := by
  have h : evalFn spec_l4who_c spec_l4who_L Try.f85 [(V.int .i64 n), (V.int .i64 servers)] = (bif (decide ((-1 : Int) ≤ n)) then some ((V.bool (decide (n < servers))), []) else some ((V.bool false), [])) := by kernel_rfl
  rw [h, spec_l4who]
  clear h
  repeat' (first | refine tot_if ?_ ?_ | refine tot_let fun _ => ?_ | exact tot_leaf (by kernel_rfl))
def spec_l4who_s (args : List V) : Option (Bool × (V × List V)) := bif argsOk [(.one (.int .i64)), (.one (.int .i64))] args then some (true, spec_l4who_sh (spec_l4who ((rd args 0).I) ((rd args 1).I))) else none
theorem spec_l4who_s_ok : ∀ args r, spec_l4who_s args = some (true, r) → SumOk Try.prog tab 85 args r :=
  Base.sumT (cfg := spec_l4who_c) (F := fun args => spec_l4who ((rd args 0).I) ((rd args 1).I)) (shr := spec_l4who_sh) base spec_l4who_c_ok Try.func85 (by kernel_rfl) (GoodAll.ok (l := []) GoodAll.nil rfl) [(.one (.int .i64)), (.one (.int .i64))] (by kernel_rfl) [[.dead]] [] (by kernel_rfl) fun args h => by
    have q := spec_l4who_e ((rd args 0).I) ((rd args 1).I)
    rw [show [(V.int .i64 ((rd args 0).I)), (V.int .i64 ((rd args 1).I))] = args from h] at q
    exact q
def spec_l2val_c : Cfg := ⟨tab, sumsOf [], fun _ => false, fun f => (look [] f).getD [], false, fun _ => false⟩
theorem spec_l2val_c_ok : SumsOk Try.prog tab spec_l2val_c.sums := sums_nil
def spec_l2val_L : Loops := ⟨fun k => (look [] k).getD [], fun k => (look [] k).getD [], fun k => (look [] k).getD [], runL []⟩
def spec_l2val_sh (r_ : Bool) : V × List V := ((V.bool r_), [])
theorem spec_l2val_e (b : List V) : Tot (wkF [[.dead]] []) spec_l2val_sh (spec_l2val b) (evalFn spec_l2val_c spec_l2val_L Try.f133 [(V.inl t_byte b)]) := by
  have h : evalFn spec_l2val_c spec_l2val_L Try.f133 [(V.inl t_byte b)] = (some ((V.bool (decide (((b.length : Nat) : Int) ≤ 20))), [])) := by kernel_rfl
  rw [h, spec_l2val]
  clear h
  repeat' (first | refine tot_if ?_ ?_ | refine tot_let fun _ => ?_ | exact tot_leaf (by kernel_rfl))
def spec_l2val_s (args : List V) : Option (Bool × (V × List V)) := bif argsOk [(.one (.inl t_byte))] args then some (true, spec_l2val_sh (spec_l2val ((rd args 0).L))) else none
theorem spec_l2val_s_ok : ∀ args r, spec_l2val_s args = some (true, r) → SumOk Try.prog tab 133 args r :=
  Base.sumT (cfg := spec_l2val_c) (F := fun args => spec_l2val ((rd args 0).L)) (shr := spec_l2val_sh) base spec_l2val_c_ok Try.func133 (by kernel_rfl) (GoodAll.ok (l := []) GoodAll.nil rfl) [(.one (.inl t_byte))] (by kernel_rfl) [[.dead]] [] (by kernel_rfl) fun args h => by
    have q := spec_l2val_e ((rd args 0).L)
    rw [show [(V.inl t_byte ((rd args 0).L))] = args from h] at q
    exact q
def spec_l2index_c : Cfg := ⟨tab, sumsOf [], fun _ => false, fun f => (look [] f).getD [], false, fun _ => false⟩
theorem spec_l2index_c_ok : SumsOk Try.prog tab spec_l2index_c.sums := sums_nil
def spec_l2index_L : Loops := ⟨fun k => (look [] k).getD [], fun k => (look [] k).getD [], fun k => (look [] k).getD [], runL []⟩
def spec_l2index_sh (r_ : Bool) : V × List V := ((V.bool r_), [])
theorem spec_l2index_e (n : Int) : Tot (wkF [[.dead]] []) spec_l2index_sh (spec_l2index n) (evalFn spec_l2index_c spec_l2index_L Try.f134 [(V.int .i64 n)]) := by
  have h : evalFn spec_l2index_c spec_l2index_L Try.f134 [(V.int .i64 n)] = (bif (decide ((0 : Int) ≤ n)) then some ((V.bool (decide (n ≤ 1000000))), []) else some ((V.bool false), [])) := by kernel_rfl
  rw [h, spec_l2index]
  clear h
  repeat' (first | refine tot_if ?_ ?_ | refine tot_let fun _ => ?_ | exact tot_leaf (by kernel_rfl))
def spec_l2index_s (args : List V) : Option (Bool × (V × List V)) := bif argsOk [(.one (.int .i64))] args then some (true, spec_l2index_sh (spec_l2index ((rd args 0).I))) else none
theorem spec_l2index_s_ok : ∀ args r, spec_l2index_s args = some (true, r) → SumOk Try.prog tab 134 args r :=
  Base.sumT (cfg := spec_l2index_c) (F := fun args => spec_l2index ((rd args 0).I)) (shr := spec_l2index_sh) base spec_l2index_c_ok Try.func134 (by kernel_rfl) (GoodAll.ok (l := []) GoodAll.nil rfl) [(.one (.int .i64))] (by kernel_rfl) [[.dead]] [] (by kernel_rfl) fun args h => by
    have q := spec_l2index_e ((rd args 0).I)
    rw [show [(V.int .i64 ((rd args 0).I))] = args from h] at q
    exact q
def spec_l2key_c : Cfg := ⟨tab, sumsOf [], fun _ => false, fun f => (look [] f).getD [], false, fun _ => false⟩
theorem spec_l2key_c_ok : SumsOk Try.prog tab spec_l2key_c.sums := sums_nil
def spec_l2key_l4_e : LE := ⟨4, ⟨[(0, (.one (.inl t_byte))), (3, (.one (.int .i64)))], [], 0, []⟩, fun st => Out.tst (spec_l2key_l4 ((((((sv st 0).L).length : Nat) : Int) - ((sv st 1).I)).toNat + 1) ((sv st 0).L) ((sv st 1).I)).isSome (brs ((fun r_ => r_.1) ((spec_l2key_l4 ((((((sv st 0).L).length : Nat) : Int) - ((sv st 1).I)).toNat + 1) ((sv st 0).L) ((sv st 1).I)).getD default)) 0 ((fun r_ => [(Ex.ret, (⟨[(2, (V.bool r_.2))], [], 0, []⟩ : St)), ((Ex.exit 0), (⟨[(2, V.dead)], [], 0, []⟩ : St))]) ((spec_l2key_l4 ((((((sv st 0).L).length : Nat) : Int) - ((sv st 1).I)).toNat + 1) ((sv st 0).L) ((sv st 1).I)).getD default)))⟩
def spec_l2key_L : Loops := ⟨fun k => (look [(4, [0, 3])] k).getD [], fun k => (look [] k).getD [], fun k => (look [(4, [2])] k).getD [], runL [spec_l2key_l4_e]⟩
set_option maxRecDepth 100000 in
theorem spec_l2key_l4_ok (k_ : Nat) : ∀ (b0 : List V) (i3 : Int), Agr id (fun r_ => pick (r_.1) 0 [(Ex.ret, (⟨[(2, (V.bool r_.2))], [], 0, []⟩ : St)), ((Ex.exit 0), (⟨[(2, V.dead)], [], 0, []⟩ : St))]) (spec_l2key_l4 k_ b0 i3) (rounds spec_l2key_c spec_l2key_L ((loopsIn (bodyOf Try.f135)).getD 0 .skip) k_ (⟨[(0, (V.inl t_byte b0)), (3, (V.int .i64 i3))], [], 0, []⟩ : St)) := by
  induction k_ with
  | zero => intros; exact agr_none
  | succ k_ ih =>
    intro b0 i3
    have h : rounds spec_l2key_c spec_l2key_L ((loopsIn (bodyOf Try.f135)).getD 0 .skip) (k_ + 1) (⟨[(0, (V.inl t_byte b0)), (3, (V.int .i64 i3))], [], 0, []⟩ : St) = (bif (decide (i3 < ((b0.length : Nat) : Int))) then bif (idxOk i3 b0.length) then bif (decide ((gi (rd b0 i3.toNat) 0) < 97)) then bif (idxOk i3 b0.length) then bif (!(decide ((gi (rd b0 i3.toNat) 0) = 47))) then some (Ex.ret, (⟨[(2, (V.bool false))], [], 0, []⟩ : St)) else rounds spec_l2key_c spec_l2key_L ((loopsIn (bodyOf Try.f135)).getD 0 .skip) k_ (⟨[(0, (V.inl t_byte b0)), (3, (V.int .i64 (IntKind.i64.wrap (i3 + 1))))], [], 0, []⟩ : St) else none else bif (idxOk i3 b0.length) then bif (decide ((122 : Int) < (gi (rd b0 i3.toNat) 0))) then bif (idxOk i3 b0.length) then bif (!(decide ((gi (rd b0 i3.toNat) 0) = 47))) then some (Ex.ret, (⟨[(2, (V.bool false))], [], 0, []⟩ : St)) else rounds spec_l2key_c spec_l2key_L ((loopsIn (bodyOf Try.f135)).getD 0 .skip) k_ (⟨[(0, (V.inl t_byte b0)), (3, (V.int .i64 (IntKind.i64.wrap (i3 + 1))))], [], 0, []⟩ : St) else none else rounds spec_l2key_c spec_l2key_L ((loopsIn (bodyOf Try.f135)).getD 0 .skip) k_ (⟨[(0, (V.inl t_byte b0)), (3, (V.int .i64 (IntKind.i64.wrap (i3 + 1))))], [], 0, []⟩ : St) else none else none else some ((Ex.exit 0), (⟨[(2, V.dead)], [], 0, []⟩ : St))) := by kernel_rfl
    rw [h, spec_l2key_l4]
    clear h
    repeat' (first | exact agr_none | refine agr_if ?_ ?_ | refine agr_call fun _ => ?_ | refine agr_let fun _ => ?_ | exact agr_leaf (by kernel_rfl) | exact ih _ _)
theorem spec_l2key_lo : LoopsOk spec_l2key_c spec_l2key_L (bodyOf Try.f135) := by
  refine GoodAll.ok (l := [spec_l2key_l4_e]) ?_ rfl
  refine GoodAll.cons 0 (by kernel_rfl) ?_ ?_
  · exact good_of (key := 4) (ss := ⟨[(0, (.one (.inl t_byte))), (3, (.one (.int .i64)))], [], 0, []⟩) (F := fun st => spec_l2key_l4 ((((((sv st 0).L).length : Nat) : Int) - ((sv st 1).I)).toNat + 1) ((sv st 0).L) ((sv st 1).I)) (ix := fun r_ => r_.1) (ps := fun r_ => [(Ex.ret, (⟨[(2, (V.bool r_.2))], [], 0, []⟩ : St)), ((Ex.exit 0), (⟨[(2, V.dead)], [], 0, []⟩ : St))]) (fun st => (((((sv st 0).L).length : Nat) : Int) - ((sv st 1).I)).toNat + 1) fun st h => by
      have q := spec_l2key_l4_ok ((((((sv st 0).L).length : Nat) : Int) - ((sv st 1).I)).toNat + 1) ((sv st 0).L) ((sv st 1).I)
      rw [show (⟨[(0, (V.inl t_byte ((sv st 0).L))), (3, (V.int .i64 ((sv st 1).I)))], [], 0, []⟩ : St) = st from h] at q
      exact q
  exact GoodAll.nil
def spec_l2key_sh (r_ : Bool) : V × List V := ((V.bool r_), [])
theorem spec_l2key_e (b : List V) : Agr (wkF [[.dead]] []) spec_l2key_sh (spec_l2key b) (evalFn spec_l2key_c spec_l2key_L Try.f135 [(V.inl t_byte b)]) := by
  have h : evalFn spec_l2key_c spec_l2key_L Try.f135 [(V.inl t_byte b)] = (bif (decide (((b.length : Nat) : Int) < 1)) then some ((V.bool false), []) else bif (decide ((20 : Int) < ((b.length : Nat) : Int))) then some ((V.bool false), []) else rcall (spec_l2key_l4 ((((b.length : Nat) : Int) - 0).toNat + 1) b 0) fun r19 => bif (Nat.beq r19.1 0) then some ((V.bool r19.2), []) else some ((V.bool true), [])) := by kernel_rfl
  rw [h, spec_l2key]
  clear h
  repeat' (first | exact agr_none | refine agr_if ?_ ?_ | refine agr_call fun _ => ?_ | refine agr_let fun _ => ?_ | exact agr_leaf (by kernel_rfl))
def spec_l2key_s (args : List V) : Option (Bool × (V × List V)) := bif argsOk [(.one (.inl t_byte))] args then some ((spec_l2key ((rd args 0).L)).isSome, spec_l2key_sh ((spec_l2key ((rd args 0).L)).getD default)) else none
theorem spec_l2key_s_ok : ∀ args r, spec_l2key_s args = some (true, r) → SumOk Try.prog tab 135 args r :=
  Base.sum (cfg := spec_l2key_c) (F := fun args => spec_l2key ((rd args 0).L)) (shr := spec_l2key_sh) base spec_l2key_c_ok Try.func135 (by kernel_rfl) spec_l2key_lo [(.one (.inl t_byte))] (by kernel_rfl) [[.dead]] [] (by kernel_rfl) fun args h => by
    have q := spec_l2key_e ((rd args 0).L)
    rw [show [(V.inl t_byte ((rd args 0).L))] = args from h] at q
    exact q
end Go.Eng.R
open Go Go.Eng Go.Proofs
namespace Go.Eng.R
def spec_OpOk_c : Cfg := ⟨tab, sumsOf [(133, spec_l2val_s), (134, spec_l2index_s), (135, spec_l2key_s)], fun _ => false, fun f => (look [(133, [some t_byte]), (134, [none]), (135, [some t_byte])] f).getD [], false, fun _ => false⟩
theorem spec_OpOk_c_ok : SumsOk Try.prog tab spec_OpOk_c.sums := sums_cons f133_en spec_l2val_s_ok (sums_cons f134_en spec_l2index_s_ok (sums_cons f135_en spec_l2key_s_ok (sums_nil)))
def spec_OpOk_L : Loops := ⟨fun k => (look [] k).getD [], fun k => (look [] k).getD [], fun k => (look [] k).getD [], runL []⟩
def spec_OpOk_sh (r_ : Bool) : V × List V := ((V.bool r_), [])
set_option maxRecDepth 100000 in
theorem spec_OpOk_e (o : V) : Agr (wkF [[.dead]] []) spec_OpOk_sh (spec_OpOk o) (evalFn spec_OpOk_c spec_OpOk_L Try.f105 [(n_laws_Op o)]) := by
  have h : evalFn spec_OpOk_c spec_OpOk_L Try.f105 [(n_laws_Op o)] = (bif (decide ((gi o 0) < 0)) then some ((V.bool false), []) else bif (decide ((7 : Int) < (gi o 0))) then some ((V.bool false), []) else bif (!(spec_l2val (gl o 2))) then some ((V.bool false), []) else bif (!(spec_l2index (gi o 3))) then some ((V.bool false), []) else bif (decide ((gi o 0) = 1)) then rcall (spec_l2key (gl o 1)) fun r20 => bif (!r20) then some ((V.bool false), []) else bif (decide ((gi o 0) = 1)) then bif (decide ((gi o 0) = 0)) then some ((V.bool (decide ((gi o 3) = 0))), []) else bif (decide ((gi o 0) = 1)) then some ((V.bool (decide ((gi o 3) = 0))), []) else bif (decide ((gi o 0) = 3)) then some ((V.bool (decide ((gi o 3) = 0))), []) else bif (decide ((gi o 0) = 4)) then some ((V.bool (decide ((gi o 3) ≤ 1))), []) else bif (decide ((gi o 0) = 2)) then some ((V.bool true), []) else some ((V.bool (decide ((1 : Int) ≤ (gi o 3)))), []) else bif (decide ((gi o 0) = 2)) then bif (decide ((gi o 0) = 0)) then some ((V.bool (decide ((gi o 3) = 0))), []) else bif (decide ((gi o 0) = 1)) then some ((V.bool (decide ((gi o 3) = 0))), []) else bif (decide ((gi o 0) = 3)) then some ((V.bool (decide ((gi o 3) = 0))), []) else bif (decide ((gi o 0) = 4)) then some ((V.bool (decide ((gi o 3) ≤ 1))), []) else bif (decide ((gi o 0) = 2)) then some ((V.bool true), []) else some ((V.bool (decide ((1 : Int) ≤ (gi o 3)))), []) else bif (!(decide ((gi o 0) = 6))) then bif (decide ((0 : Int) < (((gl o 2).length : Nat) : Int))) then some ((V.bool false), []) else bif (decide ((gi o 0) = 0)) then some ((V.bool (decide ((gi o 3) = 0))), []) else bif (decide ((gi o 0) = 1)) then some ((V.bool (decide ((gi o 3) = 0))), []) else bif (decide ((gi o 0) = 3)) then some ((V.bool (decide ((gi o 3) = 0))), []) else bif (decide ((gi o 0) = 4)) then some ((V.bool (decide ((gi o 3) ≤ 1))), []) else bif (decide ((gi o 0) = 2)) then some ((V.bool true), []) else some ((V.bool (decide ((1 : Int) ≤ (gi o 3)))), []) else bif (decide ((gi o 0) = 0)) then some ((V.bool (decide ((gi o 3) = 0))), []) else bif (decide ((gi o 0) = 1)) then some ((V.bool (decide ((gi o 3) = 0))), []) else bif (decide ((gi o 0) = 3)) then some ((V.bool (decide ((gi o 3) = 0))), []) else bif (decide ((gi o 0) = 4)) then some ((V.bool (decide ((gi o 3) ≤ 1))), []) else bif (decide ((gi o 0) = 2)) then some ((V.bool true), []) else some ((V.bool (decide ((1 : Int) ≤ (gi o 3)))), []) else bif (decide ((gi o 0) = 2)) then rcall (spec_l2key (gl o 1)) fun r21 => bif (!r21) then some ((V.bool false), []) else bif (decide ((gi o 0) = 1)) then bif (decide ((gi o 0) = 0)) then some ((V.bool (decide ((gi o 3) = 0))), []) else bif (decide ((gi o 0) = 1)) then some ((V.bool (decide ((gi o 3) = 0))), []) else bif (decide ((gi o 0) = 3)) then some ((V.bool (decide ((gi o 3) = 0))), []) else bif (decide ((gi o 0) = 4)) then some ((V.bool (decide ((gi o 3) ≤ 1))), []) else bif (decide ((gi o 0) = 2)) then some ((V.bool true), []) else some ((V.bool (decide ((1 : Int) ≤ (gi o 3)))), []) else bif (decide ((gi o 0) = 2)) then bif (decide ((gi o 0) = 0)) then some ((V.bool (decide ((gi o 3) = 0))), []) else bif (decide ((gi o 0) = 1)) then some ((V.bool (decide ((gi o 3) = 0))), []) else bif (decide ((gi o 0) = 3)) then some ((V.bool (decide ((gi o 3) = 0))), []) else bif (decide ((gi o 0) = 4)) then some ((V.bool (decide ((gi o 3) ≤ 1))), []) else bif (decide ((gi o 0) = 2)) then some ((V.bool true), []) else some ((V.bool (decide ((1 : Int) ≤ (gi o 3)))), []) else bif (!(decide ((gi o 0) = 6))) then bif (decide ((0 : Int) < (((gl o 2).length : Nat) : Int))) then some ((V.bool false), []) else bif (decide ((gi o 0) = 0)) then some ((V.bool (decide ((gi o 3) = 0))), []) else bif (decide ((gi o 0) = 1)) then some ((V.bool (decide ((gi o 3) = 0))), []) else bif (decide ((gi o 0) = 3)) then some ((V.bool (decide ((gi o 3) = 0))), []) else bif (decide ((gi o 0) = 4)) then some ((V.bool (decide ((gi o 3) ≤ 1))), []) else bif (decide ((gi o 0) = 2)) then some ((V.bool true), []) else some ((V.bool (decide ((1 : Int) ≤ (gi o 3)))), []) else bif (decide ((gi o 0) = 0)) then some ((V.bool (decide ((gi o 3) = 0))), []) else bif (decide ((gi o 0) = 1)) then some ((V.bool (decide ((gi o 3) = 0))), []) else bif (decide ((gi o 0) = 3)) then some ((V.bool (decide ((gi o 3) = 0))), []) else bif (decide ((gi o 0) = 4)) then some ((V.bool (decide ((gi o 3) ≤ 1))), []) else bif (decide ((gi o 0) = 2)) then some ((V.bool true), []) else some ((V.bool (decide ((1 : Int) ≤ (gi o 3)))), []) else bif (decide ((gi o 0) = 3)) then rcall (spec_l2key (gl o 1)) fun r22 => bif (!r22) then some ((V.bool false), []) else bif (decide ((gi o 0) = 1)) then bif (decide ((gi o 0) = 0)) then some ((V.bool (decide ((gi o 3) = 0))), []) else bif (decide ((gi o 0) = 1)) then some ((V.bool (decide ((gi o 3) = 0))), []) else bif (decide ((gi o 0) = 3)) then some ((V.bool (decide ((gi o 3) = 0))), []) else bif (decide ((gi o 0) = 4)) then some ((V.bool (decide ((gi o 3) ≤ 1))), []) else bif (decide ((gi o 0) = 2)) then some ((V.bool true), []) else some ((V.bool (decide ((1 : Int) ≤ (gi o 3)))), []) else bif (decide ((gi o 0) = 2)) then bif (decide ((gi o 0) = 0)) then some ((V.bool (decide ((gi o 3) = 0))), []) else bif (decide ((gi o 0) = 1)) then some ((V.bool (decide ((gi o 3) = 0))), []) else bif (decide ((gi o 0) = 3)) then some ((V.bool (decide ((gi o 3) = 0))), []) else bif (decide ((gi o 0) = 4)) then some ((V.bool (decide ((gi o 3) ≤ 1))), []) else bif (decide ((gi o 0) = 2)) then some ((V.bool true), []) else some ((V.bool (decide ((1 : Int) ≤ (gi o 3)))), []) else bif (!(decide ((gi o 0) = 6))) then bif (decide ((0 : Int) < (((gl o 2).length : Nat) : Int))) then some ((V.bool false), []) else bif (decide ((gi o 0) = 0)) then some ((V.bool (decide ((gi o 3) = 0))), []) else bif (decide ((gi o 0) = 1)) then some ((V.bool (decide ((gi o 3) = 0))), []) else bif (decide ((gi o 0) = 3)) then some ((V.bool (decide ((gi o 3) = 0))), []) else bif (decide ((gi o 0) = 4)) then some ((V.bool (decide ((gi o 3) ≤ 1))), []) else bif (decide ((gi o 0) = 2)) then some ((V.bool true), []) else some ((V.bool (decide ((1 : Int) ≤ (gi o 3)))), []) else bif (decide ((gi o 0) = 0)) then some ((V.bool (decide ((gi o 3) = 0))), []) else bif (decide ((gi o 0) = 1)) then some ((V.bool (decide ((gi o 3) = 0))), []) else bif (decide ((gi o 0) = 3)) then some ((V.bool (decide ((gi o 3) = 0))), []) else bif (decide ((gi o 0) = 4)) then some ((V.bool (decide ((gi o 3) ≤ 1))), []) else bif (decide ((gi o 0) = 2)) then some ((V.bool true), []) else some ((V.bool (decide ((1 : Int) ≤ (gi o 3)))), []) else bif (decide ((gi o 0) = 6)) then rcall (spec_l2key (gl o 1)) fun r23 => bif (!r23) then some ((V.bool false), []) else bif (decide ((gi o 0) = 1)) then bif (decide ((gi o 0) = 0)) then some ((V.bool (decide ((gi o 3) = 0))), []) else bif (decide ((gi o 0) = 1)) then some ((V.bool (decide ((gi o 3) = 0))), []) else bif (decide ((gi o 0) = 3)) then some ((V.bool (decide ((gi o 3) = 0))), []) else bif (decide ((gi o 0) = 4)) then some ((V.bool (decide ((gi o 3) ≤ 1))), []) else bif (decide ((gi o 0) = 2)) then some ((V.bool true), []) else some ((V.bool (decide ((1 : Int) ≤ (gi o 3)))), []) else bif (decide ((gi o 0) = 2)) then bif (decide ((gi o 0) = 0)) then some ((V.bool (decide ((gi o 3) = 0))), []) else bif (decide ((gi o 0) = 1)) then some ((V.bool (decide ((gi o 3) = 0))), []) else bif (decide ((gi o 0) = 3)) then some ((V.bool (decide ((gi o 3) = 0))), []) else bif (decide ((gi o 0) = 4)) then some ((V.bool (decide ((gi o 3) ≤ 1))), []) else bif (decide ((gi o 0) = 2)) then some ((V.bool true), []) else some ((V.bool (decide ((1 : Int) ≤ (gi o 3)))), []) else bif (!(decide ((gi o 0) = 6))) then bif (decide ((0 : Int) < (((gl o 2).length : Nat) : Int))) then some ((V.bool false), []) else bif (decide ((gi o 0) = 0)) then some ((V.bool (decide ((gi o 3) = 0))), []) else bif (decide ((gi o 0) = 1)) then some ((V.bool (decide ((gi o 3) = 0))), []) else bif (decide ((gi o 0) = 3)) then some ((V.bool (decide ((gi o 3) = 0))), []) else bif (decide ((gi o 0) = 4)) then some ((V.bool (decide ((gi o 3) ≤ 1))), []) else bif (decide ((gi o 0) = 2)) then some ((V.bool true), []) else some ((V.bool (decide ((1 : Int) ≤ (gi o 3)))), []) else bif (decide ((gi o 0) = 0)) then some ((V.bool (decide ((gi o 3) = 0))), []) else bif (decide ((gi o 0) = 1)) then some ((V.bool (decide ((gi o 3) = 0))), []) else bif (decide ((gi o 0) = 3)) then some ((V.bool (decide ((gi o 3) = 0))), []) else bif (decide ((gi o 0) = 4)) then some ((V.bool (decide ((gi o 3) ≤ 1))), []) else bif (decide ((gi o 0) = 2)) then some ((V.bool true), []) else some ((V.bool (decide ((1 : Int) ≤ (gi o 3)))), []) else bif (decide ((gi o 0) = 7)) then rcall (spec_l2key (gl o 1)) fun r24 => bif (!r24) then some ((V.bool false), []) else bif (!(decide ((gi o 0) = 7))) then bif (decide ((0 : Int) < (((gl o 1).length : Nat) : Int))) then some ((V.bool false), []) else bif (decide ((gi o 0) = 1)) then bif (decide ((gi o 0) = 0)) then some ((V.bool (decide ((gi o 3) = 0))), []) else bif (decide ((gi o 0) = 1)) then some ((V.bool (decide ((gi o 3) = 0))), []) else bif (decide ((gi o 0) = 3)) then some ((V.bool (decide ((gi o 3) = 0))), []) else bif (decide ((gi o 0) = 4)) then some ((V.bool (decide ((gi o 3) ≤ 1))), []) else bif (decide ((gi o 0) = 2)) then some ((V.bool true), []) else some ((V.bool (decide ((1 : Int) ≤ (gi o 3)))), []) else bif (decide ((gi o 0) = 2)) then bif (decide ((gi o 0) = 0)) then some ((V.bool (decide ((gi o 3) = 0))), []) else bif (decide ((gi o 0) = 1)) then some ((V.bool (decide ((gi o 3) = 0))), []) else bif (decide ((gi o 0) = 3)) then some ((V.bool (decide ((gi o 3) = 0))), []) else bif (decide ((gi o 0) = 4)) then some ((V.bool (decide ((gi o 3) ≤ 1))), []) else bif (decide ((gi o 0) = 2)) then some ((V.bool true), []) else some ((V.bool (decide ((1 : Int) ≤ (gi o 3)))), []) else bif (!(decide ((gi o 0) = 6))) then bif (decide ((0 : Int) < (((gl o 2).length : Nat) : Int))) then some ((V.bool false), []) else bif (decide ((gi o 0) = 0)) then some ((V.bool (decide ((gi o 3) = 0))), []) else bif (decide ((gi o 0) = 1)) then some ((V.bool (decide ((gi o 3) = 0))), []) else bif (decide ((gi o 0) = 3)) then some ((V.bool (decide ((gi o 3) = 0))), []) else bif (decide ((gi o 0) = 4)) then some ((V.bool (decide ((gi o 3) ≤ 1))), []) else bif (decide ((gi o 0) = 2)) then some ((V.bool true), []) else some ((V.bool (decide ((1 : Int) ≤ (gi o 3)))), []) else bif (decide ((gi o 0) = 0)) then some ((V.bool (decide ((gi o 3) = 0))), []) else bif (decide ((gi o 0) = 1)) then some ((V.bool (decide ((gi o 3) = 0))), []) else bif (decide ((gi o 0) = 3)) then some ((V.bool (decide ((gi o 3) = 0))), []) else bif (decide ((gi o 0) = 4)) then some ((V.bool (decide ((gi o 3) ≤ 1))), []) else bif (decide ((gi o 0) = 2)) then some ((V.bool true), []) else some ((V.bool (decide ((1 : Int) ≤ (gi o 3)))), []) else bif (decide ((gi o 0) = 1)) then bif (decide ((gi o 0) = 0)) then some ((V.bool (decide ((gi o 3) = 0))), []) else bif (decide ((gi o 0) = 1)) then some ((V.bool (decide ((gi o 3) = 0))), []) else bif (decide ((gi o 0) = 3)) then some ((V.bool (decide ((gi o 3) = 0))), []) else bif (decide ((gi o 0) = 4)) then some ((V.bool (decide ((gi o 3) ≤ 1))), []) else bif (decide ((gi o 0) = 2)) then some ((V.bool true), []) else some ((V.bool (decide ((1 : Int) ≤ (gi o 3)))), []) else bif (decide ((gi o 0) = 2)) then bif (decide ((gi o 0) = 0)) then some ((V.bool (decide ((gi o 3) = 0))), []) else bif (decide ((gi o 0) = 1)) then some ((V.bool (decide ((gi o 3) = 0))), []) else bif (decide ((gi o 0) = 3)) then some ((V.bool (decide ((gi o 3) = 0))), []) else bif (decide ((gi o 0) = 4)) then some ((V.bool (decide ((gi o 3) ≤ 1))), []) else bif (decide ((gi o 0) = 2)) then some ((V.bool true), []) else some ((V.bool (decide ((1 : Int) ≤ (gi o 3)))), []) else bif (!(decide ((gi o 0) = 6))) then bif (decide ((0 : Int) < (((gl o 2).length : Nat) : Int))) then some ((V.bool false), []) else bif (decide ((gi o 0) = 0)) then some ((V.bool (decide ((gi o 3) = 0))), []) else bif (decide ((gi o 0) = 1)) then some ((V.bool (decide ((gi o 3) = 0))), []) else bif (decide ((gi o 0) = 3)) then some ((V.bool (decide ((gi o 3) = 0))), []) else bif (decide ((gi o 0) = 4)) then some ((V.bool (decide ((gi o 3) ≤ 1))), []) else bif (decide ((gi o 0) = 2)) then some ((V.bool true), []) else some ((V.bool (decide ((1 : Int) ≤ (gi o 3)))), []) else bif (decide ((gi o 0) = 0)) then some ((V.bool (decide ((gi o 3) = 0))), []) else bif (decide ((gi o 0) = 1)) then some ((V.bool (decide ((gi o 3) = 0))), []) else bif (decide ((gi o 0) = 3)) then some ((V.bool (decide ((gi o 3) = 0))), []) else bif (decide ((gi o 0) = 4)) then some ((V.bool (decide ((gi o 3) ≤ 1))), []) else bif (decide ((gi o 0) = 2)) then some ((V.bool true), []) else some ((V.bool (decide ((1 : Int) ≤ (gi o 3)))), []) else bif (!(decide ((gi o 0) = 7))) then bif (decide ((0 : Int) < (((gl o 1).length : Nat) : Int))) then some ((V.bool false), []) else bif (decide ((gi o 0) = 1)) then bif (decide ((gi o 0) = 0)) then some ((V.bool (decide ((gi o 3) = 0))), []) else bif (decide ((gi o 0) = 1)) then some ((V.bool (decide ((gi o 3) = 0))), []) else bif (decide ((gi o 0) = 3)) then some ((V.bool (decide ((gi o 3) = 0))), []) else bif (decide ((gi o 0) = 4)) then some ((V.bool (decide ((gi o 3) ≤ 1))), []) else bif (decide ((gi o 0) = 2)) then some ((V.bool true), []) else some ((V.bool (decide ((1 : Int) ≤ (gi o 3)))), []) else bif (decide ((gi o 0) = 2)) then bif (decide ((gi o 0) = 0)) then some ((V.bool (decide ((gi o 3) = 0))), []) else bif (decide ((gi o 0) = 1)) then some ((V.bool (decide ((gi o 3) = 0))), []) else bif (decide ((gi o 0) = 3)) then some ((V.bool (decide ((gi o 3) = 0))), []) else bif (decide ((gi o 0) = 4)) then some ((V.bool (decide ((gi o 3) ≤ 1))), []) else bif (decide ((gi o 0) = 2)) then some ((V.bool true), []) else some ((V.bool (decide ((1 : Int) ≤ (gi o 3)))), []) else bif (!(decide ((gi o 0) = 6))) then bif (decide ((0 : Int) < (((gl o 2).length : Nat) : Int))) then some ((V.bool false), []) else bif (decide ((gi o 0) = 0)) then some ((V.bool (decide ((gi o 3) = 0))), []) else bif (decide ((gi o 0) = 1)) then some ((V.bool (decide ((gi o 3) = 0))), []) else bif (decide ((gi o 0) = 3)) then some ((V.bool (decide ((gi o 3) = 0))), []) else bif (decide ((gi o 0) = 4)) then some ((V.bool (decide ((gi o 3) ≤ 1))), []) else bif (decide ((gi o 0) = 2)) then some ((V.bool true), []) else some ((V.bool (decide ((1 : Int) ≤ (gi o 3)))), []) else bif (decide ((gi o 0) = 0)) then some ((V.bool (decide ((gi o 3) = 0))), []) else bif (decide ((gi o 0) = 1)) then some ((V.bool (decide ((gi o 3) = 0))), []) else bif (decide ((gi o 0) = 3)) then some ((V.bool (decide ((gi o 3) = 0))), []) else bif (decide ((gi o 0) = 4)) then some ((V.bool (decide ((gi o 3) ≤ 1))), []) else bif (decide ((gi o 0) = 2)) then some ((V.bool true), []) else some ((V.bool (decide ((1 : Int) ≤ (gi o 3)))), []) else bif (decide ((gi o 0) = 1)) then bif (decide ((gi o 0) = 0)) then some ((V.bool (decide ((gi o 3) = 0))), []) else bif (decide ((gi o 0) = 1)) then some ((V.bool (decide ((gi o 3) = 0))), []) else bif (decide ((gi o 0) = 3)) then some ((V.bool (decide ((gi o 3) = 0))), []) else bif (decide ((gi o 0) = 4)) then some ((V.bool (decide ((gi o 3) ≤ 1))), []) else bif (decide ((gi o 0) = 2)) then some ((V.bool true), []) else some ((V.bool (decide ((1 : Int) ≤ (gi o 3)))), []) else bif (decide ((gi o 0) = 2)) then bif (decide ((gi o 0) = 0)) then some ((V.bool (decide ((gi o 3) = 0))), []) else bif (decide ((gi o 0) = 1)) then some ((V.bool (decide ((gi o 3) = 0))), []) else bif (decide ((gi o 0) = 3)) then some ((V.bool (decide ((gi o 3) = 0))), []) else bif (decide ((gi o 0) = 4)) then some ((V.bool (decide ((gi o 3) ≤ 1))), []) else bif (decide ((gi o 0) = 2)) then some ((V.bool true), []) else some ((V.bool (decide ((1 : Int) ≤ (gi o 3)))), []) else bif (!(decide ((gi o 0) = 6))) then bif (decide ((0 : Int) < (((gl o 2).length : Nat) : Int))) then some ((V.bool false), []) else bif (decide ((gi o 0) = 0)) then some ((V.bool (decide ((gi o 3) = 0))), []) else bif (decide ((gi o 0) = 1)) then some ((V.bool (decide ((gi o 3) = 0))), []) else bif (decide ((gi o 0) = 3)) then some ((V.bool (decide ((gi o 3) = 0))), []) else bif (decide ((gi o 0) = 4)) then some ((V.bool (decide ((gi o 3) ≤ 1))), []) else bif (decide ((gi o 0) = 2)) then some ((V.bool true), []) else some ((V.bool (decide ((1 : Int) ≤ (gi o 3)))), []) else bif (decide ((gi o 0) = 0)) then some ((V.bool (decide ((gi o 3) = 0))), []) else bif (decide ((gi o 0) = 1)) then some ((V.bool (decide ((gi o 3) = 0))), []) else bif (decide ((gi o 0) = 3)) then some ((V.bool (decide ((gi o 3) = 0))), []) else bif (decide ((gi o 0) = 4)) then some ((V.bool (decide ((gi o 3) ≤ 1))), []) else bif (decide ((gi o 0) = 2)) then some ((V.bool true), []) else some ((V.bool (decide ((1 : Int) ≤ (gi o 3)))), [])) := by kernel_rfl
  rw [h, spec_OpOk]
  clear h
  repeat' (first | exact agr_none | refine agr_if ?_ ?_ | refine agr_call fun _ => ?_ | refine agr_let fun _ => ?_ | exact agr_leaf (by kernel_rfl))
def spec_OpOk_s (args : List V) : Option (Bool × (V × List V)) := bif argsOk [(.agg [(.int .i64), (.inl t_byte), (.inl t_byte), (.int .i64)])] args then some ((spec_OpOk (rd args 0)).isSome, spec_OpOk_sh ((spec_OpOk (rd args 0)).getD default)) else none
theorem spec_OpOk_s_ok : ∀ args r, spec_OpOk_s args = some (true, r) → SumOk Try.prog tab 105 args r :=
  Base.sum (cfg := spec_OpOk_c) (F := fun args => spec_OpOk (rd args 0)) (shr := spec_OpOk_sh) base spec_OpOk_c_ok Try.func105 (by kernel_rfl) (GoodAll.ok (l := []) GoodAll.nil rfl) [(.agg [(.int .i64), (.inl t_byte), (.inl t_byte), (.int .i64)])] (by kernel_rfl) [[.dead]] [] (by kernel_rfl) fun args h => by
    have q := spec_OpOk_e (rd args 0)
    rw [show [(n_laws_Op (rd args 0))] = args from h] at q
    exact q
def spec_CmdOk_c : Cfg := ⟨tab, sumsOf [(105, spec_OpOk_s)], fun _ => false, fun f => (look [(105, [none])] f).getD [], false, fun _ => false⟩
theorem spec_CmdOk_c_ok : SumsOk Try.prog tab spec_CmdOk_c.sums := sums_cons f105_en spec_OpOk_s_ok (sums_nil)
def spec_CmdOk_L : Loops := ⟨fun k => (look [] k).getD [], fun k => (look [] k).getD [], fun k => (look [] k).getD [], runL []⟩
def spec_CmdOk_sh (r_ : Bool) : V × List V := ((V.bool r_), [])
set_option maxRecDepth 100000 in
theorem spec_CmdOk_e (c : V) : Agr (wkF [[.dead]] []) spec_CmdOk_sh (spec_CmdOk c) (evalFn spec_CmdOk_c spec_CmdOk_L Try.f64 [(n_laws_Cmd c)]) := by
  have h : evalFn spec_CmdOk_c spec_CmdOk_L Try.f64 [(n_laws_Cmd c)] = (bif (decide ((gi c 0) = (-1))) then bif (decide ((gi c 1) = 0)) then bif (decide ((gi c 2) = 0)) then rcall (spec_OpOk (V.agg [(V.int .i64 (gi c 2)), (V.inl t_byte (gl c 3)), (V.inl t_byte (gl c 4)), (V.int .i64 (gi c 5))])) fun r25 => some ((V.bool r25), []) else some ((V.bool false), []) else some ((V.bool false), []) else bif (decide ((0 : Int) ≤ (gi c 0))) then bif (decide ((gi c 0) < 4)) then bif (decide ((1 : Int) ≤ (gi c 1))) then bif (decide ((gi c 1) ≤ 1000000)) then rcall (spec_OpOk (V.agg [(V.int .i64 (gi c 2)), (V.inl t_byte (gl c 3)), (V.inl t_byte (gl c 4)), (V.int .i64 (gi c 5))])) fun r26 => some ((V.bool r26), []) else some ((V.bool false), []) else some ((V.bool false), []) else some ((V.bool false), []) else some ((V.bool false), [])) := by kernel_rfl
  rw [h, spec_CmdOk]
  clear h
  repeat' (first | exact agr_none | refine agr_if ?_ ?_ | refine agr_call fun _ => ?_ | refine agr_let fun _ => ?_ | exact agr_leaf (by kernel_rfl))
def spec_CmdOk_s (args : List V) : Option (Bool × (V × List V)) := bif argsOk [(.agg [(.int .i64), (.int .i64), (.int .i64), (.inl t_byte), (.inl t_byte), (.int .i64)])] args then some ((spec_CmdOk (rd args 0)).isSome, spec_CmdOk_sh ((spec_CmdOk (rd args 0)).getD default)) else none
theorem spec_CmdOk_s_ok : ∀ args r, spec_CmdOk_s args = some (true, r) → SumOk Try.prog tab 64 args r :=
  Base.sum (cfg := spec_CmdOk_c) (F := fun args => spec_CmdOk (rd args 0)) (shr := spec_CmdOk_sh) base spec_CmdOk_c_ok Try.func64 (by kernel_rfl) (GoodAll.ok (l := []) GoodAll.nil rfl) [(.agg [(.int .i64), (.int .i64), (.int .i64), (.inl t_byte), (.inl t_byte), (.int .i64)])] (by kernel_rfl) [[.dead]] [] (by kernel_rfl) fun args h => by
    have q := spec_CmdOk_e (rd args 0)
    rw [show [(n_laws_Cmd (rd args 0))] = args from h] at q
    exact q
def spec_ItemOk_c : Cfg := ⟨tab, sumsOf [(64, spec_CmdOk_s)], fun _ => false, fun f => (look [(64, [none])] f).getD [], false, fun _ => false⟩
theorem spec_ItemOk_c_ok : SumsOk Try.prog tab spec_ItemOk_c.sums := sums_cons f64_en spec_CmdOk_s_ok (sums_nil)
def spec_ItemOk_L : Loops := ⟨fun k => (look [] k).getD [], fun k => (look [] k).getD [], fun k => (look [] k).getD [], runL []⟩
def spec_ItemOk_sh (r_ : Bool) : V × List V := ((V.bool r_), [])
theorem spec_ItemOk_e (x : V) : Agr (wkF [[.dead]] []) spec_ItemOk_sh (spec_ItemOk x) (evalFn spec_ItemOk_c spec_ItemOk_L Try.f86 [(n_impl_Item x)]) := by
  have h : evalFn spec_ItemOk_c spec_ItemOk_L Try.f86 [(n_impl_Item x)] = (bif (decide ((1 : Int) ≤ (gi x 0))) then bif (decide ((gi x 0) ≤ 100000)) then rcall (spec_CmdOk (V.agg [(V.int .i64 (gi x 1)), (V.int .i64 (gi x 2)), (V.int .i64 (gi x 3)), (V.inl t_byte (gl x 4)), (V.inl t_byte (gl x 5)), (V.int .i64 (gi x 6))])) fun r27 => some ((V.bool r27), []) else some ((V.bool false), []) else some ((V.bool false), [])) := by kernel_rfl
  rw [h, spec_ItemOk]
  clear h
  repeat' (first | exact agr_none | refine agr_if ?_ ?_ | refine agr_call fun _ => ?_ | refine agr_let fun _ => ?_ | exact agr_leaf (by kernel_rfl))
def spec_ItemOk_s (args : List V) : Option (Bool × (V × List V)) := bif argsOk [(.agg [(.int .i64), (.int .i64), (.int .i64), (.int .i64), (.inl t_byte), (.inl t_byte), (.int .i64)])] args then some ((spec_ItemOk (rd args 0)).isSome, spec_ItemOk_sh ((spec_ItemOk (rd args 0)).getD default)) else none
theorem spec_ItemOk_s_ok : ∀ args r, spec_ItemOk_s args = some (true, r) → SumOk Try.prog tab 86 args r :=
  Base.sum (cfg := spec_ItemOk_c) (F := fun args => spec_ItemOk (rd args 0)) (shr := spec_ItemOk_sh) base spec_ItemOk_c_ok Try.func86 (by kernel_rfl) (GoodAll.ok (l := []) GoodAll.nil rfl) [(.agg [(.int .i64), (.int .i64), (.int .i64), (.int .i64), (.inl t_byte), (.inl t_byte), (.int .i64)])] (by kernel_rfl) [[.dead]] [] (by kernel_rfl) fun args h => by
    have q := spec_ItemOk_e (rd args 0)
    rw [show [(n_impl_Item (rd args 0))] = args from h] at q
    exact q
def spec_NodeOk_c : Cfg := ⟨tab, sumsOf [(83, spec_l4servers_s), (84, spec_l3term_s), (85, spec_l4who_s), (86, spec_ItemOk_s)], fun _ => false, fun f => (look [(83, [none]), (84, [none]), (85, [none, none]), (86, [none])] f).getD [], false, fun _ => false⟩
theorem spec_NodeOk_c_ok : SumsOk Try.prog tab spec_NodeOk_c.sums := sums_cons f83_en spec_l4servers_s_ok (sums_cons f84_en spec_l3term_s_ok (sums_cons f85_en spec_l4who_s_ok (sums_cons f86_en spec_ItemOk_s_ok (sums_nil))))
def spec_NodeOk_l4_e : LE := ⟨4, ⟨[(1, (.one (.int .i64))), (2, (.one (.bp 0 0))), (5, (.one (.int .i64)))], [(.box t_impl_Node [(.int .i64), (.int .i64), (.int .i64), (.inl t_impl_Item), (.int .i64), (.int .i64), (.int .i64), (.int .i64), (.inl t_bool), (.inl t_int'), (.inl t_int')])], 1, []⟩, fun st => Out.tst (spec_NodeOk_l4 (((((gl (bc st 0) 3).length : Nat) : Int) - ((sv st 2).I)).toNat + 1) ((sv st 0).I) ((sv st 2).I) (bc st 0)).isSome (brs ((fun r_ => r_.1) ((spec_NodeOk_l4 (((((gl (bc st 0) 3).length : Nat) : Int) - ((sv st 2).I)).toNat + 1) ((sv st 0).I) ((sv st 2).I) (bc st 0)).getD default)) 0 ((fun r_ => [(Ex.ret, (⟨[(1, (V.int .i64 r_.2.1)), (2, (V.bp 0 0)), (4, (V.bool r_.2.2.1))], [(0, some (Blk.box t_impl_Node [(V.int .i64 (gi r_.2.2.2 0)), (V.int .i64 (gi r_.2.2.2 1)), (V.int .i64 (gi r_.2.2.2 2)), (V.inl t_impl_Item (gl r_.2.2.2 3)), (V.int .i64 (gi r_.2.2.2 4)), (V.int .i64 (gi r_.2.2.2 5)), (V.int .i64 (gi r_.2.2.2 6)), (V.int .i64 (gi r_.2.2.2 7)), (V.inl t_bool (gl r_.2.2.2 8)), (V.inl t_int' (gl r_.2.2.2 9)), (V.inl t_int' (gl r_.2.2.2 10))]))], 1, []⟩ : St)), ((Ex.exit 0), (⟨[(1, (V.int .i64 r_.2.1)), (2, (V.bp 0 0)), (4, V.dead)], [(0, some (Blk.box t_impl_Node [(V.int .i64 (gi r_.2.2.2 0)), (V.int .i64 (gi r_.2.2.2 1)), (V.int .i64 (gi r_.2.2.2 2)), (V.inl t_impl_Item (gl r_.2.2.2 3)), (V.int .i64 (gi r_.2.2.2 4)), (V.int .i64 (gi r_.2.2.2 5)), (V.int .i64 (gi r_.2.2.2 6)), (V.int .i64 (gi r_.2.2.2 7)), (V.inl t_bool (gl r_.2.2.2 8)), (V.inl t_int' (gl r_.2.2.2 9)), (V.inl t_int' (gl r_.2.2.2 10))]))], 1, []⟩ : St))]) ((spec_NodeOk_l4 (((((gl (bc st 0) 3).length : Nat) : Int) - ((sv st 2).I)).toNat + 1) ((sv st 0).I) ((sv st 2).I) (bc st 0)).getD default)))⟩
def spec_NodeOk_l11_e : LE := ⟨11, ⟨[(1, (.one (.int .i64))), (2, (.one (.bp 0 0))), (6, (.one (.int .i64)))], [(.box t_impl_Node [(.int .i64), (.int .i64), (.int .i64), (.inl t_impl_Item), (.int .i64), (.int .i64), (.int .i64), (.int .i64), (.inl t_bool), (.inl t_int'), (.inl t_int')])], 1, []⟩, fun st => Out.tst (spec_NodeOk_l11 ((((sv st 0).I) - ((sv st 2).I)).toNat + 1) ((sv st 0).I) ((sv st 2).I) (bc st 0)).isSome (brs ((fun r_ => r_.1) ((spec_NodeOk_l11 ((((sv st 0).I) - ((sv st 2).I)).toNat + 1) ((sv st 0).I) ((sv st 2).I) (bc st 0)).getD default)) 0 ((fun r_ => [(Ex.ret, (⟨[(2, (V.bp 0 0)), (4, (V.bool r_.2.1))], [(0, some (Blk.box t_impl_Node [(V.int .i64 (gi r_.2.2 0)), (V.int .i64 (gi r_.2.2 1)), (V.int .i64 (gi r_.2.2 2)), (V.inl t_impl_Item (gl r_.2.2 3)), (V.int .i64 (gi r_.2.2 4)), (V.int .i64 (gi r_.2.2 5)), (V.int .i64 (gi r_.2.2 6)), (V.int .i64 (gi r_.2.2 7)), (V.inl t_bool (gl r_.2.2 8)), (V.inl t_int' (gl r_.2.2 9)), (V.inl t_int' (gl r_.2.2 10))]))], 1, []⟩ : St)), ((Ex.exit 2), (⟨[(2, (V.bp 0 0)), (4, V.dead)], [(0, some (Blk.box t_impl_Node [(V.int .i64 (gi r_.2.2 0)), (V.int .i64 (gi r_.2.2 1)), (V.int .i64 (gi r_.2.2 2)), (V.inl t_impl_Item (gl r_.2.2 3)), (V.int .i64 (gi r_.2.2 4)), (V.int .i64 (gi r_.2.2 5)), (V.int .i64 (gi r_.2.2 6)), (V.int .i64 (gi r_.2.2 7)), (V.inl t_bool (gl r_.2.2 8)), (V.inl t_int' (gl r_.2.2 9)), (V.inl t_int' (gl r_.2.2 10))]))], 1, []⟩ : St))]) ((spec_NodeOk_l11 ((((sv st 0).I) - ((sv st 2).I)).toNat + 1) ((sv st 0).I) ((sv st 2).I) (bc st 0)).getD default)))⟩
def spec_NodeOk_L : Loops := ⟨fun k => (look [(4, [1, 2, 5]), (11, [1, 2, 6])] k).getD [], fun k => (look [] k).getD [], fun k => (look [(4, [1, 2, 4]), (11, [2, 4])] k).getD [], runL [spec_NodeOk_l4_e, spec_NodeOk_l11_e]⟩
set_option maxRecDepth 100000 in
theorem spec_NodeOk_l4_ok (k_ : Nat) : ∀ (servers1 : Int) (i5 : Int) (b0 : V), Agr id (fun r_ => pick (r_.1) 0 [(Ex.ret, (⟨[(1, (V.int .i64 r_.2.1)), (2, (V.bp 0 0)), (4, (V.bool r_.2.2.1))], [(0, some (Blk.box t_impl_Node [(V.int .i64 (gi r_.2.2.2 0)), (V.int .i64 (gi r_.2.2.2 1)), (V.int .i64 (gi r_.2.2.2 2)), (V.inl t_impl_Item (gl r_.2.2.2 3)), (V.int .i64 (gi r_.2.2.2 4)), (V.int .i64 (gi r_.2.2.2 5)), (V.int .i64 (gi r_.2.2.2 6)), (V.int .i64 (gi r_.2.2.2 7)), (V.inl t_bool (gl r_.2.2.2 8)), (V.inl t_int' (gl r_.2.2.2 9)), (V.inl t_int' (gl r_.2.2.2 10))]))], 1, []⟩ : St)), ((Ex.exit 0), (⟨[(1, (V.int .i64 r_.2.1)), (2, (V.bp 0 0)), (4, V.dead)], [(0, some (Blk.box t_impl_Node [(V.int .i64 (gi r_.2.2.2 0)), (V.int .i64 (gi r_.2.2.2 1)), (V.int .i64 (gi r_.2.2.2 2)), (V.inl t_impl_Item (gl r_.2.2.2 3)), (V.int .i64 (gi r_.2.2.2 4)), (V.int .i64 (gi r_.2.2.2 5)), (V.int .i64 (gi r_.2.2.2 6)), (V.int .i64 (gi r_.2.2.2 7)), (V.inl t_bool (gl r_.2.2.2 8)), (V.inl t_int' (gl r_.2.2.2 9)), (V.inl t_int' (gl r_.2.2.2 10))]))], 1, []⟩ : St))]) (spec_NodeOk_l4 k_ servers1 i5 b0) (rounds spec_NodeOk_c spec_NodeOk_L ((loopsIn (bodyOf Try.f33)).getD 0 .skip) k_ (⟨[(1, (V.int .i64 servers1)), (2, (V.bp 0 0)), (5, (V.int .i64 i5))], [(0, some (Blk.box t_impl_Node [(V.int .i64 (gi b0 0)), (V.int .i64 (gi b0 1)), (V.int .i64 (gi b0 2)), (V.inl t_impl_Item (gl b0 3)), (V.int .i64 (gi b0 4)), (V.int .i64 (gi b0 5)), (V.int .i64 (gi b0 6)), (V.int .i64 (gi b0 7)), (V.inl t_bool (gl b0 8)), (V.inl t_int' (gl b0 9)), (V.inl t_int' (gl b0 10))]))], 1, []⟩ : St)) := by
  induction k_ with
  | zero => intros; exact agr_none
  | succ k_ ih =>
    intro servers1 i5 b0
    have h : rounds spec_NodeOk_c spec_NodeOk_L ((loopsIn (bodyOf Try.f33)).getD 0 .skip) (k_ + 1) (⟨[(1, (V.int .i64 servers1)), (2, (V.bp 0 0)), (5, (V.int .i64 i5))], [(0, some (Blk.box t_impl_Node [(V.int .i64 (gi b0 0)), (V.int .i64 (gi b0 1)), (V.int .i64 (gi b0 2)), (V.inl t_impl_Item (gl b0 3)), (V.int .i64 (gi b0 4)), (V.int .i64 (gi b0 5)), (V.int .i64 (gi b0 6)), (V.int .i64 (gi b0 7)), (V.inl t_bool (gl b0 8)), (V.inl t_int' (gl b0 9)), (V.inl t_int' (gl b0 10))]))], 1, []⟩ : St) = (bif (decide (i5 < (((gl b0 3).length : Nat) : Int))) then bif (idxOk i5 ((gl b0 3).length)) then rcall (spec_ItemOk (n_impl_Item (rd (gl b0 3) i5.toNat))) fun r28 => bif (!r28) then some (Ex.ret, (⟨[(1, (V.int .i64 servers1)), (2, (V.bp 0 0)), (4, (V.bool false))], [(0, some (Blk.box t_impl_Node [(V.int .i64 (gi b0 0)), (V.int .i64 (gi b0 1)), (V.int .i64 (gi b0 2)), (V.inl t_impl_Item (gl b0 3)), (V.int .i64 (gi b0 4)), (V.int .i64 (gi b0 5)), (V.int .i64 (gi b0 6)), (V.int .i64 (gi b0 7)), (V.inl t_bool (gl b0 8)), (V.inl t_int' (gl b0 9)), (V.inl t_int' (gl b0 10))]))], 1, []⟩ : St)) else bif (idxOk i5 ((gl b0 3).length)) then bif (decide ((gi b0 1) < (gi (rd (gl b0 3) i5.toNat) 0))) then some (Ex.ret, (⟨[(1, (V.int .i64 servers1)), (2, (V.bp 0 0)), (4, (V.bool false))], [(0, some (Blk.box t_impl_Node [(V.int .i64 (gi b0 0)), (V.int .i64 (gi b0 1)), (V.int .i64 (gi b0 2)), (V.inl t_impl_Item (gl b0 3)), (V.int .i64 (gi b0 4)), (V.int .i64 (gi b0 5)), (V.int .i64 (gi b0 6)), (V.int .i64 (gi b0 7)), (V.inl t_bool (gl b0 8)), (V.inl t_int' (gl b0 9)), (V.inl t_int' (gl b0 10))]))], 1, []⟩ : St)) else bif (decide ((0 : Int) < i5)) then bif (idxOk (IntKind.i64.wrap (i5 - 1)) ((gl b0 3).length)) then bif (idxOk i5 ((gl b0 3).length)) then bif (decide ((gi (rd (gl b0 3) i5.toNat) 0) < (gi (rd (gl b0 3) ((IntKind.i64.wrap (i5 - 1)).toNat)) 0))) then some (Ex.ret, (⟨[(1, (V.int .i64 servers1)), (2, (V.bp 0 0)), (4, (V.bool false))], [(0, some (Blk.box t_impl_Node [(V.int .i64 (gi b0 0)), (V.int .i64 (gi b0 1)), (V.int .i64 (gi b0 2)), (V.inl t_impl_Item (gl b0 3)), (V.int .i64 (gi b0 4)), (V.int .i64 (gi b0 5)), (V.int .i64 (gi b0 6)), (V.int .i64 (gi b0 7)), (V.inl t_bool (gl b0 8)), (V.inl t_int' (gl b0 9)), (V.inl t_int' (gl b0 10))]))], 1, []⟩ : St)) else rounds spec_NodeOk_c spec_NodeOk_L ((loopsIn (bodyOf Try.f33)).getD 0 .skip) k_ (⟨[(1, (V.int .i64 servers1)), (2, (V.bp 0 0)), (5, (V.int .i64 (IntKind.i64.wrap (i5 + 1))))], [(0, some (Blk.box t_impl_Node [(V.int .i64 (gi b0 0)), (V.int .i64 (gi b0 1)), (V.int .i64 (gi b0 2)), (V.inl t_impl_Item (gl b0 3)), (V.int .i64 (gi b0 4)), (V.int .i64 (gi b0 5)), (V.int .i64 (gi b0 6)), (V.int .i64 (gi b0 7)), (V.inl t_bool (gl b0 8)), (V.inl t_int' (gl b0 9)), (V.inl t_int' (gl b0 10))]))], 1, []⟩ : St) else none else none else rounds spec_NodeOk_c spec_NodeOk_L ((loopsIn (bodyOf Try.f33)).getD 0 .skip) k_ (⟨[(1, (V.int .i64 servers1)), (2, (V.bp 0 0)), (5, (V.int .i64 (IntKind.i64.wrap (i5 + 1))))], [(0, some (Blk.box t_impl_Node [(V.int .i64 (gi b0 0)), (V.int .i64 (gi b0 1)), (V.int .i64 (gi b0 2)), (V.inl t_impl_Item (gl b0 3)), (V.int .i64 (gi b0 4)), (V.int .i64 (gi b0 5)), (V.int .i64 (gi b0 6)), (V.int .i64 (gi b0 7)), (V.inl t_bool (gl b0 8)), (V.inl t_int' (gl b0 9)), (V.inl t_int' (gl b0 10))]))], 1, []⟩ : St) else none else none else some ((Ex.exit 0), (⟨[(1, (V.int .i64 servers1)), (2, (V.bp 0 0)), (4, V.dead)], [(0, some (Blk.box t_impl_Node [(V.int .i64 (gi b0 0)), (V.int .i64 (gi b0 1)), (V.int .i64 (gi b0 2)), (V.inl t_impl_Item (gl b0 3)), (V.int .i64 (gi b0 4)), (V.int .i64 (gi b0 5)), (V.int .i64 (gi b0 6)), (V.int .i64 (gi b0 7)), (V.inl t_bool (gl b0 8)), (V.inl t_int' (gl b0 9)), (V.inl t_int' (gl b0 10))]))], 1, []⟩ : St))) := by kernel_rfl
    rw [h, spec_NodeOk_l4]
    clear h
    repeat' (first | exact agr_none | refine agr_if ?_ ?_ | refine agr_call fun _ => ?_ | refine agr_let fun _ => ?_ | exact agr_leaf (by kernel_rfl) | exact ih _ _ _)
set_option maxRecDepth 100000 in
theorem spec_NodeOk_l11_ok (k_ : Nat) : ∀ (servers1 : Int) (i6 : Int) (b0 : V), Agr id (fun r_ => pick (r_.1) 0 [(Ex.ret, (⟨[(2, (V.bp 0 0)), (4, (V.bool r_.2.1))], [(0, some (Blk.box t_impl_Node [(V.int .i64 (gi r_.2.2 0)), (V.int .i64 (gi r_.2.2 1)), (V.int .i64 (gi r_.2.2 2)), (V.inl t_impl_Item (gl r_.2.2 3)), (V.int .i64 (gi r_.2.2 4)), (V.int .i64 (gi r_.2.2 5)), (V.int .i64 (gi r_.2.2 6)), (V.int .i64 (gi r_.2.2 7)), (V.inl t_bool (gl r_.2.2 8)), (V.inl t_int' (gl r_.2.2 9)), (V.inl t_int' (gl r_.2.2 10))]))], 1, []⟩ : St)), ((Ex.exit 2), (⟨[(2, (V.bp 0 0)), (4, V.dead)], [(0, some (Blk.box t_impl_Node [(V.int .i64 (gi r_.2.2 0)), (V.int .i64 (gi r_.2.2 1)), (V.int .i64 (gi r_.2.2 2)), (V.inl t_impl_Item (gl r_.2.2 3)), (V.int .i64 (gi r_.2.2 4)), (V.int .i64 (gi r_.2.2 5)), (V.int .i64 (gi r_.2.2 6)), (V.int .i64 (gi r_.2.2 7)), (V.inl t_bool (gl r_.2.2 8)), (V.inl t_int' (gl r_.2.2 9)), (V.inl t_int' (gl r_.2.2 10))]))], 1, []⟩ : St))]) (spec_NodeOk_l11 k_ servers1 i6 b0) (rounds spec_NodeOk_c spec_NodeOk_L ((loopsIn (bodyOf Try.f33)).getD 1 .skip) k_ (⟨[(1, (V.int .i64 servers1)), (2, (V.bp 0 0)), (6, (V.int .i64 i6))], [(0, some (Blk.box t_impl_Node [(V.int .i64 (gi b0 0)), (V.int .i64 (gi b0 1)), (V.int .i64 (gi b0 2)), (V.inl t_impl_Item (gl b0 3)), (V.int .i64 (gi b0 4)), (V.int .i64 (gi b0 5)), (V.int .i64 (gi b0 6)), (V.int .i64 (gi b0 7)), (V.inl t_bool (gl b0 8)), (V.inl t_int' (gl b0 9)), (V.inl t_int' (gl b0 10))]))], 1, []⟩ : St)) := by
  induction k_ with
  | zero => intros; exact agr_none
  | succ k_ ih =>
    intro servers1 i6 b0
    have h : rounds spec_NodeOk_c spec_NodeOk_L ((loopsIn (bodyOf Try.f33)).getD 1 .skip) (k_ + 1) (⟨[(1, (V.int .i64 servers1)), (2, (V.bp 0 0)), (6, (V.int .i64 i6))], [(0, some (Blk.box t_impl_Node [(V.int .i64 (gi b0 0)), (V.int .i64 (gi b0 1)), (V.int .i64 (gi b0 2)), (V.inl t_impl_Item (gl b0 3)), (V.int .i64 (gi b0 4)), (V.int .i64 (gi b0 5)), (V.int .i64 (gi b0 6)), (V.int .i64 (gi b0 7)), (V.inl t_bool (gl b0 8)), (V.inl t_int' (gl b0 9)), (V.inl t_int' (gl b0 10))]))], 1, []⟩ : St) = (bif (decide (i6 < servers1)) then bif (decide ((gi b0 5) = 2)) then bif (idxOk i6 ((gl b0 9).length)) then bif (decide ((gi (rd (gl b0 9) i6.toNat) 0) < 1)) then some (Ex.ret, (⟨[(2, (V.bp 0 0)), (4, (V.bool false))], [(0, some (Blk.box t_impl_Node [(V.int .i64 (gi b0 0)), (V.int .i64 (gi b0 1)), (V.int .i64 (gi b0 2)), (V.inl t_impl_Item (gl b0 3)), (V.int .i64 (gi b0 4)), (V.int .i64 (gi b0 5)), (V.int .i64 (gi b0 6)), (V.int .i64 (gi b0 7)), (V.inl t_bool (gl b0 8)), (V.inl t_int' (gl b0 9)), (V.inl t_int' (gl b0 10))]))], 1, []⟩ : St)) else bif (idxOk i6 ((gl b0 9).length)) then bif (decide ((IntKind.i64.wrap ((((gl b0 3).length : Nat) : Int) + 1)) < (gi (rd (gl b0 9) i6.toNat) 0))) then some (Ex.ret, (⟨[(2, (V.bp 0 0)), (4, (V.bool false))], [(0, some (Blk.box t_impl_Node [(V.int .i64 (gi b0 0)), (V.int .i64 (gi b0 1)), (V.int .i64 (gi b0 2)), (V.inl t_impl_Item (gl b0 3)), (V.int .i64 (gi b0 4)), (V.int .i64 (gi b0 5)), (V.int .i64 (gi b0 6)), (V.int .i64 (gi b0 7)), (V.inl t_bool (gl b0 8)), (V.inl t_int' (gl b0 9)), (V.inl t_int' (gl b0 10))]))], 1, []⟩ : St)) else bif (idxOk i6 ((gl b0 10).length)) then bif (decide ((gi (rd (gl b0 10) i6.toNat) 0) < 0)) then some (Ex.ret, (⟨[(2, (V.bp 0 0)), (4, (V.bool false))], [(0, some (Blk.box t_impl_Node [(V.int .i64 (gi b0 0)), (V.int .i64 (gi b0 1)), (V.int .i64 (gi b0 2)), (V.inl t_impl_Item (gl b0 3)), (V.int .i64 (gi b0 4)), (V.int .i64 (gi b0 5)), (V.int .i64 (gi b0 6)), (V.int .i64 (gi b0 7)), (V.inl t_bool (gl b0 8)), (V.inl t_int' (gl b0 9)), (V.inl t_int' (gl b0 10))]))], 1, []⟩ : St)) else bif (idxOk i6 ((gl b0 10).length)) then bif (decide ((((gl b0 3).length : Nat) : Int) < (gi (rd (gl b0 10) i6.toNat) 0))) then some (Ex.ret, (⟨[(2, (V.bp 0 0)), (4, (V.bool false))], [(0, some (Blk.box t_impl_Node [(V.int .i64 (gi b0 0)), (V.int .i64 (gi b0 1)), (V.int .i64 (gi b0 2)), (V.inl t_impl_Item (gl b0 3)), (V.int .i64 (gi b0 4)), (V.int .i64 (gi b0 5)), (V.int .i64 (gi b0 6)), (V.int .i64 (gi b0 7)), (V.inl t_bool (gl b0 8)), (V.inl t_int' (gl b0 9)), (V.inl t_int' (gl b0 10))]))], 1, []⟩ : St)) else bif (!(decide ((gi b0 5) = 2))) then bif (idxOk i6 ((gl b0 9).length)) then bif (!(decide ((gi (rd (gl b0 9) i6.toNat) 0) = 0))) then some (Ex.ret, (⟨[(2, (V.bp 0 0)), (4, (V.bool false))], [(0, some (Blk.box t_impl_Node [(V.int .i64 (gi b0 0)), (V.int .i64 (gi b0 1)), (V.int .i64 (gi b0 2)), (V.inl t_impl_Item (gl b0 3)), (V.int .i64 (gi b0 4)), (V.int .i64 (gi b0 5)), (V.int .i64 (gi b0 6)), (V.int .i64 (gi b0 7)), (V.inl t_bool (gl b0 8)), (V.inl t_int' (gl b0 9)), (V.inl t_int' (gl b0 10))]))], 1, []⟩ : St)) else bif (idxOk i6 ((gl b0 10).length)) then bif (!(decide ((gi (rd (gl b0 10) i6.toNat) 0) = 0))) then some (Ex.ret, (⟨[(2, (V.bp 0 0)), (4, (V.bool false))], [(0, some (Blk.box t_impl_Node [(V.int .i64 (gi b0 0)), (V.int .i64 (gi b0 1)), (V.int .i64 (gi b0 2)), (V.inl t_impl_Item (gl b0 3)), (V.int .i64 (gi b0 4)), (V.int .i64 (gi b0 5)), (V.int .i64 (gi b0 6)), (V.int .i64 (gi b0 7)), (V.inl t_bool (gl b0 8)), (V.inl t_int' (gl b0 9)), (V.inl t_int' (gl b0 10))]))], 1, []⟩ : St)) else bif (decide ((gi b0 5) = 0)) then bif (idxOk i6 ((gl b0 8).length)) then bif (gb (rd (gl b0 8) i6.toNat) 0) then some (Ex.ret, (⟨[(2, (V.bp 0 0)), (4, (V.bool false))], [(0, some (Blk.box t_impl_Node [(V.int .i64 (gi b0 0)), (V.int .i64 (gi b0 1)), (V.int .i64 (gi b0 2)), (V.inl t_impl_Item (gl b0 3)), (V.int .i64 (gi b0 4)), (V.int .i64 (gi b0 5)), (V.int .i64 (gi b0 6)), (V.int .i64 (gi b0 7)), (V.inl t_bool (gl b0 8)), (V.inl t_int' (gl b0 9)), (V.inl t_int' (gl b0 10))]))], 1, []⟩ : St)) else rounds spec_NodeOk_c spec_NodeOk_L ((loopsIn (bodyOf Try.f33)).getD 1 .skip) k_ (⟨[(1, (V.int .i64 servers1)), (2, (V.bp 0 0)), (6, (V.int .i64 (IntKind.i64.wrap (i6 + 1))))], [(0, some (Blk.box t_impl_Node [(V.int .i64 (gi b0 0)), (V.int .i64 (gi b0 1)), (V.int .i64 (gi b0 2)), (V.inl t_impl_Item (gl b0 3)), (V.int .i64 (gi b0 4)), (V.int .i64 (gi b0 5)), (V.int .i64 (gi b0 6)), (V.int .i64 (gi b0 7)), (V.inl t_bool (gl b0 8)), (V.inl t_int' (gl b0 9)), (V.inl t_int' (gl b0 10))]))], 1, []⟩ : St) else none else rounds spec_NodeOk_c spec_NodeOk_L ((loopsIn (bodyOf Try.f33)).getD 1 .skip) k_ (⟨[(1, (V.int .i64 servers1)), (2, (V.bp 0 0)), (6, (V.int .i64 (IntKind.i64.wrap (i6 + 1))))], [(0, some (Blk.box t_impl_Node [(V.int .i64 (gi b0 0)), (V.int .i64 (gi b0 1)), (V.int .i64 (gi b0 2)), (V.inl t_impl_Item (gl b0 3)), (V.int .i64 (gi b0 4)), (V.int .i64 (gi b0 5)), (V.int .i64 (gi b0 6)), (V.int .i64 (gi b0 7)), (V.inl t_bool (gl b0 8)), (V.inl t_int' (gl b0 9)), (V.inl t_int' (gl b0 10))]))], 1, []⟩ : St) else none else none else bif (decide ((gi b0 5) = 0)) then bif (idxOk i6 ((gl b0 8).length)) then bif (gb (rd (gl b0 8) i6.toNat) 0) then some (Ex.ret, (⟨[(2, (V.bp 0 0)), (4, (V.bool false))], [(0, some (Blk.box t_impl_Node [(V.int .i64 (gi b0 0)), (V.int .i64 (gi b0 1)), (V.int .i64 (gi b0 2)), (V.inl t_impl_Item (gl b0 3)), (V.int .i64 (gi b0 4)), (V.int .i64 (gi b0 5)), (V.int .i64 (gi b0 6)), (V.int .i64 (gi b0 7)), (V.inl t_bool (gl b0 8)), (V.inl t_int' (gl b0 9)), (V.inl t_int' (gl b0 10))]))], 1, []⟩ : St)) else rounds spec_NodeOk_c spec_NodeOk_L ((loopsIn (bodyOf Try.f33)).getD 1 .skip) k_ (⟨[(1, (V.int .i64 servers1)), (2, (V.bp 0 0)), (6, (V.int .i64 (IntKind.i64.wrap (i6 + 1))))], [(0, some (Blk.box t_impl_Node [(V.int .i64 (gi b0 0)), (V.int .i64 (gi b0 1)), (V.int .i64 (gi b0 2)), (V.inl t_impl_Item (gl b0 3)), (V.int .i64 (gi b0 4)), (V.int .i64 (gi b0 5)), (V.int .i64 (gi b0 6)), (V.int .i64 (gi b0 7)), (V.inl t_bool (gl b0 8)), (V.inl t_int' (gl b0 9)), (V.inl t_int' (gl b0 10))]))], 1, []⟩ : St) else none else rounds spec_NodeOk_c spec_NodeOk_L ((loopsIn (bodyOf Try.f33)).getD 1 .skip) k_ (⟨[(1, (V.int .i64 servers1)), (2, (V.bp 0 0)), (6, (V.int .i64 (IntKind.i64.wrap (i6 + 1))))], [(0, some (Blk.box t_impl_Node [(V.int .i64 (gi b0 0)), (V.int .i64 (gi b0 1)), (V.int .i64 (gi b0 2)), (V.inl t_impl_Item (gl b0 3)), (V.int .i64 (gi b0 4)), (V.int .i64 (gi b0 5)), (V.int .i64 (gi b0 6)), (V.int .i64 (gi b0 7)), (V.inl t_bool (gl b0 8)), (V.inl t_int' (gl b0 9)), (V.inl t_int' (gl b0 10))]))], 1, []⟩ : St) else none else none else none else none else bif (!(decide ((gi b0 5) = 2))) then bif (idxOk i6 ((gl b0 9).length)) then bif (!(decide ((gi (rd (gl b0 9) i6.toNat) 0) = 0))) then some (Ex.ret, (⟨[(2, (V.bp 0 0)), (4, (V.bool false))], [(0, some (Blk.box t_impl_Node [(V.int .i64 (gi b0 0)), (V.int .i64 (gi b0 1)), (V.int .i64 (gi b0 2)), (V.inl t_impl_Item (gl b0 3)), (V.int .i64 (gi b0 4)), (V.int .i64 (gi b0 5)), (V.int .i64 (gi b0 6)), (V.int .i64 (gi b0 7)), (V.inl t_bool (gl b0 8)), (V.inl t_int' (gl b0 9)), (V.inl t_int' (gl b0 10))]))], 1, []⟩ : St)) else bif (idxOk i6 ((gl b0 10).length)) then bif (!(decide ((gi (rd (gl b0 10) i6.toNat) 0) = 0))) then some (Ex.ret, (⟨[(2, (V.bp 0 0)), (4, (V.bool false))], [(0, some (Blk.box t_impl_Node [(V.int .i64 (gi b0 0)), (V.int .i64 (gi b0 1)), (V.int .i64 (gi b0 2)), (V.inl t_impl_Item (gl b0 3)), (V.int .i64 (gi b0 4)), (V.int .i64 (gi b0 5)), (V.int .i64 (gi b0 6)), (V.int .i64 (gi b0 7)), (V.inl t_bool (gl b0 8)), (V.inl t_int' (gl b0 9)), (V.inl t_int' (gl b0 10))]))], 1, []⟩ : St)) else bif (decide ((gi b0 5) = 0)) then bif (idxOk i6 ((gl b0 8).length)) then bif (gb (rd (gl b0 8) i6.toNat) 0) then some (Ex.ret, (⟨[(2, (V.bp 0 0)), (4, (V.bool false))], [(0, some (Blk.box t_impl_Node [(V.int .i64 (gi b0 0)), (V.int .i64 (gi b0 1)), (V.int .i64 (gi b0 2)), (V.inl t_impl_Item (gl b0 3)), (V.int .i64 (gi b0 4)), (V.int .i64 (gi b0 5)), (V.int .i64 (gi b0 6)), (V.int .i64 (gi b0 7)), (V.inl t_bool (gl b0 8)), (V.inl t_int' (gl b0 9)), (V.inl t_int' (gl b0 10))]))], 1, []⟩ : St)) else rounds spec_NodeOk_c spec_NodeOk_L ((loopsIn (bodyOf Try.f33)).getD 1 .skip) k_ (⟨[(1, (V.int .i64 servers1)), (2, (V.bp 0 0)), (6, (V.int .i64 (IntKind.i64.wrap (i6 + 1))))], [(0, some (Blk.box t_impl_Node [(V.int .i64 (gi b0 0)), (V.int .i64 (gi b0 1)), (V.int .i64 (gi b0 2)), (V.inl t_impl_Item (gl b0 3)), (V.int .i64 (gi b0 4)), (V.int .i64 (gi b0 5)), (V.int .i64 (gi b0 6)), (V.int .i64 (gi b0 7)), (V.inl t_bool (gl b0 8)), (V.inl t_int' (gl b0 9)), (V.inl t_int' (gl b0 10))]))], 1, []⟩ : St) else none else rounds spec_NodeOk_c spec_NodeOk_L ((loopsIn (bodyOf Try.f33)).getD 1 .skip) k_ (⟨[(1, (V.int .i64 servers1)), (2, (V.bp 0 0)), (6, (V.int .i64 (IntKind.i64.wrap (i6 + 1))))], [(0, some (Blk.box t_impl_Node [(V.int .i64 (gi b0 0)), (V.int .i64 (gi b0 1)), (V.int .i64 (gi b0 2)), (V.inl t_impl_Item (gl b0 3)), (V.int .i64 (gi b0 4)), (V.int .i64 (gi b0 5)), (V.int .i64 (gi b0 6)), (V.int .i64 (gi b0 7)), (V.inl t_bool (gl b0 8)), (V.inl t_int' (gl b0 9)), (V.inl t_int' (gl b0 10))]))], 1, []⟩ : St) else none else none else bif (decide ((gi b0 5) = 0)) then bif (idxOk i6 ((gl b0 8).length)) then bif (gb (rd (gl b0 8) i6.toNat) 0) then some (Ex.ret, (⟨[(2, (V.bp 0 0)), (4, (V.bool false))], [(0, some (Blk.box t_impl_Node [(V.int .i64 (gi b0 0)), (V.int .i64 (gi b0 1)), (V.int .i64 (gi b0 2)), (V.inl t_impl_Item (gl b0 3)), (V.int .i64 (gi b0 4)), (V.int .i64 (gi b0 5)), (V.int .i64 (gi b0 6)), (V.int .i64 (gi b0 7)), (V.inl t_bool (gl b0 8)), (V.inl t_int' (gl b0 9)), (V.inl t_int' (gl b0 10))]))], 1, []⟩ : St)) else rounds spec_NodeOk_c spec_NodeOk_L ((loopsIn (bodyOf Try.f33)).getD 1 .skip) k_ (⟨[(1, (V.int .i64 servers1)), (2, (V.bp 0 0)), (6, (V.int .i64 (IntKind.i64.wrap (i6 + 1))))], [(0, some (Blk.box t_impl_Node [(V.int .i64 (gi b0 0)), (V.int .i64 (gi b0 1)), (V.int .i64 (gi b0 2)), (V.inl t_impl_Item (gl b0 3)), (V.int .i64 (gi b0 4)), (V.int .i64 (gi b0 5)), (V.int .i64 (gi b0 6)), (V.int .i64 (gi b0 7)), (V.inl t_bool (gl b0 8)), (V.inl t_int' (gl b0 9)), (V.inl t_int' (gl b0 10))]))], 1, []⟩ : St) else none else rounds spec_NodeOk_c spec_NodeOk_L ((loopsIn (bodyOf Try.f33)).getD 1 .skip) k_ (⟨[(1, (V.int .i64 servers1)), (2, (V.bp 0 0)), (6, (V.int .i64 (IntKind.i64.wrap (i6 + 1))))], [(0, some (Blk.box t_impl_Node [(V.int .i64 (gi b0 0)), (V.int .i64 (gi b0 1)), (V.int .i64 (gi b0 2)), (V.inl t_impl_Item (gl b0 3)), (V.int .i64 (gi b0 4)), (V.int .i64 (gi b0 5)), (V.int .i64 (gi b0 6)), (V.int .i64 (gi b0 7)), (V.inl t_bool (gl b0 8)), (V.inl t_int' (gl b0 9)), (V.inl t_int' (gl b0 10))]))], 1, []⟩ : St) else some ((Ex.exit 2), (⟨[(2, (V.bp 0 0)), (4, V.dead)], [(0, some (Blk.box t_impl_Node [(V.int .i64 (gi b0 0)), (V.int .i64 (gi b0 1)), (V.int .i64 (gi b0 2)), (V.inl t_impl_Item (gl b0 3)), (V.int .i64 (gi b0 4)), (V.int .i64 (gi b0 5)), (V.int .i64 (gi b0 6)), (V.int .i64 (gi b0 7)), (V.inl t_bool (gl b0 8)), (V.inl t_int' (gl b0 9)), (V.inl t_int' (gl b0 10))]))], 1, []⟩ : St))) := by kernel_rfl
    rw [h, spec_NodeOk_l11]
    clear h
    repeat' (first | exact agr_none | refine agr_if ?_ ?_ | refine agr_call fun _ => ?_ | refine agr_let fun _ => ?_ | exact agr_leaf (by kernel_rfl) | exact ih _ _ _)
theorem spec_NodeOk_lo : LoopsOk spec_NodeOk_c spec_NodeOk_L (bodyOf Try.f33) := by
  refine GoodAll.ok (l := [spec_NodeOk_l4_e, spec_NodeOk_l11_e]) ?_ rfl
  refine GoodAll.cons 0 (by kernel_rfl) ?_ ?_
  · exact good_of (key := 4) (ss := ⟨[(1, (.one (.int .i64))), (2, (.one (.bp 0 0))), (5, (.one (.int .i64)))], [(.box t_impl_Node [(.int .i64), (.int .i64), (.int .i64), (.inl t_impl_Item), (.int .i64), (.int .i64), (.int .i64), (.int .i64), (.inl t_bool), (.inl t_int'), (.inl t_int')])], 1, []⟩) (F := fun st => spec_NodeOk_l4 (((((gl (bc st 0) 3).length : Nat) : Int) - ((sv st 2).I)).toNat + 1) ((sv st 0).I) ((sv st 2).I) (bc st 0)) (ix := fun r_ => r_.1) (ps := fun r_ => [(Ex.ret, (⟨[(1, (V.int .i64 r_.2.1)), (2, (V.bp 0 0)), (4, (V.bool r_.2.2.1))], [(0, some (Blk.box t_impl_Node [(V.int .i64 (gi r_.2.2.2 0)), (V.int .i64 (gi r_.2.2.2 1)), (V.int .i64 (gi r_.2.2.2 2)), (V.inl t_impl_Item (gl r_.2.2.2 3)), (V.int .i64 (gi r_.2.2.2 4)), (V.int .i64 (gi r_.2.2.2 5)), (V.int .i64 (gi r_.2.2.2 6)), (V.int .i64 (gi r_.2.2.2 7)), (V.inl t_bool (gl r_.2.2.2 8)), (V.inl t_int' (gl r_.2.2.2 9)), (V.inl t_int' (gl r_.2.2.2 10))]))], 1, []⟩ : St)), ((Ex.exit 0), (⟨[(1, (V.int .i64 r_.2.1)), (2, (V.bp 0 0)), (4, V.dead)], [(0, some (Blk.box t_impl_Node [(V.int .i64 (gi r_.2.2.2 0)), (V.int .i64 (gi r_.2.2.2 1)), (V.int .i64 (gi r_.2.2.2 2)), (V.inl t_impl_Item (gl r_.2.2.2 3)), (V.int .i64 (gi r_.2.2.2 4)), (V.int .i64 (gi r_.2.2.2 5)), (V.int .i64 (gi r_.2.2.2 6)), (V.int .i64 (gi r_.2.2.2 7)), (V.inl t_bool (gl r_.2.2.2 8)), (V.inl t_int' (gl r_.2.2.2 9)), (V.inl t_int' (gl r_.2.2.2 10))]))], 1, []⟩ : St))]) (fun st => ((((gl (bc st 0) 3).length : Nat) : Int) - ((sv st 2).I)).toNat + 1) fun st h => by
      have q := spec_NodeOk_l4_ok (((((gl (bc st 0) 3).length : Nat) : Int) - ((sv st 2).I)).toNat + 1) ((sv st 0).I) ((sv st 2).I) (bc st 0)
      rw [show (⟨[(1, (V.int .i64 ((sv st 0).I))), (2, (V.bp 0 0)), (5, (V.int .i64 ((sv st 2).I)))], [(0, some (Blk.box t_impl_Node [(V.int .i64 (gi (bc st 0) 0)), (V.int .i64 (gi (bc st 0) 1)), (V.int .i64 (gi (bc st 0) 2)), (V.inl t_impl_Item (gl (bc st 0) 3)), (V.int .i64 (gi (bc st 0) 4)), (V.int .i64 (gi (bc st 0) 5)), (V.int .i64 (gi (bc st 0) 6)), (V.int .i64 (gi (bc st 0) 7)), (V.inl t_bool (gl (bc st 0) 8)), (V.inl t_int' (gl (bc st 0) 9)), (V.inl t_int' (gl (bc st 0) 10))]))], 1, []⟩ : St) = st from h] at q
      exact q
  refine GoodAll.cons 1 (by kernel_rfl) ?_ ?_
  · exact good_of (key := 11) (ss := ⟨[(1, (.one (.int .i64))), (2, (.one (.bp 0 0))), (6, (.one (.int .i64)))], [(.box t_impl_Node [(.int .i64), (.int .i64), (.int .i64), (.inl t_impl_Item), (.int .i64), (.int .i64), (.int .i64), (.int .i64), (.inl t_bool), (.inl t_int'), (.inl t_int')])], 1, []⟩) (F := fun st => spec_NodeOk_l11 ((((sv st 0).I) - ((sv st 2).I)).toNat + 1) ((sv st 0).I) ((sv st 2).I) (bc st 0)) (ix := fun r_ => r_.1) (ps := fun r_ => [(Ex.ret, (⟨[(2, (V.bp 0 0)), (4, (V.bool r_.2.1))], [(0, some (Blk.box t_impl_Node [(V.int .i64 (gi r_.2.2 0)), (V.int .i64 (gi r_.2.2 1)), (V.int .i64 (gi r_.2.2 2)), (V.inl t_impl_Item (gl r_.2.2 3)), (V.int .i64 (gi r_.2.2 4)), (V.int .i64 (gi r_.2.2 5)), (V.int .i64 (gi r_.2.2 6)), (V.int .i64 (gi r_.2.2 7)), (V.inl t_bool (gl r_.2.2 8)), (V.inl t_int' (gl r_.2.2 9)), (V.inl t_int' (gl r_.2.2 10))]))], 1, []⟩ : St)), ((Ex.exit 2), (⟨[(2, (V.bp 0 0)), (4, V.dead)], [(0, some (Blk.box t_impl_Node [(V.int .i64 (gi r_.2.2 0)), (V.int .i64 (gi r_.2.2 1)), (V.int .i64 (gi r_.2.2 2)), (V.inl t_impl_Item (gl r_.2.2 3)), (V.int .i64 (gi r_.2.2 4)), (V.int .i64 (gi r_.2.2 5)), (V.int .i64 (gi r_.2.2 6)), (V.int .i64 (gi r_.2.2 7)), (V.inl t_bool (gl r_.2.2 8)), (V.inl t_int' (gl r_.2.2 9)), (V.inl t_int' (gl r_.2.2 10))]))], 1, []⟩ : St))]) (fun st => (((sv st 0).I) - ((sv st 2).I)).toNat + 1) fun st h => by
      have q := spec_NodeOk_l11_ok ((((sv st 0).I) - ((sv st 2).I)).toNat + 1) ((sv st 0).I) ((sv st 2).I) (bc st 0)
      rw [show (⟨[(1, (V.int .i64 ((sv st 0).I))), (2, (V.bp 0 0)), (6, (V.int .i64 ((sv st 2).I)))], [(0, some (Blk.box t_impl_Node [(V.int .i64 (gi (bc st 0) 0)), (V.int .i64 (gi (bc st 0) 1)), (V.int .i64 (gi (bc st 0) 2)), (V.inl t_impl_Item (gl (bc st 0) 3)), (V.int .i64 (gi (bc st 0) 4)), (V.int .i64 (gi (bc st 0) 5)), (V.int .i64 (gi (bc st 0) 6)), (V.int .i64 (gi (bc st 0) 7)), (V.inl t_bool (gl (bc st 0) 8)), (V.inl t_int' (gl (bc st 0) 9)), (V.inl t_int' (gl (bc st 0) 10))]))], 1, []⟩ : St) = st from h] at q
      exact q
  exact GoodAll.nil
def spec_NodeOk_sh (r_ : Bool) : V × List V := ((V.bool r_), [])
set_option maxRecDepth 100000 in
theorem spec_NodeOk_e (n : V) (servers : Int) : Agr (wkF [[.dead]] []) spec_NodeOk_sh (spec_NodeOk n servers) (evalFn spec_NodeOk_c spec_NodeOk_L Try.f33 [(n_impl_Node n), (V.int .i64 servers)]) := by
  have h : evalFn spec_NodeOk_c spec_NodeOk_L Try.f33 [(n_impl_Node n), (V.int .i64 servers)] = (bif (!(spec_l4servers servers)) then some ((V.bool false), []) else bif (decide ((gi n 0) < 0)) then some ((V.bool false), []) else bif (decide (servers ≤ (gi n 0))) then some ((V.bool false), []) else bif (!(spec_l3term (gi n 1))) then some ((V.bool false), []) else bif (!(spec_l4who (gi n 2) servers)) then some ((V.bool false), []) else bif (decide ((400 : Int) < (((gl n 3).length : Nat) : Int))) then some ((V.bool false), []) else bif (decide ((gi n 4) < 0)) then some ((V.bool false), []) else bif (decide ((((gl n 3).length : Nat) : Int) < (gi n 4))) then some ((V.bool false), []) else bif (decide ((gi n 5) < 0)) then some ((V.bool false), []) else bif (decide ((2 : Int) < (gi n 5))) then some ((V.bool false), []) else bif (!(spec_l4who (gi n 6) servers)) then some ((V.bool false), []) else bif (decide ((gi n 7) < 0)) then some ((V.bool false), []) else bif (decide ((20 : Int) < (gi n 7))) then some ((V.bool false), []) else bif (!(decide ((((gl n 8).length : Nat) : Int) = servers))) then some ((V.bool false), []) else bif (!(decide ((((gl n 9).length : Nat) : Int) = servers))) then some ((V.bool false), []) else bif (!(decide ((((gl n 10).length : Nat) : Int) = servers))) then some ((V.bool false), []) else rcall (spec_NodeOk_l4 (((((gl (n_impl_Node n) 3).length : Nat) : Int) - 0).toNat + 1) servers 0 (n_impl_Node n)) fun r29 => bif (Nat.beq r29.1 0) then some ((V.bool r29.2.2.1), []) else bif (!(decide ((gi r29.2.2.2 5) = 0))) then bif (decide ((gi r29.2.2.2 1) < 1)) then some ((V.bool false), []) else bif (!(decide ((gi r29.2.2.2 2) = (gi r29.2.2.2 0)))) then some ((V.bool false), []) else rcall (spec_NodeOk_l11 ((r29.2.1 - 0).toNat + 1) r29.2.1 0 (n_impl_Node r29.2.2.2)) fun r30 => bif (Nat.beq r30.1 0) then some ((V.bool r30.2.1), []) else bif (!(decide ((gi r30.2.2 5) = 2))) then some ((V.bool true), []) else some ((V.bool (decide ((gi r30.2.2 6) = (gi r30.2.2 0)))), []) else rcall (spec_NodeOk_l11 ((r29.2.1 - 0).toNat + 1) r29.2.1 0 (n_impl_Node r29.2.2.2)) fun r31 => bif (Nat.beq r31.1 0) then some ((V.bool r31.2.1), []) else bif (!(decide ((gi r31.2.2 5) = 2))) then some ((V.bool true), []) else some ((V.bool (decide ((gi r31.2.2 6) = (gi r31.2.2 0)))), [])) := by kernel_rfl
  rw [h, spec_NodeOk]
  clear h
  repeat' (first | exact agr_none | refine agr_if ?_ ?_ | refine agr_call fun _ => ?_ | refine agr_let fun _ => ?_ | exact agr_leaf (by kernel_rfl))
def spec_NodeOk_s (args : List V) : Option (Bool × (V × List V)) := bif argsOk [(.agg [(.int .i64), (.int .i64), (.int .i64), (.inl t_impl_Item), (.int .i64), (.int .i64), (.int .i64), (.int .i64), (.inl t_bool), (.inl t_int'), (.inl t_int')]), (.one (.int .i64))] args then some ((spec_NodeOk (rd args 0) ((rd args 1).I)).isSome, spec_NodeOk_sh ((spec_NodeOk (rd args 0) ((rd args 1).I)).getD default)) else none
theorem spec_NodeOk_s_ok : ∀ args r, spec_NodeOk_s args = some (true, r) → SumOk Try.prog tab 33 args r :=
  Base.sum (cfg := spec_NodeOk_c) (F := fun args => spec_NodeOk (rd args 0) ((rd args 1).I)) (shr := spec_NodeOk_sh) base spec_NodeOk_c_ok Try.func33 (by kernel_rfl) spec_NodeOk_lo [(.agg [(.int .i64), (.int .i64), (.int .i64), (.inl t_impl_Item), (.int .i64), (.int .i64), (.int .i64), (.int .i64), (.inl t_bool), (.inl t_int'), (.inl t_int')]), (.one (.int .i64))] (by kernel_rfl) [[.dead]] [] (by kernel_rfl) fun args h => by
    have q := spec_NodeOk_e (rd args 0) ((rd args 1).I)
    rw [show [(n_impl_Node (rd args 0)), (V.int .i64 ((rd args 1).I))] = args from h] at q
    exact q
def spec_l3ownItem_c : Cfg := ⟨tab, sumsOf [], fun _ => false, fun f => (look [] f).getD [], false, fun _ => false⟩
theorem spec_l3ownItem_c_ok : SumsOk Try.prog tab spec_l3ownItem_c.sums := sums_nil
def spec_l3ownItem_L : Loops := ⟨fun k => (look [] k).getD [], fun k => (look [] k).getD [], fun k => (look [] k).getD [], runL []⟩
def spec_l3ownItem_sh (r_ : V) : V × List V := ((V.agg [(V.int .i64 (gi r_ 0)), (V.int .i64 (gi r_ 1)), (V.int .i64 (gi r_ 2)), (V.int .i64 (gi r_ 3)), (V.rr t_byte true (gl r_ 4)), (V.rr t_byte true (gl r_ 5)), (V.int .i64 (gi r_ 6))]), [])
theorem spec_l3ownItem_e (x : V) : Agr (wkF [[.dead, .dead, .dead, .dead, (.rr t_byte true), (.rr t_byte true), .dead]] []) spec_l3ownItem_sh (spec_l3ownItem x) (evalFn spec_l3ownItem_c spec_l3ownItem_L Try.f96 [(n_impl_Item x)]) := by
  have h : evalFn spec_l3ownItem_c spec_l3ownItem_L Try.f96 [(n_impl_Item x)] = (bif ((roomy (0 + ((gl x 4).length)) 1) && true) then bif ((roomy (0 + ((gl x 5).length)) 1) && true) then some ((V.agg [(V.int .i64 (gi x 0)), (V.int .i64 (gi x 1)), (V.int .i64 (gi x 2)), (V.int .i64 (gi x 3)), (V.rr t_byte true (gl x 4)), (V.rr t_byte true (gl x 5)), (V.int .i64 (gi x 6))]), []) else none else none) := by kernel_rfl
  rw [h, spec_l3ownItem]
  clear h
  repeat' (first | exact agr_none | refine agr_if ?_ ?_ | refine agr_call fun _ => ?_ | refine agr_let fun _ => ?_ | exact agr_leaf (by kernel_rfl))
def spec_l3ownItem_s (args : List V) : Option (Bool × (V × List V)) := bif argsOk [(.agg [(.int .i64), (.int .i64), (.int .i64), (.int .i64), (.inl t_byte), (.inl t_byte), (.int .i64)])] args then some ((spec_l3ownItem (rd args 0)).isSome, spec_l3ownItem_sh ((spec_l3ownItem (rd args 0)).getD default)) else none
theorem spec_l3ownItem_s_ok : ∀ args r, spec_l3ownItem_s args = some (true, r) → SumOk Try.prog tab 96 args r :=
  Base.sum (cfg := spec_l3ownItem_c) (F := fun args => spec_l3ownItem (rd args 0)) (shr := spec_l3ownItem_sh) base spec_l3ownItem_c_ok Try.func96 (by kernel_rfl) (GoodAll.ok (l := []) GoodAll.nil rfl) [(.agg [(.int .i64), (.int .i64), (.int .i64), (.int .i64), (.inl t_byte), (.inl t_byte), (.int .i64)])] (by kernel_rfl) [[.dead, .dead, .dead, .dead, (.rr t_byte true), (.rr t_byte true), .dead]] [] (by kernel_rfl) fun args h => by
    have q := spec_l3ownItem_e (rd args 0)
    rw [show [(n_impl_Item (rd args 0))] = args from h] at q
    exact q
def spec_l3ownItems_c : Cfg := ⟨tab, sumsOf [(96, spec_l3ownItem_s)], fun _ => false, fun f => (look [(96, [none])] f).getD [], false, fun _ => false⟩
theorem spec_l3ownItems_c_ok : SumsOk Try.prog tab spec_l3ownItems_c.sums := sums_cons f96_en spec_l3ownItem_s_ok (sums_nil)
def spec_l3ownItems_l3_e : LE := ⟨3, ⟨[(0, (.one (.inl t_impl_Item))), (3, (.one (.sl 0 t_impl_Item))), (4, (.one (.int .i64)))], [(.row t_impl_Item true)], 1, []⟩, fun st => Out.tst (spec_l3ownItems_l3 ((((((sv st 0).L).length : Nat) : Int) - ((sv st 2).I)).toNat + 1) ((sv st 0).L) ((sv st 2).I) (br st 0)).isSome (brs ((fun r_ => 0) ((spec_l3ownItems_l3 ((((((sv st 0).L).length : Nat) : Int) - ((sv st 2).I)).toNat + 1) ((sv st 0).L) ((sv st 2).I) (br st 0)).getD default)) 0 ((fun r_ => [((Ex.exit 0), (⟨[(3, (V.sl 0 t_impl_Item 0 none))], [(0, some (Blk.row t_impl_Item true r_))], 1, []⟩ : St))]) ((spec_l3ownItems_l3 ((((((sv st 0).L).length : Nat) : Int) - ((sv st 2).I)).toNat + 1) ((sv st 0).L) ((sv st 2).I) (br st 0)).getD default)))⟩
def spec_l3ownItems_L : Loops := ⟨fun k => (look [(3, [0, 3, 4])] k).getD [], fun k => (look [(3, [⟨3, none, true⟩])] k).getD [], fun k => (look [(3, [3])] k).getD [], runL [spec_l3ownItems_l3_e]⟩
theorem spec_l3ownItems_l3_ok (k_ : Nat) : ∀ (l0 : List V) (i4 : Int) (r0 : List V), Agr id (fun r_ => pick (0) 0 [((Ex.exit 0), (⟨[(3, (V.sl 0 t_impl_Item 0 none))], [(0, some (Blk.row t_impl_Item true r_))], 1, []⟩ : St))]) (spec_l3ownItems_l3 k_ l0 i4 r0) (rounds spec_l3ownItems_c spec_l3ownItems_L ((loopsIn (bodyOf Try.f42)).getD 0 .skip) k_ (⟨[(0, (V.inl t_impl_Item l0)), (3, (V.sl 0 t_impl_Item 0 none)), (4, (V.int .i64 i4))], [(0, some (Blk.row t_impl_Item true r0))], 1, []⟩ : St)) := by
  induction k_ with
  | zero => intros; exact agr_none
  | succ k_ ih =>
    intro l0 i4 r0
    have h : rounds spec_l3ownItems_c spec_l3ownItems_L ((loopsIn (bodyOf Try.f42)).getD 0 .skip) (k_ + 1) (⟨[(0, (V.inl t_impl_Item l0)), (3, (V.sl 0 t_impl_Item 0 none)), (4, (V.int .i64 i4))], [(0, some (Blk.row t_impl_Item true r0))], 1, []⟩ : St) = (bif (decide (i4 < ((l0.length : Nat) : Int))) then bif (idxOk i4 l0.length) then rcall (spec_l3ownItem (n_impl_Item (rd l0 i4.toNat))) fun r34 => bif ((roomy (r0.length + 1) 88) && true) then rounds spec_l3ownItems_c spec_l3ownItems_L ((loopsIn (bodyOf Try.f42)).getD 0 .skip) k_ (⟨[(0, (V.inl t_impl_Item l0)), (3, (V.sl 0 t_impl_Item 0 none)), (4, (V.int .i64 (IntKind.i64.wrap (i4 + 1))))], [(0, some (Blk.row t_impl_Item true (r0 ++ [(n_impl_Item r34)])))], 1, []⟩ : St) else none else none else some ((Ex.exit 0), (⟨[(3, (V.sl 0 t_impl_Item 0 none))], [(0, some (Blk.row t_impl_Item true r0))], 1, []⟩ : St))) := by kernel_rfl
    rw [h, spec_l3ownItems_l3]
    clear h
    repeat' (first | exact agr_none | refine agr_if ?_ ?_ | refine agr_call fun _ => ?_ | refine agr_let fun _ => ?_ | exact agr_leaf (by kernel_rfl) | exact ih _ _ _)
theorem spec_l3ownItems_lo : LoopsOk spec_l3ownItems_c spec_l3ownItems_L (bodyOf Try.f42) := by
  refine GoodAll.ok (l := [spec_l3ownItems_l3_e]) ?_ rfl
  refine GoodAll.cons 0 (by kernel_rfl) ?_ ?_
  · exact good_of (key := 3) (ss := ⟨[(0, (.one (.inl t_impl_Item))), (3, (.one (.sl 0 t_impl_Item))), (4, (.one (.int .i64)))], [(.row t_impl_Item true)], 1, []⟩) (F := fun st => spec_l3ownItems_l3 ((((((sv st 0).L).length : Nat) : Int) - ((sv st 2).I)).toNat + 1) ((sv st 0).L) ((sv st 2).I) (br st 0)) (ix := fun r_ => 0) (ps := fun r_ => [((Ex.exit 0), (⟨[(3, (V.sl 0 t_impl_Item 0 none))], [(0, some (Blk.row t_impl_Item true r_))], 1, []⟩ : St))]) (fun st => (((((sv st 0).L).length : Nat) : Int) - ((sv st 2).I)).toNat + 1) fun st h => by
      have q := spec_l3ownItems_l3_ok ((((((sv st 0).L).length : Nat) : Int) - ((sv st 2).I)).toNat + 1) ((sv st 0).L) ((sv st 2).I) (br st 0)
      rw [show (⟨[(0, (V.inl t_impl_Item ((sv st 0).L))), (3, (V.sl 0 t_impl_Item 0 none)), (4, (V.int .i64 ((sv st 2).I)))], [(0, some (Blk.row t_impl_Item true (br st 0)))], 1, []⟩ : St) = st from h] at q
      exact q
  exact GoodAll.nil
def spec_l3ownItems_sh (r_ : List V) : V × List V := ((V.rr t_impl_Item true r_), [])
theorem spec_l3ownItems_e (l : List V) : Agr (wkF [[(.rr t_impl_Item true)]] []) spec_l3ownItems_sh (spec_l3ownItems l) (evalFn spec_l3ownItems_c spec_l3ownItems_L Try.f42 [(V.inl t_impl_Item l)]) := by
  have h : evalFn spec_l3ownItems_c spec_l3ownItems_L Try.f42 [(V.inl t_impl_Item l)] = (rcall (spec_l3ownItems_l3 ((((l.length : Nat) : Int) - 0).toNat + 1) l 0 []) fun r35 => some ((V.rr t_impl_Item true r35), [])) := by kernel_rfl
  rw [h, spec_l3ownItems]
  clear h
  repeat' (first | exact agr_none | refine agr_if ?_ ?_ | refine agr_call fun _ => ?_ | refine agr_let fun _ => ?_ | exact agr_leaf (by kernel_rfl))
def spec_l3ownItems_s (args : List V) : Option (Bool × (V × List V)) := bif argsOk [(.one (.inl t_impl_Item))] args then some ((spec_l3ownItems ((rd args 0).L)).isSome, spec_l3ownItems_sh ((spec_l3ownItems ((rd args 0).L)).getD default)) else none
theorem spec_l3ownItems_s_ok : ∀ args r, spec_l3ownItems_s args = some (true, r) → SumOk Try.prog tab 42 args r :=
  Base.sum (cfg := spec_l3ownItems_c) (F := fun args => spec_l3ownItems ((rd args 0).L)) (shr := spec_l3ownItems_sh) base spec_l3ownItems_c_ok Try.func42 (by kernel_rfl) spec_l3ownItems_lo [(.one (.inl t_impl_Item))] (by kernel_rfl) [[(.rr t_impl_Item true)]] [] (by kernel_rfl) fun args h => by
    have q := spec_l3ownItems_e ((rd args 0).L)
    rw [show [(V.inl t_impl_Item ((rd args 0).L))] = args from h] at q
    exact q
end Go.Eng.R
