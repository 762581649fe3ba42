/- An own evaluator of the program's form, proved sound, and what it says of this law's functions: part 3. -/
import Derived.Test.YtmkjebekmeefcaaE2
import Derived.Test.YtmkjebekmeefcaaChecked
set_option linter.unusedVariables false
open Go Go.Eng
namespace Go.Eng.R
def laws_szByteS (a : List V) (left : Int) : Int :=
  bif (decide ((IntKind.i64.wrap (left - ((a.length : Nat) : Int))) < 0)) then
    (-1)
  else (IntKind.i64.wrap (left - ((a.length : Nat) : Int)))
def laws_szOp (a : V) (left : Int) : Int :=
  bif (decide ((laws_szByteS (gl a 1) left) < 0)) then
    (-1)
  else bif (decide ((laws_szByteS (gl a 2) (laws_szByteS (gl a 1) left)) < 0)) then
    (-1)
  else (laws_szByteS (gl a 2) (laws_szByteS (gl a 1) left))
def laws_szCmd (a : V) (left : Int) : Int :=
  bif (decide ((laws_szOp (V.agg [(V.int .i64 (gi a 2)), (V.inl t_byte (gl a 3)), (V.inl t_byte (gl a 4)), (V.int .i64 (gi a 5))]) left) < 0)) then
    (-1)
  else (laws_szOp (V.agg [(V.int .i64 (gi a 2)), (V.inl t_byte (gl a 3)), (V.inl t_byte (gl a 4)), (V.int .i64 (gi a 5))]) left)
def laws_szItem (a : V) (left : Int) : Int :=
  bif (decide ((laws_szCmd (V.agg [(V.int .i64 (gi a 1)), (V.int .i64 (gi a 2)), (V.int .i64 (gi a 3)), (V.inl t_byte (gl a 4)), (V.inl t_byte (gl a 5)), (V.int .i64 (gi a 6))]) left) < 0)) then
    (-1)
  else (laws_szCmd (V.agg [(V.int .i64 (gi a 1)), (V.int .i64 (gi a 2)), (V.int .i64 (gi a 3)), (V.inl t_byte (gl a 4)), (V.inl t_byte (gl a 5)), (V.int .i64 (gi a 6))]) left)
def laws_szItemS_l5 : Nat → List V → Int → Int → Option (Nat × Int × Int)
  | 0, _, _, _ => none
  | k_ + 1, a0, left1, i5 =>
    bif (decide (i5 < ((a0.length : Nat) : Int))) then
      bif (idxOk i5 a0.length) then
        bif (decide ((laws_szItem (n_impl_Item (rd a0 i5.toNat)) left1) < 0)) then
          some (0, laws_szItem (n_impl_Item (rd a0 i5.toNat)) left1, -1)
        else laws_szItemS_l5 k_ a0 (laws_szItem (n_impl_Item (rd a0 i5.toNat)) left1) (IntKind.i64.wrap (i5 + 1))
      else none
    else some (1, left1, 0)
def laws_szItemS (a : List V) (left : Int) : Option (Int) :=
  bif (decide ((IntKind.i64.wrap (left - ((a.length : Nat) : Int))) < 0)) then
    some (-1)
  else Option.bind (laws_szItemS_l5 ((((a.length : Nat) : Int) - 0).toNat + 1) a (IntKind.i64.wrap (left - ((a.length : Nat) : Int))) 0) fun r1 =>
  bif (Nat.beq r1.1 0) then
    some r1.2.2
  else some r1.2.1
def laws_szBoolS (a : List V) (left : Int) : Int :=
  bif (decide ((IntKind.i64.wrap (left - ((a.length : Nat) : Int))) < 0)) then
    (-1)
  else (IntKind.i64.wrap (left - ((a.length : Nat) : Int)))
def laws_szIntS (a : List V) (left : Int) : Int :=
  bif (decide ((IntKind.i64.wrap (left - ((a.length : Nat) : Int))) < 0)) then
    (-1)
  else (IntKind.i64.wrap (left - ((a.length : Nat) : Int)))
def laws_szNode (a : V) (left : Int) : Option (Int) :=
  Option.bind (laws_szItemS (gl a 3) left) fun r2 =>
  bif (decide (r2 < 0)) then
    some (-1)
  else bif (decide ((laws_szBoolS (gl a 8) r2) < 0)) then
    some (-1)
  else bif (decide ((laws_szIntS (gl a 9) (laws_szBoolS (gl a 8) r2)) < 0)) then
    some (-1)
  else bif (decide ((laws_szIntS (gl a 10) (laws_szIntS (gl a 9) (laws_szBoolS (gl a 8) r2))) < 0)) then
    some (-1)
  else some (laws_szIntS (gl a 10) (laws_szIntS (gl a 9) (laws_szBoolS (gl a 8) r2)))
def laws_toByteS_l3 : Nat → List V → Int → List V → Option (List V)
  | 0, _, _, _ => none
  | k_ + 1, a0, i4, r0 =>
    bif (decide (i4 < ((a0.length : Nat) : Int))) then
      bif (idxOk i4 a0.length) then
        bif (idxOk i4 r0.length) then
          laws_toByteS_l3 k_ a0 (IntKind.i64.wrap (i4 + 1)) (r0.set (0 + i4.toNat) (V.int .u8 (gi (rd a0 i4.toNat) 0)))
        else none
      else none
    else some r0
def laws_toByteS (a : List V) : Option (List V) :=
  bif (((decide ((0 : Int) ≤ ((a.length : Nat) : Int))) && decide (((a.length : Nat) : Int) = ((a.length : Nat) : Int))) && (roomy (((a.length : Nat) : Int).toNat) 1)) then
    Option.bind (laws_toByteS_l3 ((((a.length : Nat) : Int) - 0).toNat + 1) a 0 (List.replicate (((a.length : Nat) : Int).toNat) (V.int .u8 0))) fun r4 =>
    some r4
  else none
def laws_toOp (a : V) : Option (V) :=
  Option.bind (laws_toByteS (gl a 1)) fun r5 =>
  Option.bind (laws_toByteS (gl a 2)) fun r6 =>
  some (V.agg [(V.int .i64 (gi a 0)), (V.inl t_byte r5), (V.inl t_byte r6), (V.int .i64 (gi a 3))])
def laws_toCmd (a : V) : Option (V) :=
  Option.bind (laws_toOp (V.agg [(V.int .i64 (gi a 2)), (V.inl t_byte (gl a 3)), (V.inl t_byte (gl a 4)), (V.int .i64 (gi a 5))])) fun r7 =>
  some (V.agg [(V.int .i64 (gi a 0)), (V.int .i64 (gi a 1)), (V.int .i64 (gi r7 0)), (V.inl t_byte (gl r7 1)), (V.inl t_byte (gl r7 2)), (V.int .i64 (gi r7 3))])
def laws_toItem (a : V) : Option (V) :=
  Option.bind (laws_toCmd (V.agg [(V.int .i64 (gi a 1)), (V.int .i64 (gi a 2)), (V.int .i64 (gi a 3)), (V.inl t_byte (gl a 4)), (V.inl t_byte (gl a 5)), (V.int .i64 (gi a 6))])) fun r8 =>
  some (V.agg [(V.int .i64 (gi a 0)), (V.int .i64 (gi r8 0)), (V.int .i64 (gi r8 1)), (V.int .i64 (gi r8 2)), (V.inl t_byte (gl r8 3)), (V.inl t_byte (gl r8 4)), (V.int .i64 (gi r8 5))])
def laws_toItemS_l3 : Nat → List V → Int → List V → Option (List V)
  | 0, _, _, _ => none
  | k_ + 1, a0, i4, r0 =>
    bif (decide (i4 < ((a0.length : Nat) : Int))) then
      bif (idxOk i4 a0.length) then
        Option.bind (laws_toItem (n_impl_Item (rd a0 i4.toNat))) fun r9 =>
        bif (idxOk i4 r0.length) then
          laws_toItemS_l3 k_ a0 (IntKind.i64.wrap (i4 + 1)) (r0.set (0 + i4.toNat) (n_impl_Item r9))
        else none
      else none
    else some r0
def laws_toItemS (a : List V) : Option (List V) :=
  bif (((decide ((0 : Int) ≤ ((a.length : Nat) : Int))) && decide (((a.length : Nat) : Int) = ((a.length : Nat) : Int))) && (roomy (((a.length : Nat) : Int).toNat) 88)) then
    Option.bind (laws_toItemS_l3 ((((a.length : Nat) : Int) - 0).toNat + 1) a 0 (List.replicate (((a.length : Nat) : Int).toNat) (V.agg [(V.int .i64 0), (V.int .i64 0), (V.int .i64 0), (V.int .i64 0), (V.inl t_byte []), (V.inl t_byte []), (V.int .i64 0)]))) fun r10 =>
    some r10
  else none
def laws_toBoolS_l3 : Nat → List V → Int → List V → Option (List V)
  | 0, _, _, _ => none
  | k_ + 1, a0, i4, r0 =>
    bif (decide (i4 < ((a0.length : Nat) : Int))) then
      bif (idxOk i4 a0.length) then
        bif (idxOk i4 r0.length) then
          laws_toBoolS_l3 k_ a0 (IntKind.i64.wrap (i4 + 1)) (r0.set (0 + i4.toNat) (V.bool (gb (rd a0 i4.toNat) 0)))
        else none
      else none
    else some r0
def laws_toBoolS (a : List V) : Option (List V) :=
  bif (((decide ((0 : Int) ≤ ((a.length : Nat) : Int))) && decide (((a.length : Nat) : Int) = ((a.length : Nat) : Int))) && (roomy (((a.length : Nat) : Int).toNat) 1)) then
    Option.bind (laws_toBoolS_l3 ((((a.length : Nat) : Int) - 0).toNat + 1) a 0 (List.replicate (((a.length : Nat) : Int).toNat) (V.bool false))) fun r12 =>
    some r12
  else none
def laws_toIntS_l3 : Nat → List V → Int → List V → Option (List V)
  | 0, _, _, _ => none
  | k_ + 1, a0, i4, r0 =>
    bif (decide (i4 < ((a0.length : Nat) : Int))) then
      bif (idxOk i4 a0.length) then
        bif (idxOk i4 r0.length) then
          laws_toIntS_l3 k_ a0 (IntKind.i64.wrap (i4 + 1)) (r0.set (0 + i4.toNat) (V.int .i64 (gi (rd a0 i4.toNat) 0)))
        else none
      else none
    else some r0
def laws_toIntS (a : List V) : Option (List V) :=
  bif (((decide ((0 : Int) ≤ ((a.length : Nat) : Int))) && decide (((a.length : Nat) : Int) = ((a.length : Nat) : Int))) && (roomy (((a.length : Nat) : Int).toNat) 8)) then
    Option.bind (laws_toIntS_l3 ((((a.length : Nat) : Int) - 0).toNat + 1) a 0 (List.replicate (((a.length : Nat) : Int).toNat) (V.int .i64 0))) fun r14 =>
    some r14
  else none
def laws_toNode (a : V) : Option (V) :=
  Option.bind (laws_toItemS (gl a 3)) fun r11 =>
  Option.bind (laws_toBoolS (gl a 8)) fun r13 =>
  Option.bind (laws_toIntS (gl a 9)) fun r15 =>
  Option.bind (laws_toIntS (gl a 10)) fun r16 =>
  some (V.agg [(V.int .i64 (gi a 0)), (V.int .i64 (gi a 1)), (V.int .i64 (gi a 2)), (V.inl t_impl_Item r11), (V.int .i64 (gi a 4)), (V.int .i64 (gi a 5)), (V.int .i64 (gi a 6)), (V.int .i64 (gi a 7)), (V.inl t_bool r13), (V.inl t_int' r15), (V.inl t_int' r16)])
def spec_l4servers (n : Int) : Bool :=
  bif (decide ((1 : Int) ≤ n)) then
    (decide (n ≤ 5))
  else false
def spec_l3term (n : Int) : Bool :=
  bif (decide ((0 : Int) ≤ n)) then
    (decide (n ≤ 100000))
  else false
def spec_l4who (n : Int) (servers : Int) : Bool :=
  bif (decide ((-1 : Int) ≤ n)) then
    (decide (n < servers))
  else false
def spec_l2val (b : List V) : Bool :=
  (decide (((b.length : Nat) : Int) ≤ 20))
def spec_l2index (n : Int) : Bool :=
  bif (decide ((0 : Int) ≤ n)) then
    (decide (n ≤ 1000000))
  else false
def spec_l2key_l4 : Nat → List V → Int → Option (Nat × Bool)
  | 0, _, _ => none
  | k_ + 1, b0, i3 =>
    bif (decide (i3 < ((b0.length : Nat) : Int))) then
      bif (idxOk i3 b0.length) then
        bif (decide ((gi (rd b0 i3.toNat) 0) < 97)) then
          bif (idxOk i3 b0.length) then
            bif (!(decide ((gi (rd b0 i3.toNat) 0) = 47))) then
              some (0, false)
            else spec_l2key_l4 k_ b0 (IntKind.i64.wrap (i3 + 1))
          else none
        else bif (idxOk i3 b0.length) then
          bif (decide ((122 : Int) < (gi (rd b0 i3.toNat) 0))) then
            bif (idxOk i3 b0.length) then
              bif (!(decide ((gi (rd b0 i3.toNat) 0) = 47))) then
                some (0, false)
              else spec_l2key_l4 k_ b0 (IntKind.i64.wrap (i3 + 1))
            else none
          else spec_l2key_l4 k_ b0 (IntKind.i64.wrap (i3 + 1))
        else none
      else none
    else some (1, false)
def spec_l2key (b : List V) : Option (Bool) :=
  bif (decide (((b.length : Nat) : Int) < 1)) then
    some false
  else bif (decide ((20 : Int) < ((b.length : Nat) : Int))) then
    some false
  else Option.bind (spec_l2key_l4 ((((b.length : Nat) : Int) - 0).toNat + 1) b 0) fun r18 =>
  bif (Nat.beq r18.1 0) then
    some r18.2
  else some true
def spec_OpOk (o : V) : Option (Bool) :=
  bif (decide ((gi o 0) < 0)) then
    some false
  else bif (decide ((7 : Int) < (gi o 0))) then
    some false
  else bif (!(spec_l2val (gl o 2))) then
    some false
  else bif (!(spec_l2index (gi o 3))) then
    some false
  else bif (decide ((gi o 0) = 1)) then
    Option.bind (spec_l2key (gl o 1)) fun r19 =>
    bif (!r19) then
      some false
    else bif (decide ((gi o 0) = 1)) then
      bif (decide ((gi o 0) = 0)) then
        some (decide ((gi o 3) = 0))
      else bif (decide ((gi o 0) = 1)) then
        some (decide ((gi o 3) = 0))
      else bif (decide ((gi o 0) = 3)) then
        some (decide ((gi o 3) = 0))
      else bif (decide ((gi o 0) = 4)) then
        some (decide ((gi o 3) ≤ 1))
      else bif (decide ((gi o 0) = 2)) then
        some true
      else some (decide ((1 : Int) ≤ (gi o 3)))
    else bif (decide ((gi o 0) = 2)) then
      bif (decide ((gi o 0) = 0)) then
        some (decide ((gi o 3) = 0))
      else bif (decide ((gi o 0) = 1)) then
        some (decide ((gi o 3) = 0))
      else bif (decide ((gi o 0) = 3)) then
        some (decide ((gi o 3) = 0))
      else bif (decide ((gi o 0) = 4)) then
        some (decide ((gi o 3) ≤ 1))
      else bif (decide ((gi o 0) = 2)) then
        some true
      else some (decide ((1 : Int) ≤ (gi o 3)))
    else bif (!(decide ((gi o 0) = 6))) then
      bif (decide ((0 : Int) < (((gl o 2).length : Nat) : Int))) then
        some false
      else bif (decide ((gi o 0) = 0)) then
        some (decide ((gi o 3) = 0))
      else bif (decide ((gi o 0) = 1)) then
        some (decide ((gi o 3) = 0))
      else bif (decide ((gi o 0) = 3)) then
        some (decide ((gi o 3) = 0))
      else bif (decide ((gi o 0) = 4)) then
        some (decide ((gi o 3) ≤ 1))
      else bif (decide ((gi o 0) = 2)) then
        some true
      else some (decide ((1 : Int) ≤ (gi o 3)))
    else bif (decide ((gi o 0) = 0)) then
      some (decide ((gi o 3) = 0))
    else bif (decide ((gi o 0) = 1)) then
      some (decide ((gi o 3) = 0))
    else bif (decide ((gi o 0) = 3)) then
      some (decide ((gi o 3) = 0))
    else bif (decide ((gi o 0) = 4)) then
      some (decide ((gi o 3) ≤ 1))
    else bif (decide ((gi o 0) = 2)) then
      some true
    else some (decide ((1 : Int) ≤ (gi o 3)))
  else bif (decide ((gi o 0) = 2)) then
    Option.bind (spec_l2key (gl o 1)) fun r20 =>
    bif (!r20) then
      some false
    else bif (decide ((gi o 0) = 1)) then
      bif (decide ((gi o 0) = 0)) then
        some (decide ((gi o 3) = 0))
      else bif (decide ((gi o 0) = 1)) then
        some (decide ((gi o 3) = 0))
      else bif (decide ((gi o 0) = 3)) then
        some (decide ((gi o 3) = 0))
      else bif (decide ((gi o 0) = 4)) then
        some (decide ((gi o 3) ≤ 1))
      else bif (decide ((gi o 0) = 2)) then
        some true
      else some (decide ((1 : Int) ≤ (gi o 3)))
    else bif (decide ((gi o 0) = 2)) then
      bif (decide ((gi o 0) = 0)) then
        some (decide ((gi o 3) = 0))
      else bif (decide ((gi o 0) = 1)) then
        some (decide ((gi o 3) = 0))
      else bif (decide ((gi o 0) = 3)) then
        some (decide ((gi o 3) = 0))
      else bif (decide ((gi o 0) = 4)) then
        some (decide ((gi o 3) ≤ 1))
      else bif (decide ((gi o 0) = 2)) then
        some true
      else some (decide ((1 : Int) ≤ (gi o 3)))
    else bif (!(decide ((gi o 0) = 6))) then
      bif (decide ((0 : Int) < (((gl o 2).length : Nat) : Int))) then
        some false
      else bif (decide ((gi o 0) = 0)) then
        some (decide ((gi o 3) = 0))
      else bif (decide ((gi o 0) = 1)) then
        some (decide ((gi o 3) = 0))
      else bif (decide ((gi o 0) = 3)) then
        some (decide ((gi o 3) = 0))
      else bif (decide ((gi o 0) = 4)) then
        some (decide ((gi o 3) ≤ 1))
      else bif (decide ((gi o 0) = 2)) then
        some true
      else some (decide ((1 : Int) ≤ (gi o 3)))
    else bif (decide ((gi o 0) = 0)) then
      some (decide ((gi o 3) = 0))
    else bif (decide ((gi o 0) = 1)) then
      some (decide ((gi o 3) = 0))
    else bif (decide ((gi o 0) = 3)) then
      some (decide ((gi o 3) = 0))
    else bif (decide ((gi o 0) = 4)) then
      some (decide ((gi o 3) ≤ 1))
    else bif (decide ((gi o 0) = 2)) then
      some true
    else some (decide ((1 : Int) ≤ (gi o 3)))
  else bif (decide ((gi o 0) = 3)) then
    Option.bind (spec_l2key (gl o 1)) fun r21 =>
    bif (!r21) then
      some false
    else bif (decide ((gi o 0) = 1)) then
      bif (decide ((gi o 0) = 0)) then
        some (decide ((gi o 3) = 0))
      else bif (decide ((gi o 0) = 1)) then
        some (decide ((gi o 3) = 0))
      else bif (decide ((gi o 0) = 3)) then
        some (decide ((gi o 3) = 0))
      else bif (decide ((gi o 0) = 4)) then
        some (decide ((gi o 3) ≤ 1))
      else bif (decide ((gi o 0) = 2)) then
        some true
      else some (decide ((1 : Int) ≤ (gi o 3)))
    else bif (decide ((gi o 0) = 2)) then
      bif (decide ((gi o 0) = 0)) then
        some (decide ((gi o 3) = 0))
      else bif (decide ((gi o 0) = 1)) then
        some (decide ((gi o 3) = 0))
      else bif (decide ((gi o 0) = 3)) then
        some (decide ((gi o 3) = 0))
      else bif (decide ((gi o 0) = 4)) then
        some (decide ((gi o 3) ≤ 1))
      else bif (decide ((gi o 0) = 2)) then
        some true
      else some (decide ((1 : Int) ≤ (gi o 3)))
    else bif (!(decide ((gi o 0) = 6))) then
      bif (decide ((0 : Int) < (((gl o 2).length : Nat) : Int))) then
        some false
      else bif (decide ((gi o 0) = 0)) then
        some (decide ((gi o 3) = 0))
      else bif (decide ((gi o 0) = 1)) then
        some (decide ((gi o 3) = 0))
      else bif (decide ((gi o 0) = 3)) then
        some (decide ((gi o 3) = 0))
      else bif (decide ((gi o 0) = 4)) then
        some (decide ((gi o 3) ≤ 1))
      else bif (decide ((gi o 0) = 2)) then
        some true
      else some (decide ((1 : Int) ≤ (gi o 3)))
    else bif (decide ((gi o 0) = 0)) then
      some (decide ((gi o 3) = 0))
    else bif (decide ((gi o 0) = 1)) then
      some (decide ((gi o 3) = 0))
    else bif (decide ((gi o 0) = 3)) then
      some (decide ((gi o 3) = 0))
    else bif (decide ((gi o 0) = 4)) then
      some (decide ((gi o 3) ≤ 1))
    else bif (decide ((gi o 0) = 2)) then
      some true
    else some (decide ((1 : Int) ≤ (gi o 3)))
  else bif (decide ((gi o 0) = 6)) then
    Option.bind (spec_l2key (gl o 1)) fun r22 =>
    bif (!r22) then
      some false
    else bif (decide ((gi o 0) = 1)) then
      bif (decide ((gi o 0) = 0)) then
        some (decide ((gi o 3) = 0))
      else bif (decide ((gi o 0) = 1)) then
        some (decide ((gi o 3) = 0))
      else bif (decide ((gi o 0) = 3)) then
        some (decide ((gi o 3) = 0))
      else bif (decide ((gi o 0) = 4)) then
        some (decide ((gi o 3) ≤ 1))
      else bif (decide ((gi o 0) = 2)) then
        some true
      else some (decide ((1 : Int) ≤ (gi o 3)))
    else bif (decide ((gi o 0) = 2)) then
      bif (decide ((gi o 0) = 0)) then
        some (decide ((gi o 3) = 0))
      else bif (decide ((gi o 0) = 1)) then
        some (decide ((gi o 3) = 0))
      else bif (decide ((gi o 0) = 3)) then
        some (decide ((gi o 3) = 0))
      else bif (decide ((gi o 0) = 4)) then
        some (decide ((gi o 3) ≤ 1))
      else bif (decide ((gi o 0) = 2)) then
        some true
      else some (decide ((1 : Int) ≤ (gi o 3)))
    else bif (!(decide ((gi o 0) = 6))) then
      bif (decide ((0 : Int) < (((gl o 2).length : Nat) : Int))) then
        some false
      else bif (decide ((gi o 0) = 0)) then
        some (decide ((gi o 3) = 0))
      else bif (decide ((gi o 0) = 1)) then
        some (decide ((gi o 3) = 0))
      else bif (decide ((gi o 0) = 3)) then
        some (decide ((gi o 3) = 0))
      else bif (decide ((gi o 0) = 4)) then
        some (decide ((gi o 3) ≤ 1))
      else bif (decide ((gi o 0) = 2)) then
        some true
      else some (decide ((1 : Int) ≤ (gi o 3)))
    else bif (decide ((gi o 0) = 0)) then
      some (decide ((gi o 3) = 0))
    else bif (decide ((gi o 0) = 1)) then
      some (decide ((gi o 3) = 0))
    else bif (decide ((gi o 0) = 3)) then
      some (decide ((gi o 3) = 0))
    else bif (decide ((gi o 0) = 4)) then
      some (decide ((gi o 3) ≤ 1))
    else bif (decide ((gi o 0) = 2)) then
      some true
    else some (decide ((1 : Int) ≤ (gi o 3)))
  else bif (decide ((gi o 0) = 7)) then
    Option.bind (spec_l2key (gl o 1)) fun r23 =>
    bif (!r23) then
      some false
    else bif (!(decide ((gi o 0) = 7))) then
      bif (decide ((0 : Int) < (((gl o 1).length : Nat) : Int))) then
        some false
      else bif (decide ((gi o 0) = 1)) then
        bif (decide ((gi o 0) = 0)) then
          some (decide ((gi o 3) = 0))
        else bif (decide ((gi o 0) = 1)) then
          some (decide ((gi o 3) = 0))
        else bif (decide ((gi o 0) = 3)) then
          some (decide ((gi o 3) = 0))
        else bif (decide ((gi o 0) = 4)) then
          some (decide ((gi o 3) ≤ 1))
        else bif (decide ((gi o 0) = 2)) then
          some true
        else some (decide ((1 : Int) ≤ (gi o 3)))
      else bif (decide ((gi o 0) = 2)) then
        bif (decide ((gi o 0) = 0)) then
          some (decide ((gi o 3) = 0))
        else bif (decide ((gi o 0) = 1)) then
          some (decide ((gi o 3) = 0))
        else bif (decide ((gi o 0) = 3)) then
          some (decide ((gi o 3) = 0))
        else bif (decide ((gi o 0) = 4)) then
          some (decide ((gi o 3) ≤ 1))
        else bif (decide ((gi o 0) = 2)) then
          some true
        else some (decide ((1 : Int) ≤ (gi o 3)))
      else bif (!(decide ((gi o 0) = 6))) then
        bif (decide ((0 : Int) < (((gl o 2).length : Nat) : Int))) then
          some false
        else bif (decide ((gi o 0) = 0)) then
          some (decide ((gi o 3) = 0))
        else bif (decide ((gi o 0) = 1)) then
          some (decide ((gi o 3) = 0))
        else bif (decide ((gi o 0) = 3)) then
          some (decide ((gi o 3) = 0))
        else bif (decide ((gi o 0) = 4)) then
          some (decide ((gi o 3) ≤ 1))
        else bif (decide ((gi o 0) = 2)) then
          some true
        else some (decide ((1 : Int) ≤ (gi o 3)))
      else bif (decide ((gi o 0) = 0)) then
        some (decide ((gi o 3) = 0))
      else bif (decide ((gi o 0) = 1)) then
        some (decide ((gi o 3) = 0))
      else bif (decide ((gi o 0) = 3)) then
        some (decide ((gi o 3) = 0))
      else bif (decide ((gi o 0) = 4)) then
        some (decide ((gi o 3) ≤ 1))
      else bif (decide ((gi o 0) = 2)) then
        some true
      else some (decide ((1 : Int) ≤ (gi o 3)))
    else bif (decide ((gi o 0) = 1)) then
      bif (decide ((gi o 0) = 0)) then
        some (decide ((gi o 3) = 0))
      else bif (decide ((gi o 0) = 1)) then
        some (decide ((gi o 3) = 0))
      else bif (decide ((gi o 0) = 3)) then
        some (decide ((gi o 3) = 0))
      else bif (decide ((gi o 0) = 4)) then
        some (decide ((gi o 3) ≤ 1))
      else bif (decide ((gi o 0) = 2)) then
        some true
      else some (decide ((1 : Int) ≤ (gi o 3)))
    else bif (decide ((gi o 0) = 2)) then
      bif (decide ((gi o 0) = 0)) then
        some (decide ((gi o 3) = 0))
      else bif (decide ((gi o 0) = 1)) then
        some (decide ((gi o 3) = 0))
      else bif (decide ((gi o 0) = 3)) then
        some (decide ((gi o 3) = 0))
      else bif (decide ((gi o 0) = 4)) then
        some (decide ((gi o 3) ≤ 1))
      else bif (decide ((gi o 0) = 2)) then
        some true
      else some (decide ((1 : Int) ≤ (gi o 3)))
    else bif (!(decide ((gi o 0) = 6))) then
      bif (decide ((0 : Int) < (((gl o 2).length : Nat) : Int))) then
        some false
      else bif (decide ((gi o 0) = 0)) then
        some (decide ((gi o 3) = 0))
      else bif (decide ((gi o 0) = 1)) then
        some (decide ((gi o 3) = 0))
      else bif (decide ((gi o 0) = 3)) then
        some (decide ((gi o 3) = 0))
      else bif (decide ((gi o 0) = 4)) then
        some (decide ((gi o 3) ≤ 1))
      else bif (decide ((gi o 0) = 2)) then
        some true
      else some (decide ((1 : Int) ≤ (gi o 3)))
    else bif (decide ((gi o 0) = 0)) then
      some (decide ((gi o 3) = 0))
    else bif (decide ((gi o 0) = 1)) then
      some (decide ((gi o 3) = 0))
    else bif (decide ((gi o 0) = 3)) then
      some (decide ((gi o 3) = 0))
    else bif (decide ((gi o 0) = 4)) then
      some (decide ((gi o 3) ≤ 1))
    else bif (decide ((gi o 0) = 2)) then
      some true
    else some (decide ((1 : Int) ≤ (gi o 3)))
  else bif (!(decide ((gi o 0) = 7))) then
    bif (decide ((0 : Int) < (((gl o 1).length : Nat) : Int))) then
      some false
    else bif (decide ((gi o 0) = 1)) then
      bif (decide ((gi o 0) = 0)) then
        some (decide ((gi o 3) = 0))
      else bif (decide ((gi o 0) = 1)) then
        some (decide ((gi o 3) = 0))
      else bif (decide ((gi o 0) = 3)) then
        some (decide ((gi o 3) = 0))
      else bif (decide ((gi o 0) = 4)) then
        some (decide ((gi o 3) ≤ 1))
      else bif (decide ((gi o 0) = 2)) then
        some true
      else some (decide ((1 : Int) ≤ (gi o 3)))
    else bif (decide ((gi o 0) = 2)) then
      bif (decide ((gi o 0) = 0)) then
        some (decide ((gi o 3) = 0))
      else bif (decide ((gi o 0) = 1)) then
        some (decide ((gi o 3) = 0))
      else bif (decide ((gi o 0) = 3)) then
        some (decide ((gi o 3) = 0))
      else bif (decide ((gi o 0) = 4)) then
        some (decide ((gi o 3) ≤ 1))
      else bif (decide ((gi o 0) = 2)) then
        some true
      else some (decide ((1 : Int) ≤ (gi o 3)))
    else bif (!(decide ((gi o 0) = 6))) then
      bif (decide ((0 : Int) < (((gl o 2).length : Nat) : Int))) then
        some false
      else bif (decide ((gi o 0) = 0)) then
        some (decide ((gi o 3) = 0))
      else bif (decide ((gi o 0) = 1)) then
        some (decide ((gi o 3) = 0))
      else bif (decide ((gi o 0) = 3)) then
        some (decide ((gi o 3) = 0))
      else bif (decide ((gi o 0) = 4)) then
        some (decide ((gi o 3) ≤ 1))
      else bif (decide ((gi o 0) = 2)) then
        some true
      else some (decide ((1 : Int) ≤ (gi o 3)))
    else bif (decide ((gi o 0) = 0)) then
      some (decide ((gi o 3) = 0))
    else bif (decide ((gi o 0) = 1)) then
      some (decide ((gi o 3) = 0))
    else bif (decide ((gi o 0) = 3)) then
      some (decide ((gi o 3) = 0))
    else bif (decide ((gi o 0) = 4)) then
      some (decide ((gi o 3) ≤ 1))
    else bif (decide ((gi o 0) = 2)) then
      some true
    else some (decide ((1 : Int) ≤ (gi o 3)))
  else bif (decide ((gi o 0) = 1)) then
    bif (decide ((gi o 0) = 0)) then
      some (decide ((gi o 3) = 0))
    else bif (decide ((gi o 0) = 1)) then
      some (decide ((gi o 3) = 0))
    else bif (decide ((gi o 0) = 3)) then
      some (decide ((gi o 3) = 0))
    else bif (decide ((gi o 0) = 4)) then
      some (decide ((gi o 3) ≤ 1))
    else bif (decide ((gi o 0) = 2)) then
      some true
    else some (decide ((1 : Int) ≤ (gi o 3)))
  else bif (decide ((gi o 0) = 2)) then
    bif (decide ((gi o 0) = 0)) then
      some (decide ((gi o 3) = 0))
    else bif (decide ((gi o 0) = 1)) then
      some (decide ((gi o 3) = 0))
    else bif (decide ((gi o 0) = 3)) then
      some (decide ((gi o 3) = 0))
    else bif (decide ((gi o 0) = 4)) then
      some (decide ((gi o 3) ≤ 1))
    else bif (decide ((gi o 0) = 2)) then
      some true
    else some (decide ((1 : Int) ≤ (gi o 3)))
  else bif (!(decide ((gi o 0) = 6))) then
    bif (decide ((0 : Int) < (((gl o 2).length : Nat) : Int))) then
      some false
    else bif (decide ((gi o 0) = 0)) then
      some (decide ((gi o 3) = 0))
    else bif (decide ((gi o 0) = 1)) then
      some (decide ((gi o 3) = 0))
    else bif (decide ((gi o 0) = 3)) then
      some (decide ((gi o 3) = 0))
    else bif (decide ((gi o 0) = 4)) then
      some (decide ((gi o 3) ≤ 1))
    else bif (decide ((gi o 0) = 2)) then
      some true
    else some (decide ((1 : Int) ≤ (gi o 3)))
  else bif (decide ((gi o 0) = 0)) then
    some (decide ((gi o 3) = 0))
  else bif (decide ((gi o 0) = 1)) then
    some (decide ((gi o 3) = 0))
  else bif (decide ((gi o 0) = 3)) then
    some (decide ((gi o 3) = 0))
  else bif (decide ((gi o 0) = 4)) then
    some (decide ((gi o 3) ≤ 1))
  else bif (decide ((gi o 0) = 2)) then
    some true
  else some (decide ((1 : Int) ≤ (gi o 3)))
def spec_CmdOk (c : V) : Option (Bool) :=
  bif (decide ((gi c 0) = (-1))) then
    bif (decide ((gi c 1) = 0)) then
      bif (decide ((gi c 2) = 0)) then
        Option.bind (spec_OpOk (V.agg [(V.int .i64 (gi c 2)), (V.inl t_byte (gl c 3)), (V.inl t_byte (gl c 4)), (V.int .i64 (gi c 5))])) fun r24 =>
        some r24
      else some false
    else some false
  else bif (decide ((0 : Int) ≤ (gi c 0))) then
    bif (decide ((gi c 0) < 4)) then
      bif (decide ((1 : Int) ≤ (gi c 1))) then
        bif (decide ((gi c 1) ≤ 1000000)) then
          Option.bind (spec_OpOk (V.agg [(V.int .i64 (gi c 2)), (V.inl t_byte (gl c 3)), (V.inl t_byte (gl c 4)), (V.int .i64 (gi c 5))])) fun r25 =>
          some r25
        else some false
      else some false
    else some false
  else some false
def spec_ItemOk (x : V) : Option (Bool) :=
  bif (decide ((1 : Int) ≤ (gi x 0))) then
    bif (decide ((gi x 0) ≤ 100000)) then
      Option.bind (spec_CmdOk (V.agg [(V.int .i64 (gi x 1)), (V.int .i64 (gi x 2)), (V.int .i64 (gi x 3)), (V.inl t_byte (gl x 4)), (V.inl t_byte (gl x 5)), (V.int .i64 (gi x 6))])) fun r26 =>
      some r26
    else some false
  else some false
def spec_NodeOk_l4 : Nat → Int → Int → V → Option (Nat × Int × Bool × V)
  | 0, _, _, _ => none
  | k_ + 1, servers1, i5, b0 =>
    bif (decide (i5 < (((gl b0 3).length : Nat) : Int))) then
      bif (idxOk i5 ((gl b0 3).length)) then
        Option.bind (spec_ItemOk (n_impl_Item (rd (gl b0 3) i5.toNat))) fun r27 =>
        bif (!r27) then
          some (0, servers1, false, (n_impl_Node b0))
        else bif (idxOk i5 ((gl b0 3).length)) then
          bif (decide ((gi b0 1) < (gi (rd (gl b0 3) i5.toNat) 0))) then
            some (0, servers1, false, (n_impl_Node b0))
          else bif (decide ((0 : Int) < i5)) then
            bif (idxOk (IntKind.i64.wrap (i5 - 1)) ((gl b0 3).length)) then
              bif (idxOk i5 ((gl b0 3).length)) then
                bif (decide ((gi (rd (gl b0 3) i5.toNat) 0) < (gi (rd (gl b0 3) ((IntKind.i64.wrap (i5 - 1)).toNat)) 0))) then
                  some (0, servers1, false, (n_impl_Node b0))
                else spec_NodeOk_l4 k_ servers1 (IntKind.i64.wrap (i5 + 1)) (n_impl_Node b0)
              else none
            else none
          else spec_NodeOk_l4 k_ servers1 (IntKind.i64.wrap (i5 + 1)) (n_impl_Node b0)
        else none
      else none
    else some (1, servers1, false, (n_impl_Node b0))
def spec_NodeOk_l11 : Nat → Int → Int → V → Option (Nat × Bool × V)
  | 0, _, _, _ => none
  | k_ + 1, servers1, i6, b0 =>
    bif (decide (i6 < servers1)) then
      bif (decide ((gi b0 5) = 2)) then
        bif (idxOk i6 ((gl b0 9).length)) then
          bif (decide ((gi (rd (gl b0 9) i6.toNat) 0) < 1)) then
            some (0, false, (n_impl_Node b0))
          else bif (idxOk i6 ((gl b0 9).length)) then
            bif (decide ((IntKind.i64.wrap ((((gl b0 3).length : Nat) : Int) + 1)) < (gi (rd (gl b0 9) i6.toNat) 0))) then
              some (0, false, (n_impl_Node b0))
            else bif (idxOk i6 ((gl b0 10).length)) then
              bif (decide ((gi (rd (gl b0 10) i6.toNat) 0) < 0)) then
                some (0, false, (n_impl_Node b0))
              else bif (idxOk i6 ((gl b0 10).length)) then
                bif (decide ((((gl b0 3).length : Nat) : Int) < (gi (rd (gl b0 10) i6.toNat) 0))) then
                  some (0, false, (n_impl_Node b0))
                else bif (!(decide ((gi b0 5) = 2))) then
                  bif (idxOk i6 ((gl b0 9).length)) then
                    bif (!(decide ((gi (rd (gl b0 9) i6.toNat) 0) = 0))) then
                      some (0, false, (n_impl_Node b0))
                    else bif (idxOk i6 ((gl b0 10).length)) then
                      bif (!(decide ((gi (rd (gl b0 10) i6.toNat) 0) = 0))) then
                        some (0, false, (n_impl_Node b0))
                      else bif (decide ((gi b0 5) = 0)) then
                        bif (idxOk i6 ((gl b0 8).length)) then
                          bif (gb (rd (gl b0 8) i6.toNat) 0) then
                            some (0, false, (n_impl_Node b0))
                          else spec_NodeOk_l11 k_ servers1 (IntKind.i64.wrap (i6 + 1)) (n_impl_Node b0)
                        else none
                      else spec_NodeOk_l11 k_ servers1 (IntKind.i64.wrap (i6 + 1)) (n_impl_Node b0)
                    else none
                  else none
                else bif (decide ((gi b0 5) = 0)) then
                  bif (idxOk i6 ((gl b0 8).length)) then
                    bif (gb (rd (gl b0 8) i6.toNat) 0) then
                      some (0, false, (n_impl_Node b0))
                    else spec_NodeOk_l11 k_ servers1 (IntKind.i64.wrap (i6 + 1)) (n_impl_Node b0)
                  else none
                else spec_NodeOk_l11 k_ servers1 (IntKind.i64.wrap (i6 + 1)) (n_impl_Node b0)
              else none
            else none
          else none
        else none
      else bif (!(decide ((gi b0 5) = 2))) then
        bif (idxOk i6 ((gl b0 9).length)) then
          bif (!(decide ((gi (rd (gl b0 9) i6.toNat) 0) = 0))) then
            some (0, false, (n_impl_Node b0))
          else bif (idxOk i6 ((gl b0 10).length)) then
            bif (!(decide ((gi (rd (gl b0 10) i6.toNat) 0) = 0))) then
              some (0, false, (n_impl_Node b0))
            else bif (decide ((gi b0 5) = 0)) then
              bif (idxOk i6 ((gl b0 8).length)) then
                bif (gb (rd (gl b0 8) i6.toNat) 0) then
                  some (0, false, (n_impl_Node b0))
                else spec_NodeOk_l11 k_ servers1 (IntKind.i64.wrap (i6 + 1)) (n_impl_Node b0)
              else none
            else spec_NodeOk_l11 k_ servers1 (IntKind.i64.wrap (i6 + 1)) (n_impl_Node b0)
          else none
        else none
      else bif (decide ((gi b0 5) = 0)) then
        bif (idxOk i6 ((gl b0 8).length)) then
          bif (gb (rd (gl b0 8) i6.toNat) 0) then
            some (0, false, (n_impl_Node b0))
          else spec_NodeOk_l11 k_ servers1 (IntKind.i64.wrap (i6 + 1)) (n_impl_Node b0)
        else none
      else spec_NodeOk_l11 k_ servers1 (IntKind.i64.wrap (i6 + 1)) (n_impl_Node b0)
    else some (1, false, (n_impl_Node b0))
def spec_NodeOk (n : V) (servers : Int) : Option (Bool) :=
  bif (!(spec_l4servers servers)) then
    some false
  else bif (decide ((gi n 0) < 0)) then
    some false
  else bif (decide (servers ≤ (gi n 0))) then
    some false
  else bif (!(spec_l3term (gi n 1))) then
    some false
  else bif (!(spec_l4who (gi n 2) servers)) then
    some false
  else bif (decide ((400 : Int) < (((gl n 3).length : Nat) : Int))) then
    some false
  else bif (decide ((gi n 4) < 0)) then
    some false
  else bif (decide ((((gl n 3).length : Nat) : Int) < (gi n 4))) then
    some false
  else bif (decide ((gi n 5) < 0)) then
    some false
  else bif (decide ((2 : Int) < (gi n 5))) then
    some false
  else bif (!(spec_l4who (gi n 6) servers)) then
    some false
  else bif (decide ((gi n 7) < 0)) then
    some false
  else bif (decide ((20 : Int) < (gi n 7))) then
    some false
  else bif (!(decide ((((gl n 8).length : Nat) : Int) = servers))) then
    some false
  else bif (!(decide ((((gl n 9).length : Nat) : Int) = servers))) then
    some false
  else bif (!(decide ((((gl n 10).length : Nat) : Int) = servers))) then
    some false
  else Option.bind (spec_NodeOk_l4 (((((gl (n_impl_Node n) 3).length : Nat) : Int) - 0).toNat + 1) servers 0 (n_impl_Node n)) fun r28 =>
  bif (Nat.beq r28.1 0) then
    some r28.2.2.1
  else bif (!(decide ((gi r28.2.2.2 5) = 0))) then
    bif (decide ((gi r28.2.2.2 1) < 1)) then
      some false
    else bif (!(decide ((gi r28.2.2.2 2) = (gi r28.2.2.2 0)))) then
      some false
    else Option.bind (spec_NodeOk_l11 ((r28.2.1 - 0).toNat + 1) r28.2.1 0 (n_impl_Node r28.2.2.2)) fun r29 =>
    bif (Nat.beq r29.1 0) then
      some r29.2.1
    else bif (!(decide ((gi r29.2.2 5) = 2))) then
      some true
    else some (decide ((gi r29.2.2 6) = (gi r29.2.2 0)))
  else Option.bind (spec_NodeOk_l11 ((r28.2.1 - 0).toNat + 1) r28.2.1 0 (n_impl_Node r28.2.2.2)) fun r30 =>
  bif (Nat.beq r30.1 0) then
    some r30.2.1
  else bif (!(decide ((gi r30.2.2 5) = 2))) then
    some true
  else some (decide ((gi r30.2.2 6) = (gi r30.2.2 0)))
def spec_l3ownItem (x : V) : Option (V) :=
  bif ((roomy (0 + ((gl x 4).length)) 1) && true) then
    bif ((roomy (0 + ((gl x 5).length)) 1) && true) then
      some (n_impl_Item x)
    else none
  else none
def spec_l3ownItems_l3 : Nat → List V → Int → List V → Option (List V)
  | 0, _, _, _ => none
  | k_ + 1, l0, i4, r0 =>
    bif (decide (i4 < ((l0.length : Nat) : Int))) then
      bif (idxOk i4 l0.length) then
        Option.bind (spec_l3ownItem (n_impl_Item (rd l0 i4.toNat))) fun r32 =>
        bif ((roomy (r0.length + 1) 88) && true) then
          spec_l3ownItems_l3 k_ l0 (IntKind.i64.wrap (i4 + 1)) (r0 ++ [(n_impl_Item r32)])
        else none
      else none
    else some r0
def spec_l3ownItems (l : List V) : Option (List V) :=
  Option.bind (spec_l3ownItems_l3 ((((l.length : Nat) : Int) - 0).toNat + 1) l 0 []) fun r33 =>
  some r33
def spec_l4own (n : V) : Option (V) :=
  Option.bind (spec_l3ownItems (gl n 3)) fun r34 =>
  bif ((roomy (0 + ((gl n 8).length)) 1) && true) then
    bif ((roomy (0 + ((gl n 9).length)) 8) && true) then
      bif ((roomy (0 + ((gl n 10).length)) 8) && true) then
        some (V.agg [(V.int .i64 (gi n 0)), (V.int .i64 (gi n 1)), (V.int .i64 (gi n 2)), (V.inl t_impl_Item r34), (V.int .i64 (gi n 4)), (V.int .i64 (gi n 5)), (V.int .i64 (gi n 6)), (V.int .i64 (gi n 7)), (V.inl t_bool (gl n 8)), (V.inl t_int' (gl n 9)), (V.inl t_int' (gl n 10))])
      else none
    else none
  else none
def spec_l4termAt (n : V) (place : Int) : Option (Int) :=
  bif (decide (place < 1)) then
    some 0
  else bif (decide ((((gl n 3).length : Nat) : Int) < place)) then
    some 0
  else bif (idxOk (IntKind.i64.wrap (place - 1)) ((gl n 3).length)) then
    some (gi (rd (gl n 3) ((IntKind.i64.wrap (place - 1)).toNat)) 0)
  else none
def spec_l4add_v3_l4 : Nat → Int → V → V → V → List V → List V → List V → List V → List V → List V → Option (V × V × V × List V × List V × List V × List V × List V × List V)
  | 0, _, _, _, _, _, _, _, _, _, _ => none
  | k_ + 1, i7, b0, b1, b2, r3, r4, r5, r6, r7, r8 =>
    bif (decide (i7 < ((r3.length : Nat) : Int))) then
      bif (decide (((r8.length : Nat) : Int) < 4)) then
        bif (idxOk i7 r3.length) then
          bif ((roomy (r8.length + 1) 88) && true) then
            spec_l4add_v3_l4 k_ (IntKind.i64.wrap (i7 + 1)) (V.agg [(V.int .i64 (gi b0 0)), (V.int .i64 (gi b0 1)), (V.int .i64 (gi b0 2)), (V.sl 3 t_impl_Item 0 none), (V.int .i64 (gi b0 4)), (V.int .i64 (gi b0 5)), (V.int .i64 (gi b0 6)), (V.int .i64 (gi b0 7)), (V.sl 4 t_bool 0 none), (V.sl 5 t_int' 0 none), (V.sl 6 t_int' 0 none)]) (V.agg [(V.int .i64 (gi b1 0)), (V.int .i64 (gi b1 1)), (V.int .i64 (gi b1 2)), (V.int .i64 (gi b1 3)), (V.int .i64 (gi b1 4)), (V.int .i64 (gi b1 5)), (V.sl 7 t_impl_Item 0 none), (V.int .i64 (gi b1 7)), (V.bool (gb b1 8))]) (V.agg [(V.int .i64 (gi b2 0)), (V.int .i64 (gi b2 1)), (V.int .i64 (gi b2 2)), (V.int .i64 (gi b2 3)), (V.int .i64 (gi b2 4)), (V.int .i64 (gi b2 5)), (V.sl 8 t_impl_Item 0 none), (V.int .i64 (gi b2 7)), (V.bool (gb b2 8))]) r3 r4 r5 r6 r7 (r8 ++ [(n_impl_Item (rd r3 (0 + i7.toNat)))])
          else none
        else none
      else some ((V.agg [(V.int .i64 (gi b0 0)), (V.int .i64 (gi b0 1)), (V.int .i64 (gi b0 2)), (V.sl 3 t_impl_Item 0 none), (V.int .i64 (gi b0 4)), (V.int .i64 (gi b0 5)), (V.int .i64 (gi b0 6)), (V.int .i64 (gi b0 7)), (V.sl 4 t_bool 0 none), (V.sl 5 t_int' 0 none), (V.sl 6 t_int' 0 none)]), (V.agg [(V.int .i64 (gi b1 0)), (V.int .i64 (gi b1 1)), (V.int .i64 (gi b1 2)), (V.int .i64 (gi b1 3)), (V.int .i64 (gi b1 4)), (V.int .i64 (gi b1 5)), (V.sl 7 t_impl_Item 0 none), (V.int .i64 (gi b1 7)), (V.bool (gb b1 8))]), (V.agg [(V.int .i64 (gi b2 0)), (V.int .i64 (gi b2 1)), (V.int .i64 (gi b2 2)), (V.int .i64 (gi b2 3)), (V.int .i64 (gi b2 4)), (V.int .i64 (gi b2 5)), (V.sl 8 t_impl_Item 0 none), (V.int .i64 (gi b2 7)), (V.bool (gb b2 8))]), r3, r4, r5, r6, r7, r8)
    else some ((V.agg [(V.int .i64 (gi b0 0)), (V.int .i64 (gi b0 1)), (V.int .i64 (gi b0 2)), (V.sl 3 t_impl_Item 0 none), (V.int .i64 (gi b0 4)), (V.int .i64 (gi b0 5)), (V.int .i64 (gi b0 6)), (V.int .i64 (gi b0 7)), (V.sl 4 t_bool 0 none), (V.sl 5 t_int' 0 none), (V.sl 6 t_int' 0 none)]), (V.agg [(V.int .i64 (gi b1 0)), (V.int .i64 (gi b1 1)), (V.int .i64 (gi b1 2)), (V.int .i64 (gi b1 3)), (V.int .i64 (gi b1 4)), (V.int .i64 (gi b1 5)), (V.sl 7 t_impl_Item 0 none), (V.int .i64 (gi b1 7)), (V.bool (gb b1 8))]), (V.agg [(V.int .i64 (gi b2 0)), (V.int .i64 (gi b2 1)), (V.int .i64 (gi b2 2)), (V.int .i64 (gi b2 3)), (V.int .i64 (gi b2 4)), (V.int .i64 (gi b2 5)), (V.sl 8 t_impl_Item 0 none), (V.int .i64 (gi b2 7)), (V.bool (gb b2 8))]), r3, r4, r5, r6, r7, r8)
def spec_l4add_v3 (n : V) (to : Int) : Option (V × V) :=
  bif (idxOk to ((gl n 9).length)) then
    Option.bind (spec_l4termAt (n_impl_Node n) (IntKind.i64.wrap ((gi (rd (gl n 9) (0 + to.toNat)) 0) - 1))) fun r47 =>
    Option.bind (spec_l4add_v3_l4 (((((gl n 3).length : Nat) : Int) - (IntKind.i64.wrap ((gi (rd (gl n 9) (0 + to.toNat)) 0) - 1))).toNat + 1) (IntKind.i64.wrap ((gi (rd (gl n 9) (0 + to.toNat)) 0) - 1)) (V.agg [(V.int .i64 (gi n 0)), (V.int .i64 (gi n 1)), (V.int .i64 (gi n 2)), (V.sl 3 t_impl_Item 0 none), (V.int .i64 (gi n 4)), (V.int .i64 (gi n 5)), (V.int .i64 (gi n 6)), (V.int .i64 (gi n 7)), (V.sl 4 t_bool 0 none), (V.sl 5 t_int' 0 none), (V.sl 6 t_int' 0 none)]) (V.agg [(V.int .i64 0), (V.int .i64 0), (V.int .i64 0), (V.int .i64 0), (V.int .i64 0), (V.int .i64 0), (V.sl 7 t_impl_Item 0 none), (V.int .i64 0), (V.bool false)]) (V.agg [(V.int .i64 2), (V.int .i64 (gi n 0)), (V.int .i64 to), (V.int .i64 (gi n 1)), (V.int .i64 (IntKind.i64.wrap ((gi (rd (gl n 9) (0 + to.toNat)) 0) - 1))), (V.int .i64 r47), (V.sl 8 t_impl_Item 0 none), (V.int .i64 (gi n 4)), (V.bool false)]) (gl n 3) (gl n 8) (gl n 9) (gl n 10) [] []) fun r48 =>
    some ((V.agg [(V.int .i64 (gi r48.2.2.1 0)), (V.int .i64 (gi r48.2.2.1 1)), (V.int .i64 (gi r48.2.2.1 2)), (V.int .i64 (gi r48.2.2.1 3)), (V.int .i64 (gi r48.2.2.1 4)), (V.int .i64 (gi r48.2.2.1 5)), (V.inl t_impl_Item r48.2.2.2.2.2.2.2.2), (V.int .i64 (gi r48.2.2.1 7)), (V.bool (gb r48.2.2.1 8))]), (V.agg [(V.int .i64 (gi r48.1 0)), (V.int .i64 (gi r48.1 1)), (V.int .i64 (gi r48.1 2)), (V.inl t_impl_Item r48.2.2.2.1), (V.int .i64 (gi r48.1 4)), (V.int .i64 (gi r48.1 5)), (V.int .i64 (gi r48.1 6)), (V.int .i64 (gi r48.1 7)), (V.inl t_bool r48.2.2.2.2.1), (V.inl t_int' r48.2.2.2.2.2.1), (V.inl t_int' r48.2.2.2.2.2.2.1)]))
  else none
def spec_l4all_v2_l3 : Nat → Int → V → List V → List V → List V → List V → List V → Option (V × List V × List V × List V × List V × List V)
  | 0, _, _, _, _, _, _, _ => none
  | k_ + 1, i4, b0, r1, r2, r3, r4, r5 =>
    bif (decide (i4 < ((r3.length : Nat) : Int))) then
      bif (!(decide (i4 = (gi b0 0)))) then
        Option.bind (spec_l4add_v3 (V.agg [(V.int .i64 (gi b0 0)), (V.int .i64 (gi b0 1)), (V.int .i64 (gi b0 2)), (V.inl t_impl_Item r2), (V.int .i64 (gi b0 4)), (V.int .i64 (gi b0 5)), (V.int .i64 (gi b0 6)), (V.int .i64 (gi b0 7)), (V.inl t_bool r3), (V.inl t_int' r4), (V.inl t_int' r5)]) i4) fun r50 =>
        bif ((roomy (r1.length + 1) 88) && true) then
          spec_l4all_v2_l3 k_ (IntKind.i64.wrap (i4 + 1)) (V.agg [(V.int .i64 (gi r50.2 0)), (V.int .i64 (gi r50.2 1)), (V.int .i64 (gi r50.2 2)), (V.sl 2 t_impl_Item 0 none), (V.int .i64 (gi r50.2 4)), (V.int .i64 (gi r50.2 5)), (V.int .i64 (gi r50.2 6)), (V.int .i64 (gi r50.2 7)), (V.sl 3 t_bool 0 none), (V.sl 4 t_int' 0 none), (V.sl 5 t_int' 0 none)]) (r1 ++ [(n_impl_Msg r50.1)]) (gl r50.2 3) (gl r50.2 8) (gl r50.2 9) (gl r50.2 10)
        else none
      else spec_l4all_v2_l3 k_ (IntKind.i64.wrap (i4 + 1)) (V.agg [(V.int .i64 (gi b0 0)), (V.int .i64 (gi b0 1)), (V.int .i64 (gi b0 2)), (V.sl 2 t_impl_Item 0 none), (V.int .i64 (gi b0 4)), (V.int .i64 (gi b0 5)), (V.int .i64 (gi b0 6)), (V.int .i64 (gi b0 7)), (V.sl 3 t_bool 0 none), (V.sl 4 t_int' 0 none), (V.sl 5 t_int' 0 none)]) r1 r2 r3 r4 r5
    else some ((V.agg [(V.int .i64 (gi b0 0)), (V.int .i64 (gi b0 1)), (V.int .i64 (gi b0 2)), (V.sl 2 t_impl_Item 0 none), (V.int .i64 (gi b0 4)), (V.int .i64 (gi b0 5)), (V.int .i64 (gi b0 6)), (V.int .i64 (gi b0 7)), (V.sl 3 t_bool 0 none), (V.sl 4 t_int' 0 none), (V.sl 5 t_int' 0 none)]), r1, r2, r3, r4, r5)
def spec_l4all_v2 (n : V) : Option (List V × V) :=
  Option.bind (spec_l4all_v2_l3 (((((gl n 8).length : Nat) : Int) - 0).toNat + 1) 0 (V.agg [(V.int .i64 (gi n 0)), (V.int .i64 (gi n 1)), (V.int .i64 (gi n 2)), (V.sl 2 t_impl_Item 0 none), (V.int .i64 (gi n 4)), (V.int .i64 (gi n 5)), (V.int .i64 (gi n 6)), (V.int .i64 (gi n 7)), (V.sl 3 t_bool 0 none), (V.sl 4 t_int' 0 none), (V.sl 5 t_int' 0 none)]) [] (gl n 3) (gl n 8) (gl n 9) (gl n 10)) fun r51 =>
  some (r51.2.1, (V.agg [(V.int .i64 (gi r51.1 0)), (V.int .i64 (gi r51.1 1)), (V.int .i64 (gi r51.1 2)), (V.inl t_impl_Item r51.2.2.1), (V.int .i64 (gi r51.1 4)), (V.int .i64 (gi r51.1 5)), (V.int .i64 (gi r51.1 6)), (V.int .i64 (gi r51.1 7)), (V.inl t_bool r51.2.2.2.1), (V.inl t_int' r51.2.2.2.2.1), (V.inl t_int' r51.2.2.2.2.2)]))
def spec_l4follow_l6 : Nat → Int → V → List V → List V → List V → List V → Option (V × List V × List V × List V × List V)
  | 0, _, _, _, _, _, _ => none
  | k_ + 1, i4, b0, r1, r2, r3, r4 =>
    bif (decide (i4 < ((r2.length : Nat) : Int))) then
      bif (idxOk i4 r2.length) then
        bif (idxOk i4 r3.length) then
          bif (idxOk i4 r4.length) then
            spec_l4follow_l6 k_ (IntKind.i64.wrap (i4 + 1)) (V.agg [(V.int .i64 (gi b0 0)), (V.int .i64 (gi b0 1)), (V.int .i64 (gi b0 2)), (V.sl 1 t_impl_Item 0 none), (V.int .i64 (gi b0 4)), (V.int .i64 (gi b0 5)), (V.int .i64 (gi b0 6)), (V.int .i64 (gi b0 7)), (V.sl 2 t_bool 0 none), (V.sl 3 t_int' 0 none), (V.sl 4 t_int' 0 none)]) r1 (r2.set (0 + i4.toNat) (V.bool false)) (r3.set (0 + i4.toNat) (V.int .i64 0)) (r4.set (0 + i4.toNat) (V.int .i64 0))
          else none
        else none
      else none
    else some ((V.agg [(V.int .i64 (gi b0 0)), (V.int .i64 (gi b0 1)), (V.int .i64 (gi b0 2)), (V.sl 1 t_impl_Item 0 none), (V.int .i64 (gi b0 4)), (V.int .i64 (gi b0 5)), (V.int .i64 (gi b0 6)), (V.int .i64 (gi b0 7)), (V.sl 2 t_bool 0 none), (V.sl 3 t_int' 0 none), (V.sl 4 t_int' 0 none)]), r1, r2, r3, r4)
def spec_l4follow (n : V) (term_ : Int) : Option (V) :=
  bif (decide ((gi n 1) < term_)) then
    Option.bind (spec_l4follow_l6 (((((gl n 8).length : Nat) : Int) - 0).toNat + 1) 0 (V.agg [(V.int .i64 (gi n 0)), (V.int .i64 term_), (V.int .i64 (-1)), (V.sl 1 t_impl_Item 0 none), (V.int .i64 (gi n 4)), (V.int .i64 0), (V.int .i64 (-1)), (V.int .i64 (gi n 7)), (V.sl 2 t_bool 0 none), (V.sl 3 t_int' 0 none), (V.sl 4 t_int' 0 none)]) (gl n 3) (gl n 8) (gl n 9) (gl n 10)) fun r53 =>
    some (V.agg [(V.int .i64 (gi r53.1 0)), (V.int .i64 (gi r53.1 1)), (V.int .i64 (gi r53.1 2)), (V.inl t_impl_Item r53.2.1), (V.int .i64 (gi r53.1 4)), (V.int .i64 (gi r53.1 5)), (V.int .i64 (gi r53.1 6)), (V.int .i64 (gi r53.1 7)), (V.inl t_bool r53.2.2.1), (V.inl t_int' r53.2.2.2.1), (V.inl t_int' r53.2.2.2.2)])
  else Option.bind (spec_l4follow_l6 (((((gl n 8).length : Nat) : Int) - 0).toNat + 1) 0 (V.agg [(V.int .i64 (gi n 0)), (V.int .i64 (gi n 1)), (V.int .i64 (gi n 2)), (V.sl 1 t_impl_Item 0 none), (V.int .i64 (gi n 4)), (V.int .i64 0), (V.int .i64 (gi n 6)), (V.int .i64 (gi n 7)), (V.sl 2 t_bool 0 none), (V.sl 3 t_int' 0 none), (V.sl 4 t_int' 0 none)]) (gl n 3) (gl n 8) (gl n 9) (gl n 10)) fun r54 =>
  some (V.agg [(V.int .i64 (gi r54.1 0)), (V.int .i64 (gi r54.1 1)), (V.int .i64 (gi r54.1 2)), (V.inl t_impl_Item r54.2.1), (V.int .i64 (gi r54.1 4)), (V.int .i64 (gi r54.1 5)), (V.int .i64 (gi r54.1 6)), (V.int .i64 (gi r54.1 7)), (V.inl t_bool r54.2.2.1), (V.inl t_int' r54.2.2.2.1), (V.inl t_int' r54.2.2.2.2)])
def spec_l4most (k : Int) (servers : Int) : Bool :=
  (decide (servers < (IntKind.i64.wrap (2 * k))))
def spec_l4commit_v1_l7 : Nat → Int → Int → Int → V → List V → List V → List V → List V → Option (Int × Int × V × List V × List V × List V × List V)
  | 0, _, _, _, _, _, _, _, _ => none
  | k_ + 1, p2, k3, i4, b0, r1, r2, r3, r4 =>
    bif (decide (i4 < ((r4.length : Nat) : Int))) then
      bif (idxOk i4 r4.length) then
        bif (decide (p2 ≤ (gi (rd r4 (0 + i4.toNat)) 0))) then
          spec_l4commit_v1_l7 k_ p2 (IntKind.i64.wrap (k3 + 1)) (IntKind.i64.wrap (i4 + 1)) (V.agg [(V.int .i64 (gi b0 0)), (V.int .i64 (gi b0 1)), (V.int .i64 (gi b0 2)), (V.sl 1 t_impl_Item 0 none), (V.int .i64 (gi b0 4)), (V.int .i64 (gi b0 5)), (V.int .i64 (gi b0 6)), (V.int .i64 (gi b0 7)), (V.sl 2 t_bool 0 none), (V.sl 3 t_int' 0 none), (V.sl 4 t_int' 0 none)]) r1 r2 r3 r4
        else spec_l4commit_v1_l7 k_ p2 k3 (IntKind.i64.wrap (i4 + 1)) (V.agg [(V.int .i64 (gi b0 0)), (V.int .i64 (gi b0 1)), (V.int .i64 (gi b0 2)), (V.sl 1 t_impl_Item 0 none), (V.int .i64 (gi b0 4)), (V.int .i64 (gi b0 5)), (V.int .i64 (gi b0 6)), (V.int .i64 (gi b0 7)), (V.sl 2 t_bool 0 none), (V.sl 3 t_int' 0 none), (V.sl 4 t_int' 0 none)]) r1 r2 r3 r4
      else none
    else some (p2, k3, (V.agg [(V.int .i64 (gi b0 0)), (V.int .i64 (gi b0 1)), (V.int .i64 (gi b0 2)), (V.sl 1 t_impl_Item 0 none), (V.int .i64 (gi b0 4)), (V.int .i64 (gi b0 5)), (V.int .i64 (gi b0 6)), (V.int .i64 (gi b0 7)), (V.sl 2 t_bool 0 none), (V.sl 3 t_int' 0 none), (V.sl 4 t_int' 0 none)]), r1, r2, r3, r4)
def spec_l4commit_v1_l3 : Nat → Int → V → List V → List V → List V → List V → Option (Nat × V × List V × List V × List V × List V)
  | 0, _, _, _, _, _, _ => none
  | k_ + 1, p2, b0, r1, r2, r3, r4 =>
    bif (decide ((gi b0 4) < p2)) then
      Option.bind (spec_l4commit_v1_l7 ((((r4.length : Nat) : Int) - 0).toNat + 1) p2 0 0 (V.agg [(V.int .i64 (gi b0 0)), (V.int .i64 (gi b0 1)), (V.int .i64 (gi b0 2)), (V.sl 1 t_impl_Item 0 none), (V.int .i64 (gi b0 4)), (V.int .i64 (gi b0 5)), (V.int .i64 (gi b0 6)), (V.int .i64 (gi b0 7)), (V.sl 2 t_bool 0 none), (V.sl 3 t_int' 0 none), (V.sl 4 t_int' 0 none)]) r1 r2 r3 r4) fun r58 =>
      bif spec_l4most r58.2.1 ((r58.2.2.2.2.2.2.length : Nat) : Int) then
        Option.bind (spec_l4termAt (V.agg [(V.int .i64 (gi r58.2.2.1 0)), (V.int .i64 (gi r58.2.2.1 1)), (V.int .i64 (gi r58.2.2.1 2)), (V.inl t_impl_Item r58.2.2.2.1), (V.int .i64 (gi r58.2.2.1 4)), (V.int .i64 (gi r58.2.2.1 5)), (V.int .i64 (gi r58.2.2.1 6)), (V.int .i64 (gi r58.2.2.1 7)), (V.inl t_bool r58.2.2.2.2.1), (V.inl t_int' r58.2.2.2.2.2.1), (V.inl t_int' r58.2.2.2.2.2.2)]) r58.1) fun r59 =>
        bif (decide (r59 = (gi r58.2.2.1 1))) then
          some (0, (V.agg [(V.int .i64 (gi r58.2.2.1 0)), (V.int .i64 (gi r58.2.2.1 1)), (V.int .i64 (gi r58.2.2.1 2)), (V.sl 1 t_impl_Item 0 none), (V.int .i64 r58.1), (V.int .i64 (gi r58.2.2.1 5)), (V.int .i64 (gi r58.2.2.1 6)), (V.int .i64 (gi r58.2.2.1 7)), (V.sl 2 t_bool 0 none), (V.sl 3 t_int' 0 none), (V.sl 4 t_int' 0 none)]), r58.2.2.2.1, r58.2.2.2.2.1, r58.2.2.2.2.2.1, r58.2.2.2.2.2.2)
        else spec_l4commit_v1_l3 k_ (IntKind.i64.wrap (r58.1 - 1)) (V.agg [(V.int .i64 (gi r58.2.2.1 0)), (V.int .i64 (gi r58.2.2.1 1)), (V.int .i64 (gi r58.2.2.1 2)), (V.sl 1 t_impl_Item 0 none), (V.int .i64 (gi r58.2.2.1 4)), (V.int .i64 (gi r58.2.2.1 5)), (V.int .i64 (gi r58.2.2.1 6)), (V.int .i64 (gi r58.2.2.1 7)), (V.sl 2 t_bool 0 none), (V.sl 3 t_int' 0 none), (V.sl 4 t_int' 0 none)]) r58.2.2.2.1 r58.2.2.2.2.1 r58.2.2.2.2.2.1 r58.2.2.2.2.2.2
      else spec_l4commit_v1_l3 k_ (IntKind.i64.wrap (r58.1 - 1)) (V.agg [(V.int .i64 (gi r58.2.2.1 0)), (V.int .i64 (gi r58.2.2.1 1)), (V.int .i64 (gi r58.2.2.1 2)), (V.sl 1 t_impl_Item 0 none), (V.int .i64 (gi r58.2.2.1 4)), (V.int .i64 (gi r58.2.2.1 5)), (V.int .i64 (gi r58.2.2.1 6)), (V.int .i64 (gi r58.2.2.1 7)), (V.sl 2 t_bool 0 none), (V.sl 3 t_int' 0 none), (V.sl 4 t_int' 0 none)]) r58.2.2.2.1 r58.2.2.2.2.1 r58.2.2.2.2.2.1 r58.2.2.2.2.2.2
    else some (1, (V.agg [(V.int .i64 (gi b0 0)), (V.int .i64 (gi b0 1)), (V.int .i64 (gi b0 2)), (V.sl 1 t_impl_Item 0 none), (V.int .i64 (gi b0 4)), (V.int .i64 (gi b0 5)), (V.int .i64 (gi b0 6)), (V.int .i64 (gi b0 7)), (V.sl 2 t_bool 0 none), (V.sl 3 t_int' 0 none), (V.sl 4 t_int' 0 none)]), r1, r2, r3, r4)
def spec_l4commit_v1 (n : V) : Option (V) :=
  bif (idxOk (gi n 0) ((gl n 10).length)) then
    bif (idxOk (gi n 0) ((gl n 9).length)) then
      Option.bind (spec_l4commit_v1_l3 (((((gl n 3).length : Nat) : Int) - (gi (V.agg [(V.int .i64 (gi n 0)), (V.int .i64 (gi n 1)), (V.int .i64 (gi n 2)), (V.sl 1 t_impl_Item 0 none), (V.int .i64 (gi n 4)), (V.int .i64 (gi n 5)), (V.int .i64 (gi n 6)), (V.int .i64 (gi n 7)), (V.sl 2 t_bool 0 none), (V.sl 3 t_int' 0 none), (V.sl 4 t_int' 0 none)]) 4)).toNat + 1) (((gl n 3).length : Nat) : Int) (V.agg [(V.int .i64 (gi n 0)), (V.int .i64 (gi n 1)), (V.int .i64 (gi n 2)), (V.sl 1 t_impl_Item 0 none), (V.int .i64 (gi n 4)), (V.int .i64 (gi n 5)), (V.int .i64 (gi n 6)), (V.int .i64 (gi n 7)), (V.sl 2 t_bool 0 none), (V.sl 3 t_int' 0 none), (V.sl 4 t_int' 0 none)]) (gl n 3) (gl n 8) ((gl n 9).set (0 + ((gi n 0).toNat)) (V.int .i64 (IntKind.i64.wrap ((((gl n 3).length : Nat) : Int) + 1)))) ((gl n 10).set (0 + ((gi n 0).toNat)) (V.int .i64 (((gl n 3).length : Nat) : Int)))) fun r60 =>
      bif (Nat.beq r60.1 0) then
        some (V.agg [(V.int .i64 (gi r60.2.1 0)), (V.int .i64 (gi r60.2.1 1)), (V.int .i64 (gi r60.2.1 2)), (V.inl t_impl_Item r60.2.2.1), (V.int .i64 (gi r60.2.1 4)), (V.int .i64 (gi r60.2.1 5)), (V.int .i64 (gi r60.2.1 6)), (V.int .i64 (gi r60.2.1 7)), (V.inl t_bool r60.2.2.2.1), (V.inl t_int' r60.2.2.2.2.1), (V.inl t_int' r60.2.2.2.2.2)])
      else some (V.agg [(V.int .i64 (gi r60.2.1 0)), (V.int .i64 (gi r60.2.1 1)), (V.int .i64 (gi r60.2.1 2)), (V.inl t_impl_Item r60.2.2.1), (V.int .i64 (gi r60.2.1 4)), (V.int .i64 (gi r60.2.1 5)), (V.int .i64 (gi r60.2.1 6)), (V.int .i64 (gi r60.2.1 7)), (V.inl t_bool r60.2.2.2.1), (V.inl t_int' r60.2.2.2.2.1), (V.inl t_int' r60.2.2.2.2.2)])
    else none
  else none
def spec_l4lead_l3 : Nat → Int → Int → V → List V → List V → List V → List V → Option (Int × V × List V × List V × List V × List V)
  | 0, _, _, _, _, _, _, _ => none
  | k_ + 1, k3, i4, b0, r1, r2, r3, r4 =>
    bif (decide (i4 < ((r2.length : Nat) : Int))) then
      bif (idxOk i4 r2.length) then
        bif (gb (rd r2 (0 + i4.toNat)) 0) then
          spec_l4lead_l3 k_ (IntKind.i64.wrap (k3 + 1)) (IntKind.i64.wrap (i4 + 1)) (V.agg [(V.int .i64 (gi b0 0)), (V.int .i64 (gi b0 1)), (V.int .i64 (gi b0 2)), (V.sl 1 t_impl_Item 0 none), (V.int .i64 (gi b0 4)), (V.int .i64 (gi b0 5)), (V.int .i64 (gi b0 6)), (V.int .i64 (gi b0 7)), (V.sl 2 t_bool 0 none), (V.sl 3 t_int' 0 none), (V.sl 4 t_int' 0 none)]) r1 r2 r3 r4
        else spec_l4lead_l3 k_ k3 (IntKind.i64.wrap (i4 + 1)) (V.agg [(V.int .i64 (gi b0 0)), (V.int .i64 (gi b0 1)), (V.int .i64 (gi b0 2)), (V.sl 1 t_impl_Item 0 none), (V.int .i64 (gi b0 4)), (V.int .i64 (gi b0 5)), (V.int .i64 (gi b0 6)), (V.int .i64 (gi b0 7)), (V.sl 2 t_bool 0 none), (V.sl 3 t_int' 0 none), (V.sl 4 t_int' 0 none)]) r1 r2 r3 r4
      else none
    else some (k3, (V.agg [(V.int .i64 (gi b0 0)), (V.int .i64 (gi b0 1)), (V.int .i64 (gi b0 2)), (V.sl 1 t_impl_Item 0 none), (V.int .i64 (gi b0 4)), (V.int .i64 (gi b0 5)), (V.int .i64 (gi b0 6)), (V.int .i64 (gi b0 7)), (V.sl 2 t_bool 0 none), (V.sl 3 t_int' 0 none), (V.sl 4 t_int' 0 none)]), r1, r2, r3, r4)
def spec_l4lead_l13 : Nat → Int → V → List V → List V → List V → List V → Option (V × List V × List V × List V × List V)
  | 0, _, _, _, _, _, _ => none
  | k_ + 1, i5, b0, r1, r2, r3, r4 =>
    bif (decide (i5 < ((r3.length : Nat) : Int))) then
      bif (idxOk i5 r3.length) then
        bif (idxOk i5 r4.length) then
          spec_l4lead_l13 k_ (IntKind.i64.wrap (i5 + 1)) (V.agg [(V.int .i64 (gi b0 0)), (V.int .i64 (gi b0 1)), (V.int .i64 (gi b0 2)), (V.sl 1 t_impl_Item 0 none), (V.int .i64 (gi b0 4)), (V.int .i64 (gi b0 5)), (V.int .i64 (gi b0 6)), (V.int .i64 (gi b0 7)), (V.sl 2 t_bool 0 none), (V.sl 3 t_int' 0 none), (V.sl 4 t_int' 0 none)]) r1 r2 (r3.set (0 + i5.toNat) (V.int .i64 (IntKind.i64.wrap (((r1.length : Nat) : Int) + 1)))) (r4.set (0 + i5.toNat) (V.int .i64 0))
        else none
      else none
    else some ((V.agg [(V.int .i64 (gi b0 0)), (V.int .i64 (gi b0 1)), (V.int .i64 (gi b0 2)), (V.sl 1 t_impl_Item 0 none), (V.int .i64 (gi b0 4)), (V.int .i64 (gi b0 5)), (V.int .i64 (gi b0 6)), (V.int .i64 (gi b0 7)), (V.sl 2 t_bool 0 none), (V.sl 3 t_int' 0 none), (V.sl 4 t_int' 0 none)]), r1, r2, r3, r4)
def spec_l4lead (n : V) : Option (List V × V) :=
  Option.bind (spec_l4lead_l3 (((((gl n 8).length : Nat) : Int) - 0).toNat + 1) 0 0 (V.agg [(V.int .i64 (gi n 0)), (V.int .i64 (gi n 1)), (V.int .i64 (gi n 2)), (V.sl 1 t_impl_Item 0 none), (V.int .i64 (gi n 4)), (V.int .i64 (gi n 5)), (V.int .i64 (gi n 6)), (V.int .i64 (gi n 7)), (V.sl 2 t_bool 0 none), (V.sl 3 t_int' 0 none), (V.sl 4 t_int' 0 none)]) (gl n 3) (gl n 8) (gl n 9) (gl n 10)) fun r63 =>
  bif (!(spec_l4most r63.1 ((r63.2.2.2.1.length : Nat) : Int))) then
    some ([], (V.agg [(V.int .i64 (gi r63.2.1 0)), (V.int .i64 (gi r63.2.1 1)), (V.int .i64 (gi r63.2.1 2)), (V.inl t_impl_Item r63.2.2.1), (V.int .i64 (gi r63.2.1 4)), (V.int .i64 (gi r63.2.1 5)), (V.int .i64 (gi r63.2.1 6)), (V.int .i64 (gi r63.2.1 7)), (V.inl t_bool r63.2.2.2.1), (V.inl t_int' r63.2.2.2.2.1), (V.inl t_int' r63.2.2.2.2.2)]))
  else Option.bind (spec_l4lead_l13 ((((r63.2.2.2.2.1.length : Nat) : Int) - 0).toNat + 1) 0 (V.agg [(V.int .i64 (gi r63.2.1 0)), (V.int .i64 (gi r63.2.1 1)), (V.int .i64 (gi r63.2.1 2)), (V.sl 1 t_impl_Item 0 none), (V.int .i64 (gi r63.2.1 4)), (V.int .i64 2), (V.int .i64 (gi r63.2.1 0)), (V.int .i64 0), (V.sl 2 t_bool 0 none), (V.sl 3 t_int' 0 none), (V.sl 4 t_int' 0 none)]) r63.2.2.1 r63.2.2.2.1 r63.2.2.2.2.1 r63.2.2.2.2.2) fun r64 =>
  bif (decide (((r64.2.1.length : Nat) : Int) < 400)) then
    bif ((roomy (0 + r64.2.1.length) 88) && true) then
      bif ((roomy (r64.2.1.length + 1) 88) && true) then
        Option.bind (spec_l4commit_v1 (V.agg [(V.int .i64 (gi r64.1 0)), (V.int .i64 (gi r64.1 1)), (V.int .i64 (gi r64.1 2)), (V.inl t_impl_Item (r64.2.1 ++ [(V.agg [(V.int .i64 (gi r64.1 1)), (V.int .i64 (-1)), (V.int .i64 0), (V.int .i64 0), (V.inl t_byte []), (V.inl t_byte []), (V.int .i64 0)])])), (V.int .i64 (gi r64.1 4)), (V.int .i64 (gi r64.1 5)), (V.int .i64 (gi r64.1 6)), (V.int .i64 (gi r64.1 7)), (V.inl t_bool r64.2.2.1), (V.inl t_int' r64.2.2.2.1), (V.inl t_int' r64.2.2.2.2)])) fun r65 =>
        Option.bind (spec_l4all_v2 (n_impl_Node r65)) fun r66 =>
        some (r66.1, (n_impl_Node r66.2))
      else none
    else none
  else Option.bind (spec_l4commit_v1 (V.agg [(V.int .i64 (gi r64.1 0)), (V.int .i64 (gi r64.1 1)), (V.int .i64 (gi r64.1 2)), (V.inl t_impl_Item r64.2.1), (V.int .i64 (gi r64.1 4)), (V.int .i64 (gi r64.1 5)), (V.int .i64 (gi r64.1 6)), (V.int .i64 (gi r64.1 7)), (V.inl t_bool r64.2.2.1), (V.inl t_int' r64.2.2.2.1), (V.inl t_int' r64.2.2.2.2)])) fun r67 =>
  Option.bind (spec_l4all_v2 (n_impl_Node r67)) fun r68 =>
  some (r68.1, (n_impl_Node r68.2))
def spec_l4tick_l17 : Nat → Int → V → List V → List V → List V → List V → List V → Option (V × List V × List V × List V × List V × List V)
  | 0, _, _, _, _, _, _, _ => none
  | k_ + 1, i4, b0, r1, r2, r3, r4, r5 =>
    bif (decide (i4 < ((r3.length : Nat) : Int))) then
      bif (!(decide (i4 = (gi b0 0)))) then
        Option.bind (spec_l4termAt (V.agg [(V.int .i64 (gi b0 0)), (V.int .i64 (gi b0 1)), (V.int .i64 (gi b0 2)), (V.inl t_impl_Item r2), (V.int .i64 (gi b0 4)), (V.int .i64 (gi b0 5)), (V.int .i64 (gi b0 6)), (V.int .i64 (gi b0 7)), (V.inl t_bool r3), (V.inl t_int' r4), (V.inl t_int' r5)]) ((r2.length : Nat) : Int)) fun r73 =>
        bif ((roomy (r1.length + 1) 88) && true) then
          spec_l4tick_l17 k_ (IntKind.i64.wrap (i4 + 1)) (V.agg [(V.int .i64 (gi b0 0)), (V.int .i64 (gi b0 1)), (V.int .i64 (gi b0 2)), (V.sl 2 t_impl_Item 0 none), (V.int .i64 (gi b0 4)), (V.int .i64 (gi b0 5)), (V.int .i64 (gi b0 6)), (V.int .i64 (gi b0 7)), (V.sl 3 t_bool 0 none), (V.sl 4 t_int' 0 none), (V.sl 5 t_int' 0 none)]) (r1 ++ [(V.agg [(V.int .i64 0), (V.int .i64 (gi b0 0)), (V.int .i64 i4), (V.int .i64 (gi b0 1)), (V.int .i64 ((r2.length : Nat) : Int)), (V.int .i64 r73), (V.inl t_impl_Item []), (V.int .i64 0), (V.bool false)])]) r2 r3 r4 r5
        else none
      else spec_l4tick_l17 k_ (IntKind.i64.wrap (i4 + 1)) (V.agg [(V.int .i64 (gi b0 0)), (V.int .i64 (gi b0 1)), (V.int .i64 (gi b0 2)), (V.sl 2 t_impl_Item 0 none), (V.int .i64 (gi b0 4)), (V.int .i64 (gi b0 5)), (V.int .i64 (gi b0 6)), (V.int .i64 (gi b0 7)), (V.sl 3 t_bool 0 none), (V.sl 4 t_int' 0 none), (V.sl 5 t_int' 0 none)]) r1 r2 r3 r4 r5
    else some ((V.agg [(V.int .i64 (gi b0 0)), (V.int .i64 (gi b0 1)), (V.int .i64 (gi b0 2)), (V.sl 2 t_impl_Item 0 none), (V.int .i64 (gi b0 4)), (V.int .i64 (gi b0 5)), (V.int .i64 (gi b0 6)), (V.int .i64 (gi b0 7)), (V.sl 3 t_bool 0 none), (V.sl 4 t_int' 0 none), (V.sl 5 t_int' 0 none)]), r1, r2, r3, r4, r5)
def spec_l4tick (n : V) : Option (List V × V) :=
  bif (decide ((gi n 5) = 2)) then
    Option.bind (spec_l4all_v2 (n_impl_Node n)) fun r70 =>
    some (r70.1, (n_impl_Node r70.2))
  else bif (decide ((IntKind.i64.wrap ((gi n 7) + 1)) < (IntKind.i64.wrap (3 + (IntKind.i64.wrap (2 * (gi n 0))))))) then
    bif (decide ((20 : Int) < (IntKind.i64.wrap ((gi n 7) + 1)))) then
      some ([], (V.agg [(V.int .i64 (gi n 0)), (V.int .i64 (gi n 1)), (V.int .i64 (gi n 2)), (V.inl t_impl_Item (gl n 3)), (V.int .i64 (gi n 4)), (V.int .i64 (gi n 5)), (V.int .i64 (gi n 6)), (V.int .i64 20), (V.inl t_bool (gl n 8)), (V.inl t_int' (gl n 9)), (V.inl t_int' (gl n 10))]))
    else some ([], (V.agg [(V.int .i64 (gi n 0)), (V.int .i64 (gi n 1)), (V.int .i64 (gi n 2)), (V.inl t_impl_Item (gl n 3)), (V.int .i64 (gi n 4)), (V.int .i64 (gi n 5)), (V.int .i64 (gi n 6)), (V.int .i64 (IntKind.i64.wrap ((gi n 7) + 1))), (V.inl t_bool (gl n 8)), (V.inl t_int' (gl n 9)), (V.inl t_int' (gl n 10))]))
  else bif (decide ((100000 : Int) ≤ (gi n 1))) then
    bif (decide ((20 : Int) < (IntKind.i64.wrap ((gi n 7) + 1)))) then
      some ([], (V.agg [(V.int .i64 (gi n 0)), (V.int .i64 (gi n 1)), (V.int .i64 (gi n 2)), (V.inl t_impl_Item (gl n 3)), (V.int .i64 (gi n 4)), (V.int .i64 (gi n 5)), (V.int .i64 (gi n 6)), (V.int .i64 20), (V.inl t_bool (gl n 8)), (V.inl t_int' (gl n 9)), (V.inl t_int' (gl n 10))]))
    else some ([], (V.agg [(V.int .i64 (gi n 0)), (V.int .i64 (gi n 1)), (V.int .i64 (gi n 2)), (V.inl t_impl_Item (gl n 3)), (V.int .i64 (gi n 4)), (V.int .i64 (gi n 5)), (V.int .i64 (gi n 6)), (V.int .i64 (IntKind.i64.wrap ((gi n 7) + 1))), (V.inl t_bool (gl n 8)), (V.inl t_int' (gl n 9)), (V.inl t_int' (gl n 10))]))
  else Option.bind (spec_l4follow (V.agg [(V.int .i64 (gi n 0)), (V.int .i64 (gi n 1)), (V.int .i64 (gi n 2)), (V.inl t_impl_Item (gl n 3)), (V.int .i64 (gi n 4)), (V.int .i64 (gi n 5)), (V.int .i64 (gi n 6)), (V.int .i64 (IntKind.i64.wrap ((gi n 7) + 1))), (V.inl t_bool (gl n 8)), (V.inl t_int' (gl n 9)), (V.inl t_int' (gl n 10))]) (IntKind.i64.wrap ((gi n 1) + 1))) fun r71 =>
  bif (idxOk (gi r71 0) ((gl r71 8).length)) then
    bif (decide (((((gl r71 8).set (0 + ((gi r71 0).toNat)) (V.bool true)).length : Nat) : Int) = 1)) then
      Option.bind (spec_l4lead (V.agg [(V.int .i64 (gi r71 0)), (V.int .i64 (gi r71 1)), (V.int .i64 (gi r71 0)), (V.inl t_impl_Item (gl r71 3)), (V.int .i64 (gi r71 4)), (V.int .i64 1), (V.int .i64 (gi r71 6)), (V.int .i64 0), (V.inl t_bool ((gl r71 8).set (0 + ((gi r71 0).toNat)) (V.bool true))), (V.inl t_int' (gl r71 9)), (V.inl t_int' (gl r71 10))])) fun r72 =>
      some (r72.1, (n_impl_Node r72.2))
    else Option.bind (spec_l4tick_l17 ((((((gl r71 8).set (0 + ((gi r71 0).toNat)) (V.bool true)).length : Nat) : Int) - 0).toNat + 1) 0 (V.agg [(V.int .i64 (gi r71 0)), (V.int .i64 (gi r71 1)), (V.int .i64 (gi r71 0)), (V.sl 2 t_impl_Item 0 none), (V.int .i64 (gi r71 4)), (V.int .i64 1), (V.int .i64 (gi r71 6)), (V.int .i64 0), (V.sl 3 t_bool 0 none), (V.sl 4 t_int' 0 none), (V.sl 5 t_int' 0 none)]) [] (gl r71 3) ((gl r71 8).set (0 + ((gi r71 0).toNat)) (V.bool true)) (gl r71 9) (gl r71 10)) fun r74 =>
    some (r74.2.1, (V.agg [(V.int .i64 (gi r74.1 0)), (V.int .i64 (gi r74.1 1)), (V.int .i64 (gi r74.1 2)), (V.inl t_impl_Item r74.2.2.1), (V.int .i64 (gi r74.1 4)), (V.int .i64 (gi r74.1 5)), (V.int .i64 (gi r74.1 6)), (V.int .i64 (gi r74.1 7)), (V.inl t_bool r74.2.2.2.1), (V.inl t_int' r74.2.2.2.2.1), (V.inl t_int' r74.2.2.2.2.2)]))
  else none
def spec_l4ownMsgs_l3 : Nat → List V → Int → List V → Option (List V)
  | 0, _, _, _ => none
  | k_ + 1, l0, i4, r0 =>
    bif (decide (i4 < ((l0.length : Nat) : Int))) then
      bif (idxOk i4 l0.length) then
        Option.bind (spec_l3ownItems (gl (rd l0 i4.toNat) 6)) fun r77 =>
        bif ((roomy (r0.length + 1) 88) && true) then
          spec_l4ownMsgs_l3 k_ l0 (IntKind.i64.wrap (i4 + 1)) (r0 ++ [(V.agg [(V.int .i64 (gi (rd l0 i4.toNat) 0)), (V.int .i64 (gi (rd l0 i4.toNat) 1)), (V.int .i64 (gi (rd l0 i4.toNat) 2)), (V.int .i64 (gi (rd l0 i4.toNat) 3)), (V.int .i64 (gi (rd l0 i4.toNat) 4)), (V.int .i64 (gi (rd l0 i4.toNat) 5)), (V.inl t_impl_Item r77), (V.int .i64 (gi (rd l0 i4.toNat) 7)), (V.bool (gb (rd l0 i4.toNat) 8))])])
        else none
      else none
    else some r0
def spec_l4ownMsgs (l : List V) : Option (List V) :=
  Option.bind (spec_l4ownMsgs_l3 ((((l.length : Nat) : Int) - 0).toNat + 1) l 0 []) fun r78 =>
  some r78
def spec_Tick (n : V) (servers : Int) : Option (V × List V) :=
  Option.bind (spec_NodeOk (n_impl_Node n) servers) fun r31 =>
  bif (!r31) then
    some ((V.agg [(V.int .i64 0), (V.int .i64 0), (V.int .i64 0), (V.inl t_impl_Item []), (V.int .i64 0), (V.int .i64 0), (V.int .i64 0), (V.int .i64 0), (V.inl t_bool []), (V.inl t_int' []), (V.inl t_int' [])]), [])
  else Option.bind (spec_l4own (n_impl_Node n)) fun r35 =>
  Option.bind (spec_l4tick (n_impl_Node r35)) fun r75 =>
  Option.bind (spec_l4own (n_impl_Node r75.2)) fun r76 =>
  Option.bind (spec_l4ownMsgs r75.1) fun r79 =>
  some ((n_impl_Node r76), r79)
def impl_within (n : Int) (low : Int) (high : Int) : Bool :=
  bif (decide (low ≤ n)) then
    (decide (n ≤ high))
  else false
def impl_isServer (id : Int) (servers : Int) : Bool :=
  bif impl_within servers 1 5 then
    (impl_within id 0 (IntKind.i64.wrap (servers - 1)))
  else false
def impl_isTerm (n : Int) : Bool :=
  (impl_within n 1 100000)
def impl_noOp : V :=
  (V.agg [(V.int .i64 (-1)), (V.int .i64 0), (V.int .i64 0), (V.inl t_byte []), (V.inl t_byte []), (V.int .i64 0)])
def bytes_Equal (a : List V) (b : List V) : Bool :=
  (eqList (a.map normB) (b.map normB))
def impl_Op_same (o : V) (p : V) : Bool :=
  bif (decide ((gi o 0) = (gi p 0))) then
    bif bytes_Equal (gl o 1) (gl p 1) then
      bif bytes_Equal (gl o 2) (gl p 2) then
        (decide ((gi o 3) = (gi p 3)))
      else false
    else false
  else false
def impl_Cmd_same (c : V) (d : V) : Bool :=
  bif (decide ((gi c 0) = (gi d 0))) then
    bif (decide ((gi c 1) = (gi d 1))) then
      (impl_Op_same (V.agg [(V.int .i64 (gi c 2)), (V.inl t_byte (gl c 3)), (V.inl t_byte (gl c 4)), (V.int .i64 (gi c 5))]) (V.agg [(V.int .i64 (gi d 2)), (V.inl t_byte (gl d 3)), (V.inl t_byte (gl d 4)), (V.int .i64 (gi d 5))]))
    else false
  else false
def impl_KeyOk_l2 : Nat → List V → List V → Int → Int → Option (Nat × List V × Bool)
  | 0, _, _, _, _ => none
  | k_ + 1, b0, v5, v6, v7 =>
    bif (decide (v7 < v6)) then
      bif (idxOk v7 v5.length) then
        bif (decide ((gi (rd v5 v7.toNat) 0) < 97)) then
          bif (!(decide ((gi (rd v5 v7.toNat) 0) = 47))) then
            some (0, b0, false)
          else impl_KeyOk_l2 k_ b0 v5 v6 (IntKind.i64.wrap (v7 + 1))
        else bif (decide ((122 : Int) < (gi (rd v5 v7.toNat) 0))) then
          bif (!(decide ((gi (rd v5 v7.toNat) 0) = 47))) then
            some (0, b0, false)
          else impl_KeyOk_l2 k_ b0 v5 v6 (IntKind.i64.wrap (v7 + 1))
        else impl_KeyOk_l2 k_ b0 v5 v6 (IntKind.i64.wrap (v7 + 1))
      else none
    else some (1, b0, false)
def impl_KeyOk (b : List V) : Option (Bool) :=
  Option.bind (impl_KeyOk_l2 ((((b.length : Nat) : Int) - 0).toNat + 1) b b ((b.length : Nat) : Int) 0) fun r82 =>
  bif (Nat.beq r82.1 0) then
    some r82.2.2
  else some (impl_within ((r82.2.1.length : Nat) : Int) 1 20)
def impl_isValue (b : List V) : Bool :=
  (decide (((b.length : Nat) : Int) ≤ 20))
def impl_OpOk (o : V) : Option (Bool) :=
  bif (decide ((gi o 0) = 0)) then
    bif impl_within (gi o 3) 0 0 then
      bif (decide ((((gl o 1).length : Nat) : Int) = 0)) then
        some (decide ((((gl o 2).length : Nat) : Int) = 0))
      else some false
    else some false
  else bif (decide ((gi o 0) = 1)) then
    bif impl_within (gi o 3) 0 0 then
      Option.bind (impl_KeyOk (gl o 1)) fun r83 =>
      bif r83 then
        bif impl_isValue (gl o 2) then
          some true
        else some false
      else some false
    else some false
  else bif (decide ((gi o 0) = 2)) then
    bif impl_within (gi o 3) 0 1000000 then
      Option.bind (impl_KeyOk (gl o 1)) fun r84 =>
      bif r84 then
        bif impl_isValue (gl o 2) then
          some true
        else some false
      else some false
    else some false
  else bif (decide ((gi o 0) = 3)) then
    bif impl_within (gi o 3) 0 0 then
      Option.bind (impl_KeyOk (gl o 1)) fun r85 =>
      bif r85 then
        some (decide ((((gl o 2).length : Nat) : Int) = 0))
      else some false
    else some false
  else bif (decide ((gi o 0) = 4)) then
    bif impl_within (gi o 3) 0 1 then
      bif (decide ((((gl o 1).length : Nat) : Int) = 0)) then
        some (decide ((((gl o 2).length : Nat) : Int) = 0))
      else some false
    else some false
  else bif (decide ((gi o 0) = 5)) then
    bif impl_within (gi o 3) 1 1000000 then
      bif (decide ((((gl o 1).length : Nat) : Int) = 0)) then
        some (decide ((((gl o 2).length : Nat) : Int) = 0))
      else some false
    else some false
  else bif (decide ((gi o 0) = 6)) then
    bif impl_within (gi o 3) 1 1000000 then
      Option.bind (impl_KeyOk (gl o 1)) fun r86 =>
      bif r86 then
        bif impl_isValue (gl o 2) then
          some true
        else some false
      else some false
    else some false
  else bif (decide ((gi o 0) = 7)) then
    bif impl_within (gi o 3) 1 1000000 then
      Option.bind (impl_KeyOk (gl o 1)) fun r87 =>
      bif r87 then
        some (decide ((((gl o 2).length : Nat) : Int) = 0))
      else some false
    else some false
  else some false
def impl_CmdOk (c : V) : Option (Bool) :=
  bif impl_Cmd_same (n_laws_Cmd c) (n_laws_Cmd impl_noOp) then
    some true
  else bif impl_within (gi c 0) 0 3 then
    bif impl_within (gi c 1) 1 1000000 then
      Option.bind (impl_OpOk (V.agg [(V.int .i64 (gi c 2)), (V.inl t_byte (gl c 3)), (V.inl t_byte (gl c 4)), (V.int .i64 (gi c 5))])) fun r88 =>
      some r88
    else some false
  else some false
def impl_ItemOk (x : V) : Option (Bool) :=
  bif impl_isTerm (gi x 0) then
    Option.bind (impl_CmdOk (V.agg [(V.int .i64 (gi x 1)), (V.int .i64 (gi x 2)), (V.int .i64 (gi x 3)), (V.inl t_byte (gl x 4)), (V.inl t_byte (gl x 5)), (V.int .i64 (gi x 6))])) fun r89 =>
    some r89
  else some false
def slices_Index_bool_l2 : Nat → List V → Bool → Int → Int → Option (Nat × Int)
  | 0, _, _, _, _ => none
  | k_ + 1, s0, v1, v7, v8 =>
    bif (decide (v8 < v7)) then
      bif (idxOk v8 s0.length) then
        bif (v1 == (gb (rd s0 v8.toNat) 0)) then
          some (0, v8)
        else slices_Index_bool_l2 k_ s0 v1 v7 (IntKind.i64.wrap (v8 + 1))
      else none
    else some (1, 0)
def slices_Index_bool (s : List V) (v : Bool) : Option (Int) :=
  Option.bind (slices_Index_bool_l2 ((((s.length : Nat) : Int) - 0).toNat + 1) s v ((s.length : Nat) : Int) 0) fun r92 =>
  bif (Nat.beq r92.1 0) then
    some r92.2
  else some (-1)
def slices_Contains_bool (s : List V) (v : Bool) : Option (Bool) :=
  Option.bind (slices_Index_bool s v) fun r93 =>
  some (decide ((0 : Int) ≤ r93))
def impl_NodeOk_l5 : Nat → Int → Int → List V → Int → Int → V → Option (Nat × Int × Bool × V)
  | 0, _, _, _, _, _, _ => none
  | k_ + 1, servers1, term5, v43, v44, v45, b0 =>
    bif (decide (v45 < v44)) then
      bif (idxOk v45 v43.length) then
        Option.bind (impl_ItemOk (n_impl_Item (rd v43 v45.toNat))) fun r90 =>
        bif (!r90) then
          some (0, servers1, false, (n_impl_Node b0))
        else bif (!(impl_within (gi (rd v43 v45.toNat) 0) term5 (gi b0 1))) then
          some (0, servers1, false, (n_impl_Node b0))
        else impl_NodeOk_l5 k_ servers1 (gi (rd v43 v45.toNat) 0) v43 v44 (IntKind.i64.wrap (v45 + 1)) (n_impl_Node b0)
      else none
    else some (1, servers1, false, (n_impl_Node b0))
def impl_NodeOk_l16 : Nat → Int → Int → V → Option (Nat × Bool)
  | 0, _, _, _ => none
  | k_ + 1, v141, v142, b0 =>
    bif (decide (v142 < v141)) then
      bif (decide ((gi b0 5) = 2)) then
        bif (idxOk v142 ((gl b0 9).length)) then
          bif (!(impl_within (gi (rd (gl b0 9) v142.toNat) 0) 1 (IntKind.i64.wrap ((((gl b0 3).length : Nat) : Int) + 1)))) then
            some (0, false)
          else bif (idxOk v142 ((gl b0 10).length)) then
            bif (!(impl_within (gi (rd (gl b0 10) v142.toNat) 0) 0 (((gl b0 3).length : Nat) : Int))) then
              some (0, false)
            else bif (!(decide ((gi b0 5) = 2))) then
              bif (idxOk v142 ((gl b0 9).length)) then
                bif (!(decide ((gi (rd (gl b0 9) v142.toNat) 0) = 0))) then
                  some (0, false)
                else bif (idxOk v142 ((gl b0 10).length)) then
                  bif (!(decide ((gi (rd (gl b0 10) v142.toNat) 0) = 0))) then
                    some (0, false)
                  else impl_NodeOk_l16 k_ v141 (IntKind.i64.wrap (v142 + 1)) (n_impl_Node b0)
                else none
              else none
            else impl_NodeOk_l16 k_ v141 (IntKind.i64.wrap (v142 + 1)) (n_impl_Node b0)
          else none
        else none
      else bif (!(decide ((gi b0 5) = 2))) then
        bif (idxOk v142 ((gl b0 9).length)) then
          bif (!(decide ((gi (rd (gl b0 9) v142.toNat) 0) = 0))) then
            some (0, false)
          else bif (idxOk v142 ((gl b0 10).length)) then
            bif (!(decide ((gi (rd (gl b0 10) v142.toNat) 0) = 0))) then
              some (0, false)
            else impl_NodeOk_l16 k_ v141 (IntKind.i64.wrap (v142 + 1)) (n_impl_Node b0)
          else none
        else none
      else impl_NodeOk_l16 k_ v141 (IntKind.i64.wrap (v142 + 1)) (n_impl_Node b0)
    else some (1, false)
def impl_NodeOk (n : V) (servers : Int) : Option (Bool) :=
  bif (!(impl_isServer (gi n 0) servers)) then
    some false
  else bif (!(impl_within (gi n 1) 0 100000)) then
    some false
  else bif (!(impl_within (gi n 2) (-1) (IntKind.i64.wrap (servers - 1)))) then
    some false
  else bif (!(impl_within (gi n 6) (-1) (IntKind.i64.wrap (servers - 1)))) then
    some false
  else bif (decide ((400 : Int) < (((gl n 3).length : Nat) : Int))) then
    some false
  else Option.bind (impl_NodeOk_l5 (((((gl n 3).length : Nat) : Int) - 0).toNat + 1) servers 1 (gl n 3) (((gl n 3).length : Nat) : Int) 0 (n_impl_Node n)) fun r91 =>
  bif (Nat.beq r91.1 0) then
    some r91.2.2.1
  else bif (!(impl_within (gi r91.2.2.2 4) 0 (((gl r91.2.2.2 3).length : Nat) : Int))) then
    some false
  else bif (!(impl_within (gi r91.2.2.2 5) 0 2)) then
    some false
  else bif (!(impl_within (gi r91.2.2.2 7) 0 20)) then
    some false
  else bif (!(decide ((((gl r91.2.2.2 8).length : Nat) : Int) = r91.2.1))) then
    some false
  else bif (!(decide ((((gl r91.2.2.2 9).length : Nat) : Int) = r91.2.1))) then
    some false
  else bif (!(decide ((((gl r91.2.2.2 10).length : Nat) : Int) = r91.2.1))) then
    some false
  else bif (decide ((gi r91.2.2.2 5) = 0)) then
    Option.bind (slices_Contains_bool (gl r91.2.2.2 8) true) fun r94 =>
    bif r94 then
      some false
    else bif (!(decide ((gi r91.2.2.2 5) = 0))) then
      bif (decide ((gi r91.2.2.2 1) < 1)) then
        some false
      else bif (!(decide ((gi r91.2.2.2 2) = (gi r91.2.2.2 0)))) then
        some false
      else bif (decide ((gi r91.2.2.2 5) = 2)) then
        bif (!(decide ((gi r91.2.2.2 6) = (gi r91.2.2.2 0)))) then
          some false
        else Option.bind (impl_NodeOk_l16 ((r91.2.1 - 0).toNat + 1) r91.2.1 0 (n_impl_Node r91.2.2.2)) fun r95 =>
        bif (Nat.beq r95.1 0) then
          some r95.2
        else some true
      else Option.bind (impl_NodeOk_l16 ((r91.2.1 - 0).toNat + 1) r91.2.1 0 (n_impl_Node r91.2.2.2)) fun r96 =>
      bif (Nat.beq r96.1 0) then
        some r96.2
      else some true
    else bif (decide ((gi r91.2.2.2 5) = 2)) then
      bif (!(decide ((gi r91.2.2.2 6) = (gi r91.2.2.2 0)))) then
        some false
      else Option.bind (impl_NodeOk_l16 ((r91.2.1 - 0).toNat + 1) r91.2.1 0 (n_impl_Node r91.2.2.2)) fun r97 =>
      bif (Nat.beq r97.1 0) then
        some r97.2
      else some true
    else Option.bind (impl_NodeOk_l16 ((r91.2.1 - 0).toNat + 1) r91.2.1 0 (n_impl_Node r91.2.2.2)) fun r98 =>
    bif (Nat.beq r98.1 0) then
      some r98.2
    else some true
  else bif (!(decide ((gi r91.2.2.2 5) = 0))) then
    bif (decide ((gi r91.2.2.2 1) < 1)) then
      some false
    else bif (!(decide ((gi r91.2.2.2 2) = (gi r91.2.2.2 0)))) then
      some false
    else bif (decide ((gi r91.2.2.2 5) = 2)) then
      bif (!(decide ((gi r91.2.2.2 6) = (gi r91.2.2.2 0)))) then
        some false
      else Option.bind (impl_NodeOk_l16 ((r91.2.1 - 0).toNat + 1) r91.2.1 0 (n_impl_Node r91.2.2.2)) fun r99 =>
      bif (Nat.beq r99.1 0) then
        some r99.2
      else some true
    else Option.bind (impl_NodeOk_l16 ((r91.2.1 - 0).toNat + 1) r91.2.1 0 (n_impl_Node r91.2.2.2)) fun r100 =>
    bif (Nat.beq r100.1 0) then
      some r100.2
    else some true
  else bif (decide ((gi r91.2.2.2 5) = 2)) then
    bif (!(decide ((gi r91.2.2.2 6) = (gi r91.2.2.2 0)))) then
      some false
    else Option.bind (impl_NodeOk_l16 ((r91.2.1 - 0).toNat + 1) r91.2.1 0 (n_impl_Node r91.2.2.2)) fun r101 =>
    bif (Nat.beq r101.1 0) then
      some r101.2
    else some true
  else Option.bind (impl_NodeOk_l16 ((r91.2.1 - 0).toNat + 1) r91.2.1 0 (n_impl_Node r91.2.2.2)) fun r102 =>
  bif (Nat.beq r102.1 0) then
    some r102.2
  else some true
def slices_Clone_byte (s : List V) : Option (List V) :=
  bif ((roomy (0 + s.length) 1) && true) then
    some s
  else none
def impl_Op_own (o : V) : Option (V) :=
  Option.bind (slices_Clone_byte (gl o 1)) fun r104 =>
  Option.bind (slices_Clone_byte (gl o 2)) fun r105 =>
  some (V.agg [(V.int .i64 (gi o 0)), (V.inl t_byte r104), (V.inl t_byte r105), (V.int .i64 (gi o 3))])
def impl_Cmd_own (c : V) : Option (V) :=
  Option.bind (impl_Op_own (V.agg [(V.int .i64 (gi c 2)), (V.inl t_byte (gl c 3)), (V.inl t_byte (gl c 4)), (V.int .i64 (gi c 5))])) fun r106 =>
  some (V.agg [(V.int .i64 (gi c 0)), (V.int .i64 (gi c 1)), (V.int .i64 (gi r106 0)), (V.inl t_byte (gl r106 1)), (V.inl t_byte (gl r106 2)), (V.int .i64 (gi r106 3))])
def impl_ownItems_l3 : Nat → List V → Int → Int → List V → Option (List V)
  | 0, _, _, _, _ => none
  | k_ + 1, v6, v7, v8, r0 =>
    bif (decide (v8 < v7)) then
      bif (idxOk v8 v6.length) then
        Option.bind (impl_Cmd_own (V.agg [(V.int .i64 (gi (rd v6 v8.toNat) 1)), (V.int .i64 (gi (rd v6 v8.toNat) 2)), (V.int .i64 (gi (rd v6 v8.toNat) 3)), (V.inl t_byte (gl (rd v6 v8.toNat) 4)), (V.inl t_byte (gl (rd v6 v8.toNat) 5)), (V.int .i64 (gi (rd v6 v8.toNat) 6))])) fun r107 =>
        bif ((roomy (r0.length + 1) 88) && true) then
          impl_ownItems_l3 k_ v6 v7 (IntKind.i64.wrap (v8 + 1)) (r0 ++ [(V.agg [(V.int .i64 (gi (rd v6 v8.toNat) 0)), (V.int .i64 (gi r107 0)), (V.int .i64 (gi r107 1)), (V.int .i64 (gi r107 2)), (V.inl t_byte (gl r107 3)), (V.inl t_byte (gl r107 4)), (V.int .i64 (gi r107 5))])])
        else none
      else none
    else some r0
def impl_ownItems (list : List V) : Option (List V) :=
  Option.bind (impl_ownItems_l3 ((((list.length : Nat) : Int) - 0).toNat + 1) list ((list.length : Nat) : Int) 0 []) fun r108 =>
  some r108
def slices_Clone_bool (s : List V) : Option (List V) :=
  bif ((roomy (0 + s.length) 1) && true) then
    some s
  else none
def slices_Clone_int (s : List V) : Option (List V) :=
  bif ((roomy (0 + s.length) 8) && true) then
    some s
  else none
def impl_Node_own (n : V) : Option (V) :=
  Option.bind (impl_ownItems (gl n 3)) fun r109 =>
  Option.bind (slices_Clone_bool (gl n 8)) fun r110 =>
  Option.bind (slices_Clone_int (gl n 9)) fun r111 =>
  Option.bind (slices_Clone_int (gl n 10)) fun r112 =>
  some (V.agg [(V.int .i64 (gi n 0)), (V.int .i64 (gi n 1)), (V.int .i64 (gi n 2)), (V.inl t_impl_Item r109), (V.int .i64 (gi n 4)), (V.int .i64 (gi n 5)), (V.int .i64 (gi n 6)), (V.int .i64 (gi n 7)), (V.inl t_bool r110), (V.inl t_int' r111), (V.inl t_int' r112)])
def impl_Node_others_l3 : Nat → Int → Int → V → List V → Option (List V)
  | 0, _, _, _, _ => none
  | k_ + 1, v7, v8, b0, r1 =>
    bif (decide (v8 < v7)) then
      bif (!(decide (v8 = (gi b0 0)))) then
        bif ((roomy (r1.length + 1) 8) && true) then
          impl_Node_others_l3 k_ v7 (IntKind.i64.wrap (v8 + 1)) (n_impl_Node b0) (r1 ++ [(V.int .i64 v8)])
        else none
      else impl_Node_others_l3 k_ v7 (IntKind.i64.wrap (v8 + 1)) (n_impl_Node b0) r1
    else some r1
def impl_Node_others (n : V) : Option (List V) :=
  Option.bind (impl_Node_others_l3 (((((gl n 8).length : Nat) : Int) - 0).toNat + 1) (((gl n 8).length : Nat) : Int) 0 (n_impl_Node n) []) fun r114 =>
  some r114
def impl_Node_termAt (n : V) (place : Int) : Option (Int) :=
  bif (!(impl_within place 1 (((gl n 3).length : Nat) : Int))) then
    some 0
  else bif (idxOk (IntKind.i64.wrap (place - 1)) ((gl n 3).length)) then
    some (gi (rd (gl n 3) ((IntKind.i64.wrap (place - 1)).toNat)) 0)
  else none
def impl_Node_entries (n : V) (to : Int) : Option (V) :=
  bif (idxOk to ((gl n 9).length)) then
    bif ((decide ((0 : Int) ≤ (mnI (((gl n 3).length : Nat) : Int) (IntKind.i64.wrap ((IntKind.i64.wrap ((gi (rd (gl n 9) to.toNat) 0) - 1)) + 4))))) && (decide ((mnI (((gl n 3).length : Nat) : Int) (IntKind.i64.wrap ((IntKind.i64.wrap ((gi (rd (gl n 9) to.toNat) 0) - 1)) + 4))) ≤ (((gl n 3).length : Nat) : Int)))) then
      bif ((decide ((0 : Int) ≤ (IntKind.i64.wrap ((gi (rd (gl n 9) to.toNat) 0) - 1)))) && (decide ((IntKind.i64.wrap ((gi (rd (gl n 9) to.toNat) 0) - 1)) ≤ (((mnI (((gl n 3).length : Nat) : Int) (IntKind.i64.wrap ((IntKind.i64.wrap ((gi (rd (gl n 9) to.toNat) 0) - 1)) + 4))).toNat : Nat) : Int)))) then
        Option.bind (impl_Node_termAt (n_impl_Node n) (IntKind.i64.wrap ((gi (rd (gl n 9) to.toNat) 0) - 1))) fun r116 =>
        Option.bind (impl_ownItems (((gl n 3).drop ((IntKind.i64.wrap ((gi (rd (gl n 9) to.toNat) 0) - 1)).toNat)).take (((mnI (((gl n 3).length : Nat) : Int) (IntKind.i64.wrap ((IntKind.i64.wrap ((gi (rd (gl n 9) to.toNat) 0) - 1)) + 4))).toNat) - ((IntKind.i64.wrap ((gi (rd (gl n 9) to.toNat) 0) - 1)).toNat)))) fun r117 =>
        some (V.agg [(V.int .i64 2), (V.int .i64 (gi n 0)), (V.int .i64 to), (V.int .i64 (gi n 1)), (V.int .i64 (IntKind.i64.wrap ((gi (rd (gl n 9) to.toNat) 0) - 1))), (V.int .i64 r116), (V.inl t_impl_Item r117), (V.int .i64 (gi n 4)), (V.bool false)])
      else none
    else none
  else none
def impl_server_send (s : V) (to : Int) : Option (V) :=
  Option.bind (impl_Node_entries (n_impl_Node s) to) fun r118 =>
  bif ((roomy (((gl s 11).length) + 1) 88) && true) then
    some (V.agg [(V.int .i64 (gi s 0)), (V.int .i64 (gi s 1)), (V.int .i64 (gi s 2)), (V.inl t_impl_Item (gl s 3)), (V.int .i64 (gi s 4)), (V.int .i64 (gi s 5)), (V.int .i64 (gi s 6)), (V.int .i64 (gi s 7)), (V.inl t_bool (gl s 8)), (V.inl t_int' (gl s 9)), (V.inl t_int' (gl s 10)), (V.inl t_impl_Msg ((gl s 11) ++ [(n_impl_Msg r118)]))])
  else none
def impl_server_sendAll_l1 : Nat → Int → Int → V → List V → List V → List V → List V → List V → List V → Option (V × List V × List V × List V × List V × List V)
  | 0, _, _, _, _, _, _, _, _, _ => none
  | k_ + 1, v9, v10, b0, r1, r2, r3, r4, r5, r6 =>
    bif (decide (v10 < v9)) then
      bif (idxOk v10 r1.length) then
        Option.bind (impl_server_send (V.agg [(V.int .i64 (gi b0 0)), (V.int .i64 (gi b0 1)), (V.int .i64 (gi b0 2)), (V.inl t_impl_Item r2), (V.int .i64 (gi b0 4)), (V.int .i64 (gi b0 5)), (V.int .i64 (gi b0 6)), (V.int .i64 (gi b0 7)), (V.inl t_bool r3), (V.inl t_int' r4), (V.inl t_int' r5), (V.inl t_impl_Msg r6)]) (gi (rd r1 (0 + v10.toNat)) 0)) fun r119 =>
        impl_server_sendAll_l1 k_ v9 (IntKind.i64.wrap (v10 + 1)) (V.agg [(V.int .i64 (gi r119 0)), (V.int .i64 (gi r119 1)), (V.int .i64 (gi r119 2)), (V.sl 2 t_impl_Item 0 none), (V.int .i64 (gi r119 4)), (V.int .i64 (gi r119 5)), (V.int .i64 (gi r119 6)), (V.int .i64 (gi r119 7)), (V.sl 3 t_bool 0 none), (V.sl 4 t_int' 0 none), (V.sl 5 t_int' 0 none), (V.sl 6 t_impl_Msg 0 none)]) r1 (gl r119 3) (gl r119 8) (gl r119 9) (gl r119 10) (gl r119 11)
      else none
    else some ((V.agg [(V.int .i64 (gi b0 0)), (V.int .i64 (gi b0 1)), (V.int .i64 (gi b0 2)), (V.sl 1 t_impl_Item 0 none), (V.int .i64 (gi b0 4)), (V.int .i64 (gi b0 5)), (V.int .i64 (gi b0 6)), (V.int .i64 (gi b0 7)), (V.sl 2 t_bool 0 none), (V.sl 3 t_int' 0 none), (V.sl 4 t_int' 0 none), (V.sl 5 t_impl_Msg 0 none)]), r2, r3, r4, r5, r6)
def impl_server_sendAll (s : V) : Option (V) :=
  Option.bind (impl_Node_others (n_impl_Node s)) fun r115 =>
  Option.bind (impl_server_sendAll_l1 ((((r115.length : Nat) : Int) - 0).toNat + 1) ((r115.length : Nat) : Int) 0 (V.agg [(V.int .i64 (gi s 0)), (V.int .i64 (gi s 1)), (V.int .i64 (gi s 2)), (V.sl 2 t_impl_Item 0 none), (V.int .i64 (gi s 4)), (V.int .i64 (gi s 5)), (V.int .i64 (gi s 6)), (V.int .i64 (gi s 7)), (V.sl 3 t_bool 0 none), (V.sl 4 t_int' 0 none), (V.sl 5 t_int' 0 none), (V.sl 6 t_impl_Msg 0 none)]) r115 (gl s 3) (gl s 8) (gl s 9) (gl s 10) (gl s 11)) fun r120 =>
  some (V.agg [(V.int .i64 (gi r120.1 0)), (V.int .i64 (gi r120.1 1)), (V.int .i64 (gi r120.1 2)), (V.inl t_impl_Item r120.2.1), (V.int .i64 (gi r120.1 4)), (V.int .i64 (gi r120.1 5)), (V.int .i64 (gi r120.1 6)), (V.int .i64 (gi r120.1 7)), (V.inl t_bool r120.2.2.1), (V.inl t_int' r120.2.2.2.1), (V.inl t_int' r120.2.2.2.2.1), (V.inl t_impl_Msg r120.2.2.2.2.2)])
def impl_server_follow (s : V) (term_ : Int) : V :=
  bif (decide ((gi s 1) < term_)) then
    (V.agg [(V.int .i64 (gi s 0)), (V.int .i64 term_), (V.int .i64 (-1)), (V.inl t_impl_Item (gl s 3)), (V.int .i64 (gi s 4)), (V.int .i64 0), (V.int .i64 (-1)), (V.int .i64 (gi s 7)), (V.inl t_bool ((List.replicate ((gl s 8).length) (V.bool false)) ++ ((gl s 8).drop (0 + ((gl s 8).length))))), (V.inl t_int' ((List.replicate ((gl s 9).length) (V.int .i64 0)) ++ ((gl s 9).drop (0 + ((gl s 9).length))))), (V.inl t_int' ((List.replicate ((gl s 10).length) (V.int .i64 0)) ++ ((gl s 10).drop (0 + ((gl s 10).length))))), (V.inl t_impl_Msg (gl s 11))])
  else (V.agg [(V.int .i64 (gi s 0)), (V.int .i64 (gi s 1)), (V.int .i64 (gi s 2)), (V.inl t_impl_Item (gl s 3)), (V.int .i64 (gi s 4)), (V.int .i64 0), (V.int .i64 (gi s 6)), (V.int .i64 (gi s 7)), (V.inl t_bool ((List.replicate ((gl s 8).length) (V.bool false)) ++ ((gl s 8).drop (0 + ((gl s 8).length))))), (V.inl t_int' ((List.replicate ((gl s 9).length) (V.int .i64 0)) ++ ((gl s 9).drop (0 + ((gl s 9).length))))), (V.inl t_int' ((List.replicate ((gl s 10).length) (V.int .i64 0)) ++ ((gl s 10).drop (0 + ((gl s 10).length))))), (V.inl t_impl_Msg (gl s 11))])
def impl_Node_most (n : V) (count : Int) : Bool :=
  (decide ((((gl n 8).length : Nat) : Int) < (IntKind.i64.wrap (2 * count))))
def impl_server_advance_l6 : Nat → Int → Int → Int → Int → V → List V → List V → List V → List V → List V → Option (Int × Int × V × List V × List V × List V × List V × List V)
  | 0, _, _, _, _, _, _, _, _, _, _ => none
  | k_ + 1, place2, count3, v61, v62, b0, r1, r2, r3, r4, r5 =>
    bif (decide (v62 < v61)) then
      bif (idxOk v62 r1.length) then
        bif (decide (place2 ≤ (gi (rd r1 (0 + v62.toNat)) 0))) then
          impl_server_advance_l6 k_ place2 (IntKind.i64.wrap (count3 + 1)) v61 (IntKind.i64.wrap (v62 + 1)) (V.agg [(V.int .i64 (gi b0 0)), (V.int .i64 (gi b0 1)), (V.int .i64 (gi b0 2)), (V.sl 2 t_impl_Item 0 none), (V.int .i64 (gi b0 4)), (V.int .i64 (gi b0 5)), (V.int .i64 (gi b0 6)), (V.int .i64 (gi b0 7)), (V.sl 3 t_bool 0 none), (V.sl 4 t_int' 0 none), (V.sl 1 t_int' 0 none), (V.sl 5 t_impl_Msg 0 none)]) r1 r2 r3 r4 r5
        else impl_server_advance_l6 k_ place2 count3 v61 (IntKind.i64.wrap (v62 + 1)) (V.agg [(V.int .i64 (gi b0 0)), (V.int .i64 (gi b0 1)), (V.int .i64 (gi b0 2)), (V.sl 2 t_impl_Item 0 none), (V.int .i64 (gi b0 4)), (V.int .i64 (gi b0 5)), (V.int .i64 (gi b0 6)), (V.int .i64 (gi b0 7)), (V.sl 3 t_bool 0 none), (V.sl 4 t_int' 0 none), (V.sl 1 t_int' 0 none), (V.sl 5 t_impl_Msg 0 none)]) r1 r2 r3 r4 r5
      else none
    else some (place2, count3, (V.agg [(V.int .i64 (gi b0 0)), (V.int .i64 (gi b0 1)), (V.int .i64 (gi b0 2)), (V.sl 1 t_impl_Item 0 none), (V.int .i64 (gi b0 4)), (V.int .i64 (gi b0 5)), (V.int .i64 (gi b0 6)), (V.int .i64 (gi b0 7)), (V.sl 2 t_bool 0 none), (V.sl 3 t_int' 0 none), (V.sl 4 t_int' 0 none), (V.sl 5 t_impl_Msg 0 none)]), r2, r3, r4, r1, r5)
def impl_server_advance_l2 : Nat → Int → V → List V → List V → List V → List V → List V → Option (Nat × V × List V × List V × List V × List V × List V)
  | 0, _, _, _, _, _, _, _ => none
  | k_ + 1, place2, b0, r1, r2, r3, r4, r5 =>
    bif (decide ((gi b0 4) < place2)) then
      Option.bind (impl_server_advance_l6 ((((r4.length : Nat) : Int) - 0).toNat + 1) place2 0 ((r4.length : Nat) : Int) 0 (V.agg [(V.int .i64 (gi b0 0)), (V.int .i64 (gi b0 1)), (V.int .i64 (gi b0 2)), (V.sl 2 t_impl_Item 0 none), (V.int .i64 (gi b0 4)), (V.int .i64 (gi b0 5)), (V.int .i64 (gi b0 6)), (V.int .i64 (gi b0 7)), (V.sl 3 t_bool 0 none), (V.sl 4 t_int' 0 none), (V.sl 1 t_int' 0 none), (V.sl 5 t_impl_Msg 0 none)]) r4 r1 r2 r3 r5) fun r125 =>
      Option.bind (impl_Node_termAt (V.agg [(V.int .i64 (gi r125.2.2.1 0)), (V.int .i64 (gi r125.2.2.1 1)), (V.int .i64 (gi r125.2.2.1 2)), (V.inl t_impl_Item r125.2.2.2.1), (V.int .i64 (gi r125.2.2.1 4)), (V.int .i64 (gi r125.2.2.1 5)), (V.int .i64 (gi r125.2.2.1 6)), (V.int .i64 (gi r125.2.2.1 7)), (V.inl t_bool r125.2.2.2.2.1), (V.inl t_int' r125.2.2.2.2.2.1), (V.inl t_int' r125.2.2.2.2.2.2.1)]) r125.1) fun r126 =>
      bif (decide (r126 = (gi r125.2.2.1 1))) then
        bif impl_Node_most (V.agg [(V.int .i64 (gi r125.2.2.1 0)), (V.int .i64 (gi r125.2.2.1 1)), (V.int .i64 (gi r125.2.2.1 2)), (V.inl t_impl_Item r125.2.2.2.1), (V.int .i64 (gi r125.2.2.1 4)), (V.int .i64 (gi r125.2.2.1 5)), (V.int .i64 (gi r125.2.2.1 6)), (V.int .i64 (gi r125.2.2.1 7)), (V.inl t_bool r125.2.2.2.2.1), (V.inl t_int' r125.2.2.2.2.2.1), (V.inl t_int' r125.2.2.2.2.2.2.1)]) r125.2.1 then
          some (0, (V.agg [(V.int .i64 (gi r125.2.2.1 0)), (V.int .i64 (gi r125.2.2.1 1)), (V.int .i64 (gi r125.2.2.1 2)), (V.sl 1 t_impl_Item 0 none), (V.int .i64 r125.1), (V.int .i64 (gi r125.2.2.1 5)), (V.int .i64 (gi r125.2.2.1 6)), (V.int .i64 (gi r125.2.2.1 7)), (V.sl 2 t_bool 0 none), (V.sl 3 t_int' 0 none), (V.sl 4 t_int' 0 none), (V.sl 5 t_impl_Msg 0 none)]), r125.2.2.2.1, r125.2.2.2.2.1, r125.2.2.2.2.2.1, r125.2.2.2.2.2.2.1, r125.2.2.2.2.2.2.2)
        else impl_server_advance_l2 k_ (IntKind.i64.wrap (r125.1 - 1)) (V.agg [(V.int .i64 (gi r125.2.2.1 0)), (V.int .i64 (gi r125.2.2.1 1)), (V.int .i64 (gi r125.2.2.1 2)), (V.sl 1 t_impl_Item 0 none), (V.int .i64 (gi r125.2.2.1 4)), (V.int .i64 (gi r125.2.2.1 5)), (V.int .i64 (gi r125.2.2.1 6)), (V.int .i64 (gi r125.2.2.1 7)), (V.sl 2 t_bool 0 none), (V.sl 3 t_int' 0 none), (V.sl 4 t_int' 0 none), (V.sl 5 t_impl_Msg 0 none)]) r125.2.2.2.1 r125.2.2.2.2.1 r125.2.2.2.2.2.1 r125.2.2.2.2.2.2.1 r125.2.2.2.2.2.2.2
      else impl_server_advance_l2 k_ (IntKind.i64.wrap (r125.1 - 1)) (V.agg [(V.int .i64 (gi r125.2.2.1 0)), (V.int .i64 (gi r125.2.2.1 1)), (V.int .i64 (gi r125.2.2.1 2)), (V.sl 1 t_impl_Item 0 none), (V.int .i64 (gi r125.2.2.1 4)), (V.int .i64 (gi r125.2.2.1 5)), (V.int .i64 (gi r125.2.2.1 6)), (V.int .i64 (gi r125.2.2.1 7)), (V.sl 2 t_bool 0 none), (V.sl 3 t_int' 0 none), (V.sl 4 t_int' 0 none), (V.sl 5 t_impl_Msg 0 none)]) r125.2.2.2.1 r125.2.2.2.2.1 r125.2.2.2.2.2.1 r125.2.2.2.2.2.2.1 r125.2.2.2.2.2.2.2
    else some (1, (V.agg [(V.int .i64 (gi b0 0)), (V.int .i64 (gi b0 1)), (V.int .i64 (gi b0 2)), (V.sl 1 t_impl_Item 0 none), (V.int .i64 (gi b0 4)), (V.int .i64 (gi b0 5)), (V.int .i64 (gi b0 6)), (V.int .i64 (gi b0 7)), (V.sl 2 t_bool 0 none), (V.sl 3 t_int' 0 none), (V.sl 4 t_int' 0 none), (V.sl 5 t_impl_Msg 0 none)]), r1, r2, r3, r4, r5)
def impl_server_advance (s : V) : Option (V) :=
  bif (idxOk (gi s 0) ((gl s 10).length)) then
    bif (idxOk (gi s 0) ((gl s 9).length)) then
      Option.bind (impl_server_advance_l2 (((((gl s 3).length : Nat) : Int) - (gi (V.agg [(V.int .i64 (gi s 0)), (V.int .i64 (gi s 1)), (V.int .i64 (gi s 2)), (V.sl 1 t_impl_Item 0 none), (V.int .i64 (gi s 4)), (V.int .i64 (gi s 5)), (V.int .i64 (gi s 6)), (V.int .i64 (gi s 7)), (V.sl 2 t_bool 0 none), (V.sl 3 t_int' 0 none), (V.sl 4 t_int' 0 none), (V.sl 5 t_impl_Msg 0 none)]) 4)).toNat + 1) (((gl s 3).length : Nat) : Int) (V.agg [(V.int .i64 (gi s 0)), (V.int .i64 (gi s 1)), (V.int .i64 (gi s 2)), (V.sl 1 t_impl_Item 0 none), (V.int .i64 (gi s 4)), (V.int .i64 (gi s 5)), (V.int .i64 (gi s 6)), (V.int .i64 (gi s 7)), (V.sl 2 t_bool 0 none), (V.sl 3 t_int' 0 none), (V.sl 4 t_int' 0 none), (V.sl 5 t_impl_Msg 0 none)]) (gl s 3) (gl s 8) ((gl s 9).set (0 + ((gi s 0).toNat)) (V.int .i64 (IntKind.i64.wrap ((((gl s 3).length : Nat) : Int) + 1)))) ((gl s 10).set (0 + ((gi s 0).toNat)) (V.int .i64 (((gl s 3).length : Nat) : Int))) (gl s 11)) fun r127 =>
      bif (Nat.beq r127.1 0) then
        some (V.agg [(V.int .i64 (gi r127.2.1 0)), (V.int .i64 (gi r127.2.1 1)), (V.int .i64 (gi r127.2.1 2)), (V.inl t_impl_Item r127.2.2.1), (V.int .i64 (gi r127.2.1 4)), (V.int .i64 (gi r127.2.1 5)), (V.int .i64 (gi r127.2.1 6)), (V.int .i64 (gi r127.2.1 7)), (V.inl t_bool r127.2.2.2.1), (V.inl t_int' r127.2.2.2.2.1), (V.inl t_int' r127.2.2.2.2.2.1), (V.inl t_impl_Msg r127.2.2.2.2.2.2)])
      else some (V.agg [(V.int .i64 (gi r127.2.1 0)), (V.int .i64 (gi r127.2.1 1)), (V.int .i64 (gi r127.2.1 2)), (V.inl t_impl_Item r127.2.2.1), (V.int .i64 (gi r127.2.1 4)), (V.int .i64 (gi r127.2.1 5)), (V.int .i64 (gi r127.2.1 6)), (V.int .i64 (gi r127.2.1 7)), (V.inl t_bool r127.2.2.2.1), (V.inl t_int' r127.2.2.2.2.1), (V.inl t_int' r127.2.2.2.2.2.1), (V.inl t_impl_Msg r127.2.2.2.2.2.2)])
    else none
  else none
def impl_server_lead_l2 : Nat → Int → Int → Int → V → List V → List V → List V → List V → List V → Option (Int × V × List V × List V × List V × List V × List V)
  | 0, _, _, _, _, _, _, _, _, _ => none
  | k_ + 1, count2, v11, v12, b0, r1, r2, r3, r4, r5 =>
    bif (decide (v12 < v11)) then
      bif (idxOk v12 r1.length) then
        bif (gb (rd r1 (0 + v12.toNat)) 0) then
          impl_server_lead_l2 k_ (IntKind.i64.wrap (count2 + 1)) v11 (IntKind.i64.wrap (v12 + 1)) (V.agg [(V.int .i64 (gi b0 0)), (V.int .i64 (gi b0 1)), (V.int .i64 (gi b0 2)), (V.sl 2 t_impl_Item 0 none), (V.int .i64 (gi b0 4)), (V.int .i64 (gi b0 5)), (V.int .i64 (gi b0 6)), (V.int .i64 (gi b0 7)), (V.sl 1 t_bool 0 none), (V.sl 3 t_int' 0 none), (V.sl 4 t_int' 0 none), (V.sl 5 t_impl_Msg 0 none)]) r1 r2 r3 r4 r5
        else impl_server_lead_l2 k_ count2 v11 (IntKind.i64.wrap (v12 + 1)) (V.agg [(V.int .i64 (gi b0 0)), (V.int .i64 (gi b0 1)), (V.int .i64 (gi b0 2)), (V.sl 2 t_impl_Item 0 none), (V.int .i64 (gi b0 4)), (V.int .i64 (gi b0 5)), (V.int .i64 (gi b0 6)), (V.int .i64 (gi b0 7)), (V.sl 1 t_bool 0 none), (V.sl 3 t_int' 0 none), (V.sl 4 t_int' 0 none), (V.sl 5 t_impl_Msg 0 none)]) r1 r2 r3 r4 r5
      else none
    else some (count2, (V.agg [(V.int .i64 (gi b0 0)), (V.int .i64 (gi b0 1)), (V.int .i64 (gi b0 2)), (V.sl 1 t_impl_Item 0 none), (V.int .i64 (gi b0 4)), (V.int .i64 (gi b0 5)), (V.int .i64 (gi b0 6)), (V.int .i64 (gi b0 7)), (V.sl 2 t_bool 0 none), (V.sl 3 t_int' 0 none), (V.sl 4 t_int' 0 none), (V.sl 5 t_impl_Msg 0 none)]), r2, r1, r3, r4, r5)
def impl_server_lead_l10 : Nat → Int → Int → V → List V → List V → List V → List V → List V → Option (V × List V × List V × List V × List V × List V)
  | 0, _, _, _, _, _, _, _, _ => none
  | k_ + 1, v49, v50, b0, r1, r2, r3, r4, r5 =>
    bif (decide (v50 < v49)) then
      bif (idxOk v50 r3.length) then
        bif (idxOk v50 r4.length) then
          impl_server_lead_l10 k_ v49 (IntKind.i64.wrap (v50 + 1)) (V.agg [(V.int .i64 (gi b0 0)), (V.int .i64 (gi b0 1)), (V.int .i64 (gi b0 2)), (V.sl 1 t_impl_Item 0 none), (V.int .i64 (gi b0 4)), (V.int .i64 (gi b0 5)), (V.int .i64 (gi b0 6)), (V.int .i64 (gi b0 7)), (V.sl 2 t_bool 0 none), (V.sl 3 t_int' 0 none), (V.sl 4 t_int' 0 none), (V.sl 5 t_impl_Msg 0 none)]) r1 r2 (r3.set (0 + v50.toNat) (V.int .i64 (IntKind.i64.wrap (((r1.length : Nat) : Int) + 1)))) (r4.set (0 + v50.toNat) (V.int .i64 0)) r5
        else none
      else none
    else some ((V.agg [(V.int .i64 (gi b0 0)), (V.int .i64 (gi b0 1)), (V.int .i64 (gi b0 2)), (V.sl 1 t_impl_Item 0 none), (V.int .i64 (gi b0 4)), (V.int .i64 (gi b0 5)), (V.int .i64 (gi b0 6)), (V.int .i64 (gi b0 7)), (V.sl 2 t_bool 0 none), (V.sl 3 t_int' 0 none), (V.sl 4 t_int' 0 none), (V.sl 5 t_impl_Msg 0 none)]), r1, r2, r3, r4, r5)
def impl_server_lead (s : V) : Option (V) :=
  Option.bind (impl_server_lead_l2 (((((gl s 8).length : Nat) : Int) - 0).toNat + 1) 0 (((gl s 8).length : Nat) : Int) 0 (V.agg [(V.int .i64 (gi s 0)), (V.int .i64 (gi s 1)), (V.int .i64 (gi s 2)), (V.sl 2 t_impl_Item 0 none), (V.int .i64 (gi s 4)), (V.int .i64 (gi s 5)), (V.int .i64 (gi s 6)), (V.int .i64 (gi s 7)), (V.sl 1 t_bool 0 none), (V.sl 3 t_int' 0 none), (V.sl 4 t_int' 0 none), (V.sl 5 t_impl_Msg 0 none)]) (gl s 8) (gl s 3) (gl s 9) (gl s 10) (gl s 11)) fun r123 =>
  bif (!(impl_Node_most (V.agg [(V.int .i64 (gi r123.2.1 0)), (V.int .i64 (gi r123.2.1 1)), (V.int .i64 (gi r123.2.1 2)), (V.inl t_impl_Item r123.2.2.1), (V.int .i64 (gi r123.2.1 4)), (V.int .i64 (gi r123.2.1 5)), (V.int .i64 (gi r123.2.1 6)), (V.int .i64 (gi r123.2.1 7)), (V.inl t_bool r123.2.2.2.1), (V.inl t_int' r123.2.2.2.2.1), (V.inl t_int' r123.2.2.2.2.2.1)]) r123.1)) then
    some (V.agg [(V.int .i64 (gi r123.2.1 0)), (V.int .i64 (gi r123.2.1 1)), (V.int .i64 (gi r123.2.1 2)), (V.inl t_impl_Item r123.2.2.1), (V.int .i64 (gi r123.2.1 4)), (V.int .i64 (gi r123.2.1 5)), (V.int .i64 (gi r123.2.1 6)), (V.int .i64 (gi r123.2.1 7)), (V.inl t_bool r123.2.2.2.1), (V.inl t_int' r123.2.2.2.2.1), (V.inl t_int' r123.2.2.2.2.2.1), (V.inl t_impl_Msg r123.2.2.2.2.2.2)])
  else Option.bind (impl_server_lead_l10 ((((r123.2.2.2.2.1.length : Nat) : Int) - 0).toNat + 1) ((r123.2.2.2.2.1.length : Nat) : Int) 0 (V.agg [(V.int .i64 (gi r123.2.1 0)), (V.int .i64 (gi r123.2.1 1)), (V.int .i64 (gi r123.2.1 2)), (V.sl 1 t_impl_Item 0 none), (V.int .i64 (gi r123.2.1 4)), (V.int .i64 2), (V.int .i64 (gi r123.2.1 0)), (V.int .i64 0), (V.sl 2 t_bool 0 none), (V.sl 3 t_int' 0 none), (V.sl 4 t_int' 0 none), (V.sl 5 t_impl_Msg 0 none)]) r123.2.2.1 r123.2.2.2.1 r123.2.2.2.2.1 r123.2.2.2.2.2.1 r123.2.2.2.2.2.2) fun r124 =>
  bif (decide (((r124.2.1.length : Nat) : Int) < 400)) then
    bif ((roomy (r124.2.1.length + 1) 88) && true) then
      Option.bind (impl_server_advance (V.agg [(V.int .i64 (gi r124.1 0)), (V.int .i64 (gi r124.1 1)), (V.int .i64 (gi r124.1 2)), (V.inl t_impl_Item (r124.2.1 ++ [(V.agg [(V.int .i64 (gi r124.1 1)), (V.int .i64 (gi impl_noOp 0)), (V.int .i64 (gi impl_noOp 1)), (V.int .i64 (gi impl_noOp 2)), (V.inl t_byte (gl impl_noOp 3)), (V.inl t_byte (gl impl_noOp 4)), (V.int .i64 (gi impl_noOp 5))])])), (V.int .i64 (gi r124.1 4)), (V.int .i64 (gi r124.1 5)), (V.int .i64 (gi r124.1 6)), (V.int .i64 (gi r124.1 7)), (V.inl t_bool r124.2.2.1), (V.inl t_int' r124.2.2.2.1), (V.inl t_int' r124.2.2.2.2.1), (V.inl t_impl_Msg r124.2.2.2.2.2)])) fun r128 =>
      Option.bind (impl_server_sendAll (n_impl_server r128)) fun r129 =>
      some (n_impl_server r129)
    else none
  else Option.bind (impl_server_advance (V.agg [(V.int .i64 (gi r124.1 0)), (V.int .i64 (gi r124.1 1)), (V.int .i64 (gi r124.1 2)), (V.inl t_impl_Item r124.2.1), (V.int .i64 (gi r124.1 4)), (V.int .i64 (gi r124.1 5)), (V.int .i64 (gi r124.1 6)), (V.int .i64 (gi r124.1 7)), (V.inl t_bool r124.2.2.1), (V.inl t_int' r124.2.2.2.1), (V.inl t_int' r124.2.2.2.2.1), (V.inl t_impl_Msg r124.2.2.2.2.2)])) fun r130 =>
  Option.bind (impl_server_sendAll (n_impl_server r130)) fun r131 =>
  some (n_impl_server r131)
def impl_Node_lastTerm (n : V) : Option (Int) :=
  Option.bind (impl_Node_termAt (n_impl_Node n) (((gl n 3).length : Nat) : Int)) fun r134 =>
  some r134
def impl_server_tick_l11 : Nat → Int → Int → V → List V → List V → List V → List V → List V → List V → Option (V × List V × List V × List V × List V × List V)
  | 0, _, _, _, _, _, _, _, _, _ => none
  | k_ + 1, v102, v103, b0, r1, r2, r3, r4, r5, r6 =>
    bif (decide (v103 < v102)) then
      bif (idxOk v103 r1.length) then
        Option.bind (impl_Node_lastTerm (V.agg [(V.int .i64 (gi b0 0)), (V.int .i64 (gi b0 1)), (V.int .i64 (gi b0 2)), (V.inl t_impl_Item r2), (V.int .i64 (gi b0 4)), (V.int .i64 (gi b0 5)), (V.int .i64 (gi b0 6)), (V.int .i64 (gi b0 7)), (V.inl t_bool r3), (V.inl t_int' r4), (V.inl t_int' r5)])) fun r135 =>
        bif ((roomy (r6.length + 1) 88) && true) then
          impl_server_tick_l11 k_ v102 (IntKind.i64.wrap (v103 + 1)) (V.agg [(V.int .i64 (gi b0 0)), (V.int .i64 (gi b0 1)), (V.int .i64 (gi b0 2)), (V.sl 2 t_impl_Item 0 none), (V.int .i64 (gi b0 4)), (V.int .i64 (gi b0 5)), (V.int .i64 (gi b0 6)), (V.int .i64 (gi b0 7)), (V.sl 3 t_bool 0 none), (V.sl 4 t_int' 0 none), (V.sl 5 t_int' 0 none), (V.sl 6 t_impl_Msg 0 none)]) r1 r2 r3 r4 r5 (r6 ++ [(V.agg [(V.int .i64 0), (V.int .i64 (gi b0 0)), (V.int .i64 (gi (rd r1 (0 + v103.toNat)) 0)), (V.int .i64 (gi b0 1)), (V.int .i64 ((r2.length : Nat) : Int)), (V.int .i64 r135), (V.inl t_impl_Item []), (V.int .i64 0), (V.bool false)])])
        else none
      else none
    else some ((V.agg [(V.int .i64 (gi b0 0)), (V.int .i64 (gi b0 1)), (V.int .i64 (gi b0 2)), (V.sl 1 t_impl_Item 0 none), (V.int .i64 (gi b0 4)), (V.int .i64 (gi b0 5)), (V.int .i64 (gi b0 6)), (V.int .i64 (gi b0 7)), (V.sl 2 t_bool 0 none), (V.sl 3 t_int' 0 none), (V.sl 4 t_int' 0 none), (V.sl 5 t_impl_Msg 0 none)]), r2, r3, r4, r5, r6)
def impl_server_tick (s : V) : Option (V) :=
  bif (decide ((gi s 5) = 2)) then
    Option.bind (impl_server_sendAll (n_impl_server s)) fun r121 =>
    some (n_impl_server r121)
  else bif (decide ((IntKind.i64.wrap ((gi s 7) + 1)) < (IntKind.i64.wrap (3 + (IntKind.i64.wrap (2 * (gi s 0))))))) then
    some (V.agg [(V.int .i64 (gi s 0)), (V.int .i64 (gi s 1)), (V.int .i64 (gi s 2)), (V.inl t_impl_Item (gl s 3)), (V.int .i64 (gi s 4)), (V.int .i64 (gi s 5)), (V.int .i64 (gi s 6)), (V.int .i64 (mnI 20 (IntKind.i64.wrap ((gi s 7) + 1)))), (V.inl t_bool (gl s 8)), (V.inl t_int' (gl s 9)), (V.inl t_int' (gl s 10)), (V.inl t_impl_Msg (gl s 11))])
  else bif (decide ((gi s 1) = 100000)) then
    some (V.agg [(V.int .i64 (gi s 0)), (V.int .i64 (gi s 1)), (V.int .i64 (gi s 2)), (V.inl t_impl_Item (gl s 3)), (V.int .i64 (gi s 4)), (V.int .i64 (gi s 5)), (V.int .i64 (gi s 6)), (V.int .i64 (mnI 20 (IntKind.i64.wrap ((gi s 7) + 1)))), (V.inl t_bool (gl s 8)), (V.inl t_int' (gl s 9)), (V.inl t_int' (gl s 10)), (V.inl t_impl_Msg (gl s 11))])
  else rlet (impl_server_follow (V.agg [(V.int .i64 (gi s 0)), (V.int .i64 (gi s 1)), (V.int .i64 (gi s 2)), (V.inl t_impl_Item (gl s 3)), (V.int .i64 (gi s 4)), (V.int .i64 (gi s 5)), (V.int .i64 (gi s 6)), (V.int .i64 (IntKind.i64.wrap ((gi s 7) + 1))), (V.inl t_bool (gl s 8)), (V.inl t_int' (gl s 9)), (V.inl t_int' (gl s 10)), (V.inl t_impl_Msg (gl s 11))]) (IntKind.i64.wrap ((gi s 1) + 1))) fun r122 =>
  bif (idxOk (gi r122 0) ((gl r122 8).length)) then
    bif (decide (((((gl r122 8).set (0 + ((gi r122 0).toNat)) (V.bool true)).length : Nat) : Int) = 1)) then
      Option.bind (impl_server_lead (V.agg [(V.int .i64 (gi r122 0)), (V.int .i64 (gi r122 1)), (V.int .i64 (gi r122 0)), (V.inl t_impl_Item (gl r122 3)), (V.int .i64 (gi r122 4)), (V.int .i64 1), (V.int .i64 (gi r122 6)), (V.int .i64 0), (V.inl t_bool ((gl r122 8).set (0 + ((gi r122 0).toNat)) (V.bool true))), (V.inl t_int' (gl r122 9)), (V.inl t_int' (gl r122 10)), (V.inl t_impl_Msg (gl r122 11))])) fun r132 =>
      some (n_impl_server r132)
    else Option.bind (impl_Node_others (V.agg [(V.int .i64 (gi r122 0)), (V.int .i64 (gi r122 1)), (V.int .i64 (gi r122 0)), (V.inl t_impl_Item (gl r122 3)), (V.int .i64 (gi r122 4)), (V.int .i64 1), (V.int .i64 (gi r122 6)), (V.int .i64 0), (V.inl t_bool ((gl r122 8).set (0 + ((gi r122 0).toNat)) (V.bool true))), (V.inl t_int' (gl r122 9)), (V.inl t_int' (gl r122 10))])) fun r133 =>
    Option.bind (impl_server_tick_l11 ((((r133.length : Nat) : Int) - 0).toNat + 1) ((r133.length : Nat) : Int) 0 (V.agg [(V.int .i64 (gi r122 0)), (V.int .i64 (gi r122 1)), (V.int .i64 (gi r122 0)), (V.sl 2 t_impl_Item 0 none), (V.int .i64 (gi r122 4)), (V.int .i64 1), (V.int .i64 (gi r122 6)), (V.int .i64 0), (V.sl 3 t_bool 0 none), (V.sl 4 t_int' 0 none), (V.sl 5 t_int' 0 none), (V.sl 6 t_impl_Msg 0 none)]) r133 (gl r122 3) ((gl r122 8).set (0 + ((gi r122 0).toNat)) (V.bool true)) (gl r122 9) (gl r122 10) (gl r122 11)) fun r136 =>
    some (V.agg [(V.int .i64 (gi r136.1 0)), (V.int .i64 (gi r136.1 1)), (V.int .i64 (gi r136.1 2)), (V.inl t_impl_Item r136.2.1), (V.int .i64 (gi r136.1 4)), (V.int .i64 (gi r136.1 5)), (V.int .i64 (gi r136.1 6)), (V.int .i64 (gi r136.1 7)), (V.inl t_bool r136.2.2.1), (V.inl t_int' r136.2.2.2.1), (V.inl t_int' r136.2.2.2.2.1), (V.inl t_impl_Msg r136.2.2.2.2.2)])
  else none
def impl_Tick (n : V) (servers : Int) : Option (V × List V) :=
  Option.bind (impl_NodeOk (n_impl_Node n) servers) fun r103 =>
  bif (!r103) then
    some ((V.agg [(V.int .i64 0), (V.int .i64 0), (V.int .i64 0), (V.inl t_impl_Item []), (V.int .i64 0), (V.int .i64 0), (V.int .i64 0), (V.int .i64 0), (V.inl t_bool []), (V.inl t_int' []), (V.inl t_int' [])]), [])
  else Option.bind (impl_Node_own (n_impl_Node n)) fun r113 =>
  Option.bind (impl_server_tick (V.agg [(V.int .i64 (gi r113 0)), (V.int .i64 (gi r113 1)), (V.int .i64 (gi r113 2)), (V.inl t_impl_Item (gl r113 3)), (V.int .i64 (gi r113 4)), (V.int .i64 (gi r113 5)), (V.int .i64 (gi r113 6)), (V.int .i64 (gi r113 7)), (V.inl t_bool (gl r113 8)), (V.inl t_int' (gl r113 9)), (V.inl t_int' (gl r113 10)), (V.inl t_impl_Msg [])])) fun r137 =>
  some ((n_impl_Node r137), (gl r137 11))
def laws_eqByteS_l4 : Nat → List V → List V → Int → Option (Nat × Bool)
  | 0, _, _, _ => none
  | k_ + 1, a0, b1, i5 =>
    bif (decide (i5 < ((a0.length : Nat) : Int))) then
      bif (idxOk i5 a0.length) then
        bif (idxOk i5 b1.length) then
          bif (!(decide ((gi (rd a0 i5.toNat) 0) = (gi (rd b1 i5.toNat) 0)))) then
            some (0, false)
          else laws_eqByteS_l4 k_ a0 b1 (IntKind.i64.wrap (i5 + 1))
        else none
      else none
    else some (1, false)
def laws_eqByteS (a : List V) (b : List V) : Option (Bool) :=
  bif (!(decide (((a.length : Nat) : Int) = ((b.length : Nat) : Int)))) then
    some false
  else Option.bind (laws_eqByteS_l4 ((((a.length : Nat) : Int) - 0).toNat + 1) a b 0) fun r139 =>
  bif (Nat.beq r139.1 0) then
    some r139.2
  else some true
def laws_eqOp (a : V) (b : V) : Option (Bool) :=
  bif (!(decide ((gi a 0) = (gi b 0)))) then
    some false
  else Option.bind (laws_eqByteS (gl a 1) (gl b 1)) fun r140 =>
  bif (!r140) then
    some false
  else Option.bind (laws_eqByteS (gl a 2) (gl b 2)) fun r141 =>
  bif (!r141) then
    some false
  else bif (!(decide ((gi a 3) = (gi b 3)))) then
    some false
  else some true
def laws_eqCmd (a : V) (b : V) : Option (Bool) :=
  bif (!(decide ((gi a 0) = (gi b 0)))) then
    some false
  else bif (!(decide ((gi a 1) = (gi b 1)))) then
    some false
  else Option.bind (laws_eqOp (V.agg [(V.int .i64 (gi a 2)), (V.inl t_byte (gl a 3)), (V.inl t_byte (gl a 4)), (V.int .i64 (gi a 5))]) (V.agg [(V.int .i64 (gi b 2)), (V.inl t_byte (gl b 3)), (V.inl t_byte (gl b 4)), (V.int .i64 (gi b 5))])) fun r142 =>
  bif (!r142) then
    some false
  else some true
def laws_eqItem (a : V) (b : V) : Option (Bool) :=
  bif (!(decide ((gi a 0) = (gi b 0)))) then
    some false
  else Option.bind (laws_eqCmd (V.agg [(V.int .i64 (gi a 1)), (V.int .i64 (gi a 2)), (V.int .i64 (gi a 3)), (V.inl t_byte (gl a 4)), (V.inl t_byte (gl a 5)), (V.int .i64 (gi a 6))]) (V.agg [(V.int .i64 (gi b 1)), (V.int .i64 (gi b 2)), (V.int .i64 (gi b 3)), (V.inl t_byte (gl b 4)), (V.inl t_byte (gl b 5)), (V.int .i64 (gi b 6))])) fun r143 =>
  bif (!r143) then
    some false
  else some true
def laws_eqItemS_l4 : Nat → List V → List V → Int → Option (Nat × Bool)
  | 0, _, _, _ => none
  | k_ + 1, a0, b1, i5 =>
    bif (decide (i5 < ((a0.length : Nat) : Int))) then
      bif (idxOk i5 a0.length) then
        bif (idxOk i5 b1.length) then
          Option.bind (laws_eqItem (n_impl_Item (rd a0 i5.toNat)) (n_impl_Item (rd b1 i5.toNat))) fun r144 =>
          bif (!r144) then
            some (0, false)
          else laws_eqItemS_l4 k_ a0 b1 (IntKind.i64.wrap (i5 + 1))
        else none
      else none
    else some (1, false)
def laws_eqItemS (a : List V) (b : List V) : Option (Bool) :=
  bif (!(decide (((a.length : Nat) : Int) = ((b.length : Nat) : Int)))) then
    some false
  else Option.bind (laws_eqItemS_l4 ((((a.length : Nat) : Int) - 0).toNat + 1) a b 0) fun r145 =>
  bif (Nat.beq r145.1 0) then
    some r145.2
  else some true
def laws_eqBoolS_l4 : Nat → List V → List V → Int → Option (Nat × Bool)
  | 0, _, _, _ => none
  | k_ + 1, a0, b1, i5 =>
    bif (decide (i5 < ((a0.length : Nat) : Int))) then
      bif (idxOk i5 a0.length) then
        bif (idxOk i5 b1.length) then
          bif (!((gb (rd a0 i5.toNat) 0) == (gb (rd b1 i5.toNat) 0))) then
            some (0, false)
          else laws_eqBoolS_l4 k_ a0 b1 (IntKind.i64.wrap (i5 + 1))
        else none
      else none
    else some (1, false)
def laws_eqBoolS (a : List V) (b : List V) : Option (Bool) :=
  bif (!(decide (((a.length : Nat) : Int) = ((b.length : Nat) : Int)))) then
    some false
  else Option.bind (laws_eqBoolS_l4 ((((a.length : Nat) : Int) - 0).toNat + 1) a b 0) fun r147 =>
  bif (Nat.beq r147.1 0) then
    some r147.2
  else some true
def laws_eqIntS_l4 : Nat → List V → List V → Int → Option (Nat × Bool)
  | 0, _, _, _ => none
  | k_ + 1, a0, b1, i5 =>
    bif (decide (i5 < ((a0.length : Nat) : Int))) then
      bif (idxOk i5 a0.length) then
        bif (idxOk i5 b1.length) then
          bif (!(decide ((gi (rd a0 i5.toNat) 0) = (gi (rd b1 i5.toNat) 0)))) then
            some (0, false)
          else laws_eqIntS_l4 k_ a0 b1 (IntKind.i64.wrap (i5 + 1))
        else none
      else none
    else some (1, false)
def laws_eqIntS (a : List V) (b : List V) : Option (Bool) :=
  bif (!(decide (((a.length : Nat) : Int) = ((b.length : Nat) : Int)))) then
    some false
  else Option.bind (laws_eqIntS_l4 ((((a.length : Nat) : Int) - 0).toNat + 1) a b 0) fun r149 =>
  bif (Nat.beq r149.1 0) then
    some r149.2
  else some true
def laws_eqNode (a : V) (b : V) : Option (Bool) :=
  bif (!(decide ((gi a 0) = (gi b 0)))) then
    some false
  else bif (!(decide ((gi a 1) = (gi b 1)))) then
    some false
  else bif (!(decide ((gi a 2) = (gi b 2)))) then
    some false
  else Option.bind (laws_eqItemS (gl a 3) (gl b 3)) fun r146 =>
  bif (!r146) then
    some false
  else bif (!(decide ((gi a 4) = (gi b 4)))) then
    some false
  else bif (!(decide ((gi a 5) = (gi b 5)))) then
    some false
  else bif (!(decide ((gi a 6) = (gi b 6)))) then
    some false
  else bif (!(decide ((gi a 7) = (gi b 7)))) then
    some false
  else Option.bind (laws_eqBoolS (gl a 8) (gl b 8)) fun r148 =>
  bif (!r148) then
    some false
  else Option.bind (laws_eqIntS (gl a 9) (gl b 9)) fun r150 =>
  bif (!r150) then
    some false
  else Option.bind (laws_eqIntS (gl a 10) (gl b 10)) fun r151 =>
  bif (!r151) then
    some false
  else some true
def laws_eqMsg (a : V) (b : V) : Option (Bool) :=
  bif (!(decide ((gi a 0) = (gi b 0)))) then
    some false
  else bif (!(decide ((gi a 1) = (gi b 1)))) then
    some false
  else bif (!(decide ((gi a 2) = (gi b 2)))) then
    some false
  else bif (!(decide ((gi a 3) = (gi b 3)))) then
    some false
  else bif (!(decide ((gi a 4) = (gi b 4)))) then
    some false
  else bif (!(decide ((gi a 5) = (gi b 5)))) then
    some false
  else Option.bind (laws_eqItemS (gl a 6) (gl b 6)) fun r153 =>
  bif (!r153) then
    some false
  else bif (!(decide ((gi a 7) = (gi b 7)))) then
    some false
  else bif (!((gb a 8) == (gb b 8))) then
    some false
  else some true
def laws_eqMsgS_l4 : Nat → List V → List V → Int → Option (Nat × Bool)
  | 0, _, _, _ => none
  | k_ + 1, a0, b1, i5 =>
    bif (decide (i5 < ((a0.length : Nat) : Int))) then
      bif (idxOk i5 a0.length) then
        bif (idxOk i5 b1.length) then
          Option.bind (laws_eqMsg (n_impl_Msg (rd a0 i5.toNat)) (n_impl_Msg (rd b1 i5.toNat))) fun r154 =>
          bif (!r154) then
            some (0, false)
          else laws_eqMsgS_l4 k_ a0 b1 (IntKind.i64.wrap (i5 + 1))
        else none
      else none
    else some (1, false)
def laws_eqMsgS (a : List V) (b : List V) : Option (Bool) :=
  bif (!(decide (((a.length : Nat) : Int) = ((b.length : Nat) : Int)))) then
    some false
  else Option.bind (laws_eqMsgS_l4 ((((a.length : Nat) : Int) - 0).toNat + 1) a b 0) fun r155 =>
  bif (Nat.beq r155.1 0) then
    some r155.2
  else some true
def laws_markByteS_l2 : Nat → Int → Int → List V → Option (Int × List V)
  | 0, _, _, _ => none
  | k_ + 1, k1, i5, r0 =>
    bif (decide (i5 < ((r0.length : Nat) : Int))) then
      bif (idxOk i5 r0.length) then
        laws_markByteS_l2 k_ (IntKind.i64.wrap (k1 + 1)) (IntKind.i64.wrap (i5 + 1)) (r0.set (0 + i5.toNat) (V.int .u8 (IntKind.u8.wrap k1)))
      else none
    else some (k1, r0)
def laws_markByteS (a : List V) (k : Int) : Option (Int × List V) :=
  Option.bind (laws_markByteS_l2 ((((a.length : Nat) : Int) - 0).toNat + 1) k 0 a) fun r163 =>
  some (r163.1, r163.2)
def laws_markItemS_l2 : Nat → Int → Int → List V → Option (Int × List V)
  | 0, _, _, _ => none
  | k_ + 1, k1, i5, r0 =>
    bif (decide (i5 < ((r0.length : Nat) : Int))) then
      bif (idxOk i5 r0.length) then
        rlet ((r0.set (0 + i5.toNat) (V.agg [(V.int .i64 k1), (V.int .i64 (gi (rd r0 (0 + i5.toNat)) 1)), (V.int .i64 (gi (rd r0 (0 + i5.toNat)) 2)), (V.int .i64 (gi (rd r0 (0 + i5.toNat)) 3)), (V.inl t_byte (gl (rd r0 (0 + i5.toNat)) 4)), (V.inl t_byte (gl (rd r0 (0 + i5.toNat)) 5)), (V.int .i64 (gi (rd r0 (0 + i5.toNat)) 6))]))) fun u159 =>
        bif (idxOk i5 u159.length) then
          rlet ((u159.set (0 + i5.toNat) (V.agg [(V.int .i64 (gi (rd u159 (0 + i5.toNat)) 0)), (V.int .i64 (IntKind.i64.wrap (k1 + 1))), (V.int .i64 (gi (rd u159 (0 + i5.toNat)) 2)), (V.int .i64 (gi (rd u159 (0 + i5.toNat)) 3)), (V.inl t_byte (gl (rd u159 (0 + i5.toNat)) 4)), (V.inl t_byte (gl (rd u159 (0 + i5.toNat)) 5)), (V.int .i64 (gi (rd u159 (0 + i5.toNat)) 6))]))) fun u160 =>
          bif (idxOk i5 u160.length) then
            rlet ((u160.set (0 + i5.toNat) (V.agg [(V.int .i64 (gi (rd u160 (0 + i5.toNat)) 0)), (V.int .i64 (gi (rd u160 (0 + i5.toNat)) 1)), (V.int .i64 (IntKind.i64.wrap ((IntKind.i64.wrap (k1 + 1)) + 1))), (V.int .i64 (gi (rd u160 (0 + i5.toNat)) 3)), (V.inl t_byte (gl (rd u160 (0 + i5.toNat)) 4)), (V.inl t_byte (gl (rd u160 (0 + i5.toNat)) 5)), (V.int .i64 (gi (rd u160 (0 + i5.toNat)) 6))]))) fun u161 =>
            bif (idxOk i5 u161.length) then
              rlet ((u161.set (0 + i5.toNat) (V.agg [(V.int .i64 (gi (rd u161 (0 + i5.toNat)) 0)), (V.int .i64 (gi (rd u161 (0 + i5.toNat)) 1)), (V.int .i64 (gi (rd u161 (0 + i5.toNat)) 2)), (V.int .i64 (IntKind.i64.wrap ((IntKind.i64.wrap ((IntKind.i64.wrap (k1 + 1)) + 1)) + 1))), (V.inl t_byte (gl (rd u161 (0 + i5.toNat)) 4)), (V.inl t_byte (gl (rd u161 (0 + i5.toNat)) 5)), (V.int .i64 (gi (rd u161 (0 + i5.toNat)) 6))]))) fun u162 =>
              bif (idxOk i5 u162.length) then
                Option.bind (laws_markByteS (gl (rd u162 (0 + i5.toNat)) 4) (IntKind.i64.wrap ((IntKind.i64.wrap ((IntKind.i64.wrap ((IntKind.i64.wrap (k1 + 1)) + 1)) + 1)) + 1))) fun r164 =>
                bif (idxOk i5 u162.length) then
                  rlet ((u162.set (0 + i5.toNat) (V.agg [(V.int .i64 (gi (rd u162 (0 + i5.toNat)) 0)), (V.int .i64 (gi (rd u162 (0 + i5.toNat)) 1)), (V.int .i64 (gi (rd u162 (0 + i5.toNat)) 2)), (V.int .i64 (gi (rd u162 (0 + i5.toNat)) 3)), (V.inl t_byte r164.2), (V.inl t_byte (gl (rd u162 (0 + i5.toNat)) 5)), (V.int .i64 (gi (rd u162 (0 + i5.toNat)) 6))]))) fun u165 =>
                  Option.bind (laws_markByteS (gl (rd u165 (0 + i5.toNat)) 5) r164.1) fun r166 =>
                  bif (idxOk i5 u165.length) then
                    rlet ((u165.set (0 + i5.toNat) (V.agg [(V.int .i64 (gi (rd u165 (0 + i5.toNat)) 0)), (V.int .i64 (gi (rd u165 (0 + i5.toNat)) 1)), (V.int .i64 (gi (rd u165 (0 + i5.toNat)) 2)), (V.int .i64 (gi (rd u165 (0 + i5.toNat)) 3)), (V.inl t_byte (gl (rd u165 (0 + i5.toNat)) 4)), (V.inl t_byte r166.2), (V.int .i64 (gi (rd u165 (0 + i5.toNat)) 6))]))) fun u167 =>
                    rlet ((u167.set (0 + i5.toNat) (V.agg [(V.int .i64 (gi (rd u167 (0 + i5.toNat)) 0)), (V.int .i64 (gi (rd u167 (0 + i5.toNat)) 1)), (V.int .i64 (gi (rd u167 (0 + i5.toNat)) 2)), (V.int .i64 (gi (rd u167 (0 + i5.toNat)) 3)), (V.inl t_byte (gl (rd u167 (0 + i5.toNat)) 4)), (V.inl t_byte (gl (rd u167 (0 + i5.toNat)) 5)), (V.int .i64 r166.1)]))) fun u168 =>
                    laws_markItemS_l2 k_ (IntKind.i64.wrap (r166.1 + 1)) (IntKind.i64.wrap (i5 + 1)) u168
                  else none
                else none
              else none
            else none
          else none
        else none
      else none
    else some (k1, r0)
def laws_markItemS (a : List V) (k : Int) : Option (Int × List V) :=
  Option.bind (laws_markItemS_l2 ((((a.length : Nat) : Int) - 0).toNat + 1) k 0 a) fun r169 =>
  some (r169.1, r169.2)
def laws_markBoolS_l2 : Nat → Int → Int → List V → Option (Int × List V)
  | 0, _, _, _ => none
  | k_ + 1, k1, i5, r0 =>
    bif (decide (i5 < ((r0.length : Nat) : Int))) then
      bif (idxOk i5 r0.length) then
        laws_markBoolS_l2 k_ (IntKind.i64.wrap (k1 + 1)) (IntKind.i64.wrap (i5 + 1)) (r0.set (0 + i5.toNat) (V.bool (decide ((k1.tmod 3) = 0))))
      else none
    else some (k1, r0)
def laws_markBoolS (a : List V) (k : Int) : Option (Int × List V) :=
  Option.bind (laws_markBoolS_l2 ((((a.length : Nat) : Int) - 0).toNat + 1) k 0 a) fun r171 =>
  some (r171.1, r171.2)
def laws_markIntS_l2 : Nat → Int → Int → List V → Option (Int × List V)
  | 0, _, _, _ => none
  | k_ + 1, k1, i5, r0 =>
    bif (decide (i5 < ((r0.length : Nat) : Int))) then
      bif (idxOk i5 r0.length) then
        laws_markIntS_l2 k_ (IntKind.i64.wrap (k1 + 1)) (IntKind.i64.wrap (i5 + 1)) (r0.set (0 + i5.toNat) (V.int .i64 k1))
      else none
    else some (k1, r0)
def laws_markIntS (a : List V) (k : Int) : Option (Int × List V) :=
  Option.bind (laws_markIntS_l2 ((((a.length : Nat) : Int) - 0).toNat + 1) k 0 a) fun r173 =>
  some (r173.1, r173.2)
def laws_markNode (a : V) (k : Int) : Option (Int × List V × List V × List V × List V) :=
  Option.bind (laws_markItemS (gl a 3) k) fun r170 =>
  Option.bind (laws_markBoolS (gl a 8) r170.1) fun r172 =>
  Option.bind (laws_markIntS (gl a 9) r172.1) fun r174 =>
  Option.bind (laws_markIntS (gl a 10) r174.1) fun r175 =>
  some (r175.1, r170.2, r172.2, r174.2, r175.2)
def laws_markMsgS_l2 : Nat → Int → Int → List V → Option (Int × List V)
  | 0, _, _, _ => none
  | k_ + 1, k1, i5, r0 =>
    bif (decide (i5 < ((r0.length : Nat) : Int))) then
      bif (idxOk i5 r0.length) then
        rlet ((r0.set (0 + i5.toNat) (V.agg [(V.int .i64 k1), (V.int .i64 (gi (rd r0 (0 + i5.toNat)) 1)), (V.int .i64 (gi (rd r0 (0 + i5.toNat)) 2)), (V.int .i64 (gi (rd r0 (0 + i5.toNat)) 3)), (V.int .i64 (gi (rd r0 (0 + i5.toNat)) 4)), (V.int .i64 (gi (rd r0 (0 + i5.toNat)) 5)), (V.inl t_impl_Item (gl (rd r0 (0 + i5.toNat)) 6)), (V.int .i64 (gi (rd r0 (0 + i5.toNat)) 7)), (V.bool (gb (rd r0 (0 + i5.toNat)) 8))]))) fun u180 =>
        bif (idxOk i5 u180.length) then
          rlet ((u180.set (0 + i5.toNat) (V.agg [(V.int .i64 (gi (rd u180 (0 + i5.toNat)) 0)), (V.int .i64 (IntKind.i64.wrap (k1 + 1))), (V.int .i64 (gi (rd u180 (0 + i5.toNat)) 2)), (V.int .i64 (gi (rd u180 (0 + i5.toNat)) 3)), (V.int .i64 (gi (rd u180 (0 + i5.toNat)) 4)), (V.int .i64 (gi (rd u180 (0 + i5.toNat)) 5)), (V.inl t_impl_Item (gl (rd u180 (0 + i5.toNat)) 6)), (V.int .i64 (gi (rd u180 (0 + i5.toNat)) 7)), (V.bool (gb (rd u180 (0 + i5.toNat)) 8))]))) fun u181 =>
          bif (idxOk i5 u181.length) then
            rlet ((u181.set (0 + i5.toNat) (V.agg [(V.int .i64 (gi (rd u181 (0 + i5.toNat)) 0)), (V.int .i64 (gi (rd u181 (0 + i5.toNat)) 1)), (V.int .i64 (IntKind.i64.wrap ((IntKind.i64.wrap (k1 + 1)) + 1))), (V.int .i64 (gi (rd u181 (0 + i5.toNat)) 3)), (V.int .i64 (gi (rd u181 (0 + i5.toNat)) 4)), (V.int .i64 (gi (rd u181 (0 + i5.toNat)) 5)), (V.inl t_impl_Item (gl (rd u181 (0 + i5.toNat)) 6)), (V.int .i64 (gi (rd u181 (0 + i5.toNat)) 7)), (V.bool (gb (rd u181 (0 + i5.toNat)) 8))]))) fun u182 =>
            bif (idxOk i5 u182.length) then
              rlet ((u182.set (0 + i5.toNat) (V.agg [(V.int .i64 (gi (rd u182 (0 + i5.toNat)) 0)), (V.int .i64 (gi (rd u182 (0 + i5.toNat)) 1)), (V.int .i64 (gi (rd u182 (0 + i5.toNat)) 2)), (V.int .i64 (IntKind.i64.wrap ((IntKind.i64.wrap ((IntKind.i64.wrap (k1 + 1)) + 1)) + 1))), (V.int .i64 (gi (rd u182 (0 + i5.toNat)) 4)), (V.int .i64 (gi (rd u182 (0 + i5.toNat)) 5)), (V.inl t_impl_Item (gl (rd u182 (0 + i5.toNat)) 6)), (V.int .i64 (gi (rd u182 (0 + i5.toNat)) 7)), (V.bool (gb (rd u182 (0 + i5.toNat)) 8))]))) fun u183 =>
              bif (idxOk i5 u183.length) then
                rlet ((u183.set (0 + i5.toNat) (V.agg [(V.int .i64 (gi (rd u183 (0 + i5.toNat)) 0)), (V.int .i64 (gi (rd u183 (0 + i5.toNat)) 1)), (V.int .i64 (gi (rd u183 (0 + i5.toNat)) 2)), (V.int .i64 (gi (rd u183 (0 + i5.toNat)) 3)), (V.int .i64 (IntKind.i64.wrap ((IntKind.i64.wrap ((IntKind.i64.wrap ((IntKind.i64.wrap (k1 + 1)) + 1)) + 1)) + 1))), (V.int .i64 (gi (rd u183 (0 + i5.toNat)) 5)), (V.inl t_impl_Item (gl (rd u183 (0 + i5.toNat)) 6)), (V.int .i64 (gi (rd u183 (0 + i5.toNat)) 7)), (V.bool (gb (rd u183 (0 + i5.toNat)) 8))]))) fun u184 =>
                bif (idxOk i5 u184.length) then
                  rlet ((u184.set (0 + i5.toNat) (V.agg [(V.int .i64 (gi (rd u184 (0 + i5.toNat)) 0)), (V.int .i64 (gi (rd u184 (0 + i5.toNat)) 1)), (V.int .i64 (gi (rd u184 (0 + i5.toNat)) 2)), (V.int .i64 (gi (rd u184 (0 + i5.toNat)) 3)), (V.int .i64 (gi (rd u184 (0 + i5.toNat)) 4)), (V.int .i64 (IntKind.i64.wrap ((IntKind.i64.wrap ((IntKind.i64.wrap ((IntKind.i64.wrap ((IntKind.i64.wrap (k1 + 1)) + 1)) + 1)) + 1)) + 1))), (V.inl t_impl_Item (gl (rd u184 (0 + i5.toNat)) 6)), (V.int .i64 (gi (rd u184 (0 + i5.toNat)) 7)), (V.bool (gb (rd u184 (0 + i5.toNat)) 8))]))) fun u185 =>
                  bif (idxOk i5 u185.length) then
                    Option.bind (laws_markItemS (gl (rd u185 (0 + i5.toNat)) 6) (IntKind.i64.wrap ((IntKind.i64.wrap ((IntKind.i64.wrap ((IntKind.i64.wrap ((IntKind.i64.wrap ((IntKind.i64.wrap (k1 + 1)) + 1)) + 1)) + 1)) + 1)) + 1))) fun r186 =>
                    bif (idxOk i5 u185.length) then
                      rlet ((u185.set (0 + i5.toNat) (V.agg [(V.int .i64 (gi (rd u185 (0 + i5.toNat)) 0)), (V.int .i64 (gi (rd u185 (0 + i5.toNat)) 1)), (V.int .i64 (gi (rd u185 (0 + i5.toNat)) 2)), (V.int .i64 (gi (rd u185 (0 + i5.toNat)) 3)), (V.int .i64 (gi (rd u185 (0 + i5.toNat)) 4)), (V.int .i64 (gi (rd u185 (0 + i5.toNat)) 5)), (V.inl t_impl_Item r186.2), (V.int .i64 (gi (rd u185 (0 + i5.toNat)) 7)), (V.bool (gb (rd u185 (0 + i5.toNat)) 8))]))) fun u187 =>
                      rlet ((u187.set (0 + i5.toNat) (V.agg [(V.int .i64 (gi (rd u187 (0 + i5.toNat)) 0)), (V.int .i64 (gi (rd u187 (0 + i5.toNat)) 1)), (V.int .i64 (gi (rd u187 (0 + i5.toNat)) 2)), (V.int .i64 (gi (rd u187 (0 + i5.toNat)) 3)), (V.int .i64 (gi (rd u187 (0 + i5.toNat)) 4)), (V.int .i64 (gi (rd u187 (0 + i5.toNat)) 5)), (V.inl t_impl_Item (gl (rd u187 (0 + i5.toNat)) 6)), (V.int .i64 r186.1), (V.bool (gb (rd u187 (0 + i5.toNat)) 8))]))) fun u188 =>
                      bif (idxOk i5 u188.length) then
                        rlet ((u188.set (0 + i5.toNat) (V.agg [(V.int .i64 (gi (rd u188 (0 + i5.toNat)) 0)), (V.int .i64 (gi (rd u188 (0 + i5.toNat)) 1)), (V.int .i64 (gi (rd u188 (0 + i5.toNat)) 2)), (V.int .i64 (gi (rd u188 (0 + i5.toNat)) 3)), (V.int .i64 (gi (rd u188 (0 + i5.toNat)) 4)), (V.int .i64 (gi (rd u188 (0 + i5.toNat)) 5)), (V.inl t_impl_Item (gl (rd u188 (0 + i5.toNat)) 6)), (V.int .i64 (gi (rd u188 (0 + i5.toNat)) 7)), (V.bool (decide (((IntKind.i64.wrap (r186.1 + 1)).tmod 3) = 0)))]))) fun u189 =>
                        laws_markMsgS_l2 k_ (IntKind.i64.wrap ((IntKind.i64.wrap (r186.1 + 1)) + 1)) (IntKind.i64.wrap (i5 + 1)) u189
                      else none
                    else none
                  else none
                else none
              else none
            else none
          else none
        else none
      else none
    else some (k1, r0)
def laws_markMsgS (a : List V) (k : Int) : Option (Int × List V) :=
  Option.bind (laws_markMsgS_l2 ((((a.length : Nat) : Int) - 0).toNat + 1) k 0 a) fun r190 =>
  some (r190.1, r190.2)
def laws_heldByteS_l2 : Nat → List V → Int → Int → Option (Nat × Int × Int)
  | 0, _, _, _ => none
  | k_ + 1, a0, k1, i5 =>
    bif (decide (i5 < ((a0.length : Nat) : Int))) then
      bif (idxOk i5 a0.length) then
        bif (!(decide ((gi (rd a0 i5.toNat) 0) = (IntKind.u8.wrap k1)))) then
          some (0, k1, -1)
        else laws_heldByteS_l2 k_ a0 (IntKind.i64.wrap (k1 + 1)) (IntKind.i64.wrap (i5 + 1))
      else none
    else some (1, k1, 0)
def laws_heldByteS (a : List V) (k : Int) : Option (Int) :=
  Option.bind (laws_heldByteS_l2 ((((a.length : Nat) : Int) - 0).toNat + 1) a k 0) fun r192 =>
  bif (Nat.beq r192.1 0) then
    some r192.2.2
  else some r192.2.1
def laws_heldItemS_l2 : Nat → List V → Int → Int → Option (Nat × Int × Int)
  | 0, _, _, _ => none
  | k_ + 1, a0, k1, i5 =>
    bif (decide (i5 < ((a0.length : Nat) : Int))) then
      bif (idxOk i5 a0.length) then
        bif (!(decide ((gi (rd a0 i5.toNat) 0) = k1))) then
          some (0, k1, -1)
        else bif (idxOk i5 a0.length) then
          bif (!(decide ((gi (rd a0 i5.toNat) 1) = (IntKind.i64.wrap (k1 + 1))))) then
            some (0, (IntKind.i64.wrap (k1 + 1)), -1)
          else bif (idxOk i5 a0.length) then
            bif (!(decide ((gi (rd a0 i5.toNat) 2) = (IntKind.i64.wrap ((IntKind.i64.wrap (k1 + 1)) + 1))))) then
              some (0, (IntKind.i64.wrap ((IntKind.i64.wrap (k1 + 1)) + 1)), -1)
            else bif (idxOk i5 a0.length) then
              bif (!(decide ((gi (rd a0 i5.toNat) 3) = (IntKind.i64.wrap ((IntKind.i64.wrap ((IntKind.i64.wrap (k1 + 1)) + 1)) + 1))))) then
                some (0, (IntKind.i64.wrap ((IntKind.i64.wrap ((IntKind.i64.wrap (k1 + 1)) + 1)) + 1)), -1)
              else bif (idxOk i5 a0.length) then
                Option.bind (laws_heldByteS (gl (rd a0 i5.toNat) 4) (IntKind.i64.wrap ((IntKind.i64.wrap ((IntKind.i64.wrap ((IntKind.i64.wrap (k1 + 1)) + 1)) + 1)) + 1))) fun r193 =>
                bif (decide (r193 < 0)) then
                  some (0, r193, -1)
                else bif (idxOk i5 a0.length) then
                  Option.bind (laws_heldByteS (gl (rd a0 i5.toNat) 5) r193) fun r194 =>
                  bif (decide (r194 < 0)) then
                    some (0, r194, -1)
                  else bif (idxOk i5 a0.length) then
                    bif (!(decide ((gi (rd a0 i5.toNat) 6) = r194))) then
                      some (0, r194, -1)
                    else laws_heldItemS_l2 k_ a0 (IntKind.i64.wrap (r194 + 1)) (IntKind.i64.wrap (i5 + 1))
                  else none
                else none
              else none
            else none
          else none
        else none
      else none
    else some (1, k1, 0)
def laws_heldItemS (a : List V) (k : Int) : Option (Int) :=
  Option.bind (laws_heldItemS_l2 ((((a.length : Nat) : Int) - 0).toNat + 1) a k 0) fun r195 =>
  bif (Nat.beq r195.1 0) then
    some r195.2.2
  else some r195.2.1
def laws_heldBoolS_l2 : Nat → List V → Int → Int → Option (Nat × Int × Int)
  | 0, _, _, _ => none
  | k_ + 1, a0, k1, i5 =>
    bif (decide (i5 < ((a0.length : Nat) : Int))) then
      bif (idxOk i5 a0.length) then
        bif (!((gb (rd a0 i5.toNat) 0) == (decide ((k1.tmod 3) = 0)))) then
          some (0, k1, -1)
        else laws_heldBoolS_l2 k_ a0 (IntKind.i64.wrap (k1 + 1)) (IntKind.i64.wrap (i5 + 1))
      else none
    else some (1, k1, 0)
def laws_heldBoolS (a : List V) (k : Int) : Option (Int) :=
  Option.bind (laws_heldBoolS_l2 ((((a.length : Nat) : Int) - 0).toNat + 1) a k 0) fun r197 =>
  bif (Nat.beq r197.1 0) then
    some r197.2.2
  else some r197.2.1
def laws_heldIntS_l2 : Nat → List V → Int → Int → Option (Nat × Int × Int)
  | 0, _, _, _ => none
  | k_ + 1, a0, k1, i5 =>
    bif (decide (i5 < ((a0.length : Nat) : Int))) then
      bif (idxOk i5 a0.length) then
        bif (!(decide ((gi (rd a0 i5.toNat) 0) = k1))) then
          some (0, k1, -1)
        else laws_heldIntS_l2 k_ a0 (IntKind.i64.wrap (k1 + 1)) (IntKind.i64.wrap (i5 + 1))
      else none
    else some (1, k1, 0)
def laws_heldIntS (a : List V) (k : Int) : Option (Int) :=
  Option.bind (laws_heldIntS_l2 ((((a.length : Nat) : Int) - 0).toNat + 1) a k 0) fun r199 =>
  bif (Nat.beq r199.1 0) then
    some r199.2.2
  else some r199.2.1
def laws_heldNode (a : V) (k : Int) : Option (Int) :=
  Option.bind (laws_heldItemS (gl a 3) k) fun r196 =>
  bif (decide (r196 < 0)) then
    some (-1)
  else Option.bind (laws_heldBoolS (gl a 8) r196) fun r198 =>
  bif (decide (r198 < 0)) then
    some (-1)
  else Option.bind (laws_heldIntS (gl a 9) r198) fun r200 =>
  bif (decide (r200 < 0)) then
    some (-1)
  else Option.bind (laws_heldIntS (gl a 10) r200) fun r201 =>
  bif (decide (r201 < 0)) then
    some (-1)
  else some r201
def laws_heldMsgS_l2 : Nat → List V → Int → Int → Option (Nat × Int × Int)
  | 0, _, _, _ => none
  | k_ + 1, a0, k1, i5 =>
    bif (decide (i5 < ((a0.length : Nat) : Int))) then
      bif (idxOk i5 a0.length) then
        bif (!(decide ((gi (rd a0 i5.toNat) 0) = k1))) then
          some (0, k1, -1)
        else bif (idxOk i5 a0.length) then
          bif (!(decide ((gi (rd a0 i5.toNat) 1) = (IntKind.i64.wrap (k1 + 1))))) then
            some (0, (IntKind.i64.wrap (k1 + 1)), -1)
          else bif (idxOk i5 a0.length) then
            bif (!(decide ((gi (rd a0 i5.toNat) 2) = (IntKind.i64.wrap ((IntKind.i64.wrap (k1 + 1)) + 1))))) then
              some (0, (IntKind.i64.wrap ((IntKind.i64.wrap (k1 + 1)) + 1)), -1)
            else bif (idxOk i5 a0.length) then
              bif (!(decide ((gi (rd a0 i5.toNat) 3) = (IntKind.i64.wrap ((IntKind.i64.wrap ((IntKind.i64.wrap (k1 + 1)) + 1)) + 1))))) then
                some (0, (IntKind.i64.wrap ((IntKind.i64.wrap ((IntKind.i64.wrap (k1 + 1)) + 1)) + 1)), -1)
              else bif (idxOk i5 a0.length) then
                bif (!(decide ((gi (rd a0 i5.toNat) 4) = (IntKind.i64.wrap ((IntKind.i64.wrap ((IntKind.i64.wrap ((IntKind.i64.wrap (k1 + 1)) + 1)) + 1)) + 1))))) then
                  some (0, (IntKind.i64.wrap ((IntKind.i64.wrap ((IntKind.i64.wrap ((IntKind.i64.wrap (k1 + 1)) + 1)) + 1)) + 1)), -1)
                else bif (idxOk i5 a0.length) then
                  bif (!(decide ((gi (rd a0 i5.toNat) 5) = (IntKind.i64.wrap ((IntKind.i64.wrap ((IntKind.i64.wrap ((IntKind.i64.wrap ((IntKind.i64.wrap (k1 + 1)) + 1)) + 1)) + 1)) + 1))))) then
                    some (0, (IntKind.i64.wrap ((IntKind.i64.wrap ((IntKind.i64.wrap ((IntKind.i64.wrap ((IntKind.i64.wrap (k1 + 1)) + 1)) + 1)) + 1)) + 1)), -1)
                  else bif (idxOk i5 a0.length) then
                    Option.bind (laws_heldItemS (gl (rd a0 i5.toNat) 6) (IntKind.i64.wrap ((IntKind.i64.wrap ((IntKind.i64.wrap ((IntKind.i64.wrap ((IntKind.i64.wrap ((IntKind.i64.wrap (k1 + 1)) + 1)) + 1)) + 1)) + 1)) + 1))) fun r203 =>
                    bif (decide (r203 < 0)) then
                      some (0, r203, -1)
                    else bif (idxOk i5 a0.length) then
                      bif (!(decide ((gi (rd a0 i5.toNat) 7) = r203))) then
                        some (0, r203, -1)
                      else bif (idxOk i5 a0.length) then
                        bif (!((gb (rd a0 i5.toNat) 8) == (decide (((IntKind.i64.wrap (r203 + 1)).tmod 3) = 0)))) then
                          some (0, (IntKind.i64.wrap (r203 + 1)), -1)
                        else laws_heldMsgS_l2 k_ a0 (IntKind.i64.wrap ((IntKind.i64.wrap (r203 + 1)) + 1)) (IntKind.i64.wrap (i5 + 1))
                      else none
                    else none
                  else none
                else none
              else none
            else none
          else none
        else none
      else none
    else some (1, k1, 0)
def laws_heldMsgS (a : List V) (k : Int) : Option (Int) :=
  Option.bind (laws_heldMsgS_l2 ((((a.length : Nat) : Int) - 0).toNat + 1) a k 0) fun r204 =>
  bif (Nat.beq r204.1 0) then
    some r204.2.2
  else some r204.2.1
def laws_FnExactTick (aN : V) (aServers : Int) : Option (Bool) :=
  Option.bind (laws_szNode (n_laws_Node aN) 1048576) fun r3 =>
  bif (decide (r3 < 0)) then
    some true
  else Option.bind (laws_toNode (n_laws_Node aN)) fun r17 =>
  Option.bind (spec_Tick (n_impl_Node r17) aServers) fun r80 =>
  Option.bind (laws_toNode (n_laws_Node aN)) fun r81 =>
  Option.bind (impl_Tick (n_impl_Node r81) aServers) fun r138 =>
  Option.bind (laws_eqNode (n_impl_Node r138.1) (n_impl_Node r80.1)) fun r152 =>
  bif (!r152) then
    some false
  else Option.bind (laws_eqMsgS r138.2 r80.2) fun r156 =>
  bif (!r156) then
    some false
  else Option.bind (laws_toNode (n_laws_Node aN)) fun r157 =>
  Option.bind (laws_eqNode (n_impl_Node r81) (n_impl_Node r157)) fun r158 =>
  bif (!r158) then
    some false
  else Option.bind (laws_markNode (n_impl_Node r81) 1) fun r176 =>
  bif (decide (r176.1 < 0)) then
    some false
  else Option.bind (laws_eqNode (n_impl_Node r138.1) (n_impl_Node r80.1)) fun r177 =>
  bif (!r177) then
    some false
  else Option.bind (laws_eqMsgS r138.2 r80.2) fun r178 =>
  bif (!r178) then
    some false
  else Option.bind (laws_markNode (n_impl_Node r138.1) 1) fun r179 =>
  Option.bind (laws_markMsgS r138.2 r179.1) fun r191 =>
  Option.bind (laws_heldNode (V.agg [(V.int .i64 (gi r138.1 0)), (V.int .i64 (gi r138.1 1)), (V.int .i64 (gi r138.1 2)), (V.inl t_impl_Item r179.2.1), (V.int .i64 (gi r138.1 4)), (V.int .i64 (gi r138.1 5)), (V.int .i64 (gi r138.1 6)), (V.int .i64 (gi r138.1 7)), (V.inl t_bool r179.2.2.1), (V.inl t_int' r179.2.2.2.1), (V.inl t_int' r179.2.2.2.2)]) 1) fun r202 =>
  bif (decide (r202 < 0)) then
    some false
  else Option.bind (laws_heldMsgS r191.2 r202) fun r205 =>
  bif (decide (r205 < 0)) then
    some false
  else bif (!(decide (r205 = r191.1))) then
    some false
  else Option.bind (laws_toNode (n_laws_Node aN)) fun r206 =>
  Option.bind (impl_Tick (n_impl_Node r206) aServers) fun r207 =>
  Option.bind (laws_eqNode (n_impl_Node r207.1) (n_impl_Node r80.1)) fun r208 =>
  bif (!r208) then
    some false
  else Option.bind (laws_eqMsgS r207.2 r80.2) fun r209 =>
  bif (!r209) then
    some false
  else Option.bind (laws_heldNode (V.agg [(V.int .i64 (gi r138.1 0)), (V.int .i64 (gi r138.1 1)), (V.int .i64 (gi r138.1 2)), (V.inl t_impl_Item r179.2.1), (V.int .i64 (gi r138.1 4)), (V.int .i64 (gi r138.1 5)), (V.int .i64 (gi r138.1 6)), (V.int .i64 (gi r138.1 7)), (V.inl t_bool r179.2.2.1), (V.inl t_int' r179.2.2.2.1), (V.inl t_int' r179.2.2.2.2)]) 1) fun r210 =>
  bif (decide (r210 < 0)) then
    some false
  else Option.bind (laws_heldMsgS r191.2 r210) fun r211 =>
  bif (decide (r211 < 0)) then
    some false
  else bif (!(decide (r211 = r191.1))) then
    some false
  else some true
end Go.Eng.R
open Go Go.Eng Go.Proofs
namespace Go.Eng.R
theorem tab_ok : TabOk Try.prog tab := tabB_spec (by kernel_rfl)
theorem mixed : Try.prog.follows .mixedOrders = true := by kernel_rfl
theorem base : Base Try.prog tab := ⟨tab_ok, mixed⟩
theorem f6_en : Enters Try.prog 6 := enters_of (fn := Try.f6) Try.func6 (by kernel_rfl)
theorem f8_en : Enters Try.prog 8 := enters_of (fn := Try.f8) Try.func8 (by kernel_rfl)
theorem f10_en : Enters Try.prog 10 := enters_of (fn := Try.f10) Try.func10 (by kernel_rfl)
theorem f12_en : Enters Try.prog 12 := enters_of (fn := Try.f12) Try.func12 (by kernel_rfl)
theorem f13_en : Enters Try.prog 13 := enters_of (fn := Try.f13) Try.func13 (by kernel_rfl)
theorem f14_en : Enters Try.prog 14 := enters_of (fn := Try.f14) Try.func14 (by kernel_rfl)
theorem f17_en : Enters Try.prog 17 := enters_of (fn := Try.f17) Try.func17 (by kernel_rfl)
theorem f20_en : Enters Try.prog 20 := enters_of (fn := Try.f20) Try.func20 (by kernel_rfl)
theorem f22_en : Enters Try.prog 22 := enters_of (fn := Try.f22) Try.func22 (by kernel_rfl)
theorem f24_en : Enters Try.prog 24 := enters_of (fn := Try.f24) Try.func24 (by kernel_rfl)
theorem f25_en : Enters Try.prog 25 := enters_of (fn := Try.f25) Try.func25 (by kernel_rfl)
theorem f27_en : Enters Try.prog 27 := enters_of (fn := Try.f27) Try.func27 (by kernel_rfl)
theorem f28_en : Enters Try.prog 28 := enters_of (fn := Try.f28) Try.func28 (by kernel_rfl)
theorem f29_en : Enters Try.prog 29 := enters_of (fn := Try.f29) Try.func29 (by kernel_rfl)
theorem f30_en : Enters Try.prog 30 := enters_of (fn := Try.f30) Try.func30 (by kernel_rfl)
theorem f33_en : Enters Try.prog 33 := enters_of (fn := Try.f33) Try.func33 (by kernel_rfl)
theorem f35_en : Enters Try.prog 35 := enters_of (fn := Try.f35) Try.func35 (by kernel_rfl)
theorem f38_en : Enters Try.prog 38 := enters_of (fn := Try.f38) Try.func38 (by kernel_rfl)
theorem f39_en : Enters Try.prog 39 := enters_of (fn := Try.f39) Try.func39 (by kernel_rfl)
theorem f40_en : Enters Try.prog 40 := enters_of (fn := Try.f40) Try.func40 (by kernel_rfl)
theorem f42_en : Enters Try.prog 42 := enters_of (fn := Try.f42) Try.func42 (by kernel_rfl)
theorem f43_en : Enters Try.prog 43 := enters_of (fn := Try.f43) Try.func43 (by kernel_rfl)
theorem f44_en : Enters Try.prog 44 := enters_of (fn := Try.f44) Try.func44 (by kernel_rfl)
theorem f45_en : Enters Try.prog 45 := enters_of (fn := Try.f45) Try.func45 (by kernel_rfl)
theorem f47_en : Enters Try.prog 47 := enters_of (fn := Try.f47) Try.func47 (by kernel_rfl)
theorem f48_en : Enters Try.prog 48 := enters_of (fn := Try.f48) Try.func48 (by kernel_rfl)
theorem f49_en : Enters Try.prog 49 := enters_of (fn := Try.f49) Try.func49 (by kernel_rfl)
theorem f50_en : Enters Try.prog 50 := enters_of (fn := Try.f50) Try.func50 (by kernel_rfl)
theorem f51_en : Enters Try.prog 51 := enters_of (fn := Try.f51) Try.func51 (by kernel_rfl)
theorem f52_en : Enters Try.prog 52 := enters_of (fn := Try.f52) Try.func52 (by kernel_rfl)
theorem f53_en : Enters Try.prog 53 := enters_of (fn := Try.f53) Try.func53 (by kernel_rfl)
theorem f54_en : Enters Try.prog 54 := enters_of (fn := Try.f54) Try.func54 (by kernel_rfl)
theorem f55_en : Enters Try.prog 55 := enters_of (fn := Try.f55) Try.func55 (by kernel_rfl)
theorem f56_en : Enters Try.prog 56 := enters_of (fn := Try.f56) Try.func56 (by kernel_rfl)
theorem f57_en : Enters Try.prog 57 := enters_of (fn := Try.f57) Try.func57 (by kernel_rfl)
theorem f58_en : Enters Try.prog 58 := enters_of (fn := Try.f58) Try.func58 (by kernel_rfl)
theorem f61_en : Enters Try.prog 61 := enters_of (fn := Try.f61) Try.func61 (by kernel_rfl)
theorem f62_en : Enters Try.prog 62 := enters_of (fn := Try.f62) Try.func62 (by kernel_rfl)
theorem f63_en : Enters Try.prog 63 := enters_of (fn := Try.f63) Try.func63 (by kernel_rfl)
theorem f64_en : Enters Try.prog 64 := enters_of (fn := Try.f64) Try.func64 (by kernel_rfl)
theorem f65_en : Enters Try.prog 65 := enters_of (fn := Try.f65) Try.func65 (by kernel_rfl)
theorem f67_en : Enters Try.prog 67 := enters_of (fn := Try.f67) Try.func67 (by kernel_rfl)
theorem f68_en : Enters Try.prog 68 := enters_of (fn := Try.f68) Try.func68 (by kernel_rfl)
theorem f69_en : Enters Try.prog 69 := enters_of (fn := Try.f69) Try.func69 (by kernel_rfl)
theorem f71_en : Enters Try.prog 71 := enters_of (fn := Try.f71) Try.func71 (by kernel_rfl)
theorem f73_en : Enters Try.prog 73 := enters_of (fn := Try.f73) Try.func73 (by kernel_rfl)
theorem f74_en : Enters Try.prog 74 := enters_of (fn := Try.f74) Try.func74 (by kernel_rfl)
theorem f81_en : Enters Try.prog 81 := enters_of (fn := Try.f81) Try.func81 (by kernel_rfl)
theorem f83_en : Enters Try.prog 83 := enters_of (fn := Try.f83) Try.func83 (by kernel_rfl)
theorem f84_en : Enters Try.prog 84 := enters_of (fn := Try.f84) Try.func84 (by kernel_rfl)
theorem f85_en : Enters Try.prog 85 := enters_of (fn := Try.f85) Try.func85 (by kernel_rfl)
theorem f86_en : Enters Try.prog 86 := enters_of (fn := Try.f86) Try.func86 (by kernel_rfl)
theorem f89_en : Enters Try.prog 89 := enters_of (fn := Try.f89) Try.func89 (by kernel_rfl)
theorem f90_en : Enters Try.prog 90 := enters_of (fn := Try.f90) Try.func90 (by kernel_rfl)
theorem f91_en : Enters Try.prog 91 := enters_of (fn := Try.f91) Try.func91 (by kernel_rfl)
theorem f92_en : Enters Try.prog 92 := enters_of (fn := Try.f92) Try.func92 (by kernel_rfl)
theorem f94_en : Enters Try.prog 94 := enters_of (fn := Try.f94) Try.func94 (by kernel_rfl)
theorem f95_en : Enters Try.prog 95 := enters_of (fn := Try.f95) Try.func95 (by kernel_rfl)
theorem f96_en : Enters Try.prog 96 := enters_of (fn := Try.f96) Try.func96 (by kernel_rfl)
theorem f97_en : Enters Try.prog 97 := enters_of (fn := Try.f97) Try.func97 (by kernel_rfl)
theorem f98_en : Enters Try.prog 98 := enters_of (fn := Try.f98) Try.func98 (by kernel_rfl)
theorem f99_en : Enters Try.prog 99 := enters_of (fn := Try.f99) Try.func99 (by kernel_rfl)
theorem f100_en : Enters Try.prog 100 := enters_of (fn := Try.f100) Try.func100 (by kernel_rfl)
theorem f101_en : Enters Try.prog 101 := enters_of (fn := Try.f101) Try.func101 (by kernel_rfl)
theorem f103_en : Enters Try.prog 103 := enters_of (fn := Try.f103) Try.func103 (by kernel_rfl)
theorem f104_en : Enters Try.prog 104 := enters_of (fn := Try.f104) Try.func104 (by kernel_rfl)
theorem f105_en : Enters Try.prog 105 := enters_of (fn := Try.f105) Try.func105 (by kernel_rfl)
theorem f106_en : Enters Try.prog 106 := enters_of (fn := Try.f106) Try.func106 (by kernel_rfl)
theorem f107_en : Enters Try.prog 107 := enters_of (fn := Try.f107) Try.func107 (by kernel_rfl)
theorem f108_en : Enters Try.prog 108 := enters_of (fn := Try.f108) Try.func108 (by kernel_rfl)
theorem f109_en : Enters Try.prog 109 := enters_of (fn := Try.f109) Try.func109 (by kernel_rfl)
theorem f110_en : Enters Try.prog 110 := enters_of (fn := Try.f110) Try.func110 (by kernel_rfl)
theorem f111_en : Enters Try.prog 111 := enters_of (fn := Try.f111) Try.func111 (by kernel_rfl)
theorem f112_en : Enters Try.prog 112 := enters_of (fn := Try.f112) Try.func112 (by kernel_rfl)
theorem f113_en : Enters Try.prog 113 := enters_of (fn := Try.f113) Try.func113 (by kernel_rfl)
theorem f114_en : Enters Try.prog 114 := enters_of (fn := Try.f114) Try.func114 (by kernel_rfl)
theorem f115_en : Enters Try.prog 115 := enters_of (fn := Try.f115) Try.func115 (by kernel_rfl)
theorem f116_en : Enters Try.prog 116 := enters_of (fn := Try.f116) Try.func116 (by kernel_rfl)
theorem f117_en : Enters Try.prog 117 := enters_of (fn := Try.f117) Try.func117 (by kernel_rfl)
theorem f118_en : Enters Try.prog 118 := enters_of (fn := Try.f118) Try.func118 (by kernel_rfl)
theorem f119_en : Enters Try.prog 119 := enters_of (fn := Try.f119) Try.func119 (by kernel_rfl)
theorem f120_en : Enters Try.prog 120 := enters_of (fn := Try.f120) Try.func120 (by kernel_rfl)
theorem f121_en : Enters Try.prog 121 := enters_of (fn := Try.f121) Try.func121 (by kernel_rfl)
theorem f130_en : Enters Try.prog 130 := enters_of (fn := Try.f130) Try.func130 (by kernel_rfl)
theorem f132_en : Enters Try.prog 132 := enters_of (fn := Try.f132) Try.func132 (by kernel_rfl)
theorem f133_en : Enters Try.prog 133 := enters_of (fn := Try.f133) Try.func133 (by kernel_rfl)
theorem f134_en : Enters Try.prog 134 := enters_of (fn := Try.f134) Try.func134 (by kernel_rfl)
theorem f135_en : Enters Try.prog 135 := enters_of (fn := Try.f135) Try.func135 (by kernel_rfl)
theorem f136_en : Enters Try.prog 136 := enters_of (fn := Try.f136) Try.func136 (by kernel_rfl)
theorem f137_en : Enters Try.prog 137 := enters_of (fn := Try.f137) Try.func137 (by kernel_rfl)
theorem f138_en : Enters Try.prog 138 := enters_of (fn := Try.f138) Try.func138 (by kernel_rfl)
theorem f139_en : Enters Try.prog 139 := enters_of (fn := Try.f139) Try.func139 (by kernel_rfl)
theorem f140_en : Enters Try.prog 140 := enters_of (fn := Try.f140) Try.func140 (by kernel_rfl)
theorem f141_en : Enters Try.prog 141 := enters_of (fn := Try.f141) Try.func141 (by kernel_rfl)
theorem f144_en : Enters Try.prog 144 := enters_of (fn := Try.f144) Try.func144 (by kernel_rfl)
theorem f145_en : Enters Try.prog 145 := enters_of (fn := Try.f145) Try.func145 (by kernel_rfl)
def q0 : List S1 := [(.int .i64), (.inl t_byte), (.inl t_byte), (.int .i64)]
def q1 : List S1 := [(.int .i64), (.int .i64), (.int .i64), (.inl t_byte), (.inl t_byte), (.int .i64)]
def q2 : List S1 := [(.int .i64), (.int .i64), (.int .i64), (.int .i64), (.inl t_byte), (.inl t_byte), (.int .i64)]
def q3 : List S1 := [(.int .i64), (.int .i64), (.int .i64), (.inl t_laws_Item), (.int .i64), (.int .i64), (.int .i64), (.int .i64), (.inl t_bool), (.inl t_int'), (.inl t_int')]
def h4 (x : V) : V := V.agg [(V.int .i64 (gi x 0)), (V.rr t_byte true (gl x 1)), (V.rr t_byte true (gl x 2)), (V.int .i64 (gi x 3))]
def q5 : List S1 := [.dead, (.rr t_byte true), (.rr t_byte true), .dead]
def h6 (x : V) : V := V.agg [(V.int .i64 (gi x 0)), (V.int .i64 (gi x 1)), (V.int .i64 (gi x 2)), (V.rr t_byte true (gl x 3)), (V.rr t_byte true (gl x 4)), (V.int .i64 (gi x 5))]
def q7 : List S1 := [.dead, .dead, .dead, (.rr t_byte true), (.rr t_byte true), .dead]
def h8 (x : V) : V := V.agg [(V.int .i64 (gi x 0)), (V.int .i64 (gi x 1)), (V.int .i64 (gi x 2)), (V.int .i64 (gi x 3)), (V.rr t_byte true (gl x 4)), (V.rr t_byte true (gl x 5)), (V.int .i64 (gi x 6))]
def q9 : List S1 := [.dead, .dead, .dead, .dead, (.rr t_byte true), (.rr t_byte true), .dead]
def h10 (x : V) : V := V.agg [(V.int .i64 (gi x 0)), (V.int .i64 (gi x 1)), (V.int .i64 (gi x 2)), (V.rr t_impl_Item true (gl x 3)), (V.int .i64 (gi x 4)), (V.int .i64 (gi x 5)), (V.int .i64 (gi x 6)), (V.int .i64 (gi x 7)), (V.rr t_bool true (gl x 8)), (V.rr t_int' true (gl x 9)), (V.rr t_int' true (gl x 10))]
def q11 : List S1 := [.dead, .dead, .dead, (.rr t_impl_Item true), .dead, .dead, .dead, .dead, (.rr t_bool true), (.rr t_int' true), (.rr t_int' true)]
def l12 (x : V) : List V := [(V.int .i64 (gi x 0)), (V.int .i64 (gi x 1)), (V.int .i64 (gi x 2)), (V.inl t_impl_Item (gl x 3)), (V.int .i64 (gi x 4)), (V.int .i64 (gi x 5)), (V.int .i64 (gi x 6)), (V.int .i64 (gi x 7)), (V.inl t_bool (gl x 8)), (V.inl t_int' (gl x 9)), (V.inl t_int' (gl x 10))]
def q13 : List S1 := [(.int .i64), (.int .i64), (.int .i64), (.inl t_impl_Item), (.int .i64), (.int .i64), (.int .i64), (.int .i64), (.inl t_bool), (.inl t_int'), (.inl t_int')]
def l14 (x : V) : List V := [(V.int .i64 (gi x 0)), (V.int .i64 (gi x 1)), (V.int .i64 (gi x 2)), (V.sl 3 t_impl_Item 0 none), (V.int .i64 (gi x 4)), (V.int .i64 (gi x 5)), (V.int .i64 (gi x 6)), (V.int .i64 (gi x 7)), (V.sl 4 t_bool 0 none), (V.sl 5 t_int' 0 none), (V.sl 6 t_int' 0 none)]
def l15 (x : V) : List V := [(V.int .i64 (gi x 0)), (V.int .i64 (gi x 1)), (V.int .i64 (gi x 2)), (V.int .i64 (gi x 3)), (V.int .i64 (gi x 4)), (V.int .i64 (gi x 5)), (V.sl 7 t_impl_Item 0 none), (V.int .i64 (gi x 7)), (V.bool (gb x 8))]
def l16 (x : V) : List V := [(V.int .i64 (gi x 0)), (V.int .i64 (gi x 1)), (V.int .i64 (gi x 2)), (V.int .i64 (gi x 3)), (V.int .i64 (gi x 4)), (V.int .i64 (gi x 5)), (V.sl 8 t_impl_Item 0 none), (V.int .i64 (gi x 7)), (V.bool (gb x 8))]
def q17 : List S1 := [(.int .i64), (.int .i64), (.int .i64), (.sl 3 t_impl_Item), (.int .i64), (.int .i64), (.int .i64), (.int .i64), (.sl 4 t_bool), (.sl 5 t_int'), (.sl 6 t_int')]
def q18 : List S1 := [(.int .i64), (.int .i64), (.int .i64), (.int .i64), (.int .i64), (.int .i64), (.sl 7 t_impl_Item), (.int .i64), .bool]
def q19 : List S1 := [(.int .i64), (.int .i64), (.int .i64), (.int .i64), (.int .i64), (.int .i64), (.sl 8 t_impl_Item), (.int .i64), .bool]
def h20 (x : V) : V := V.agg [(V.int .i64 (gi x 0)), (V.int .i64 (gi x 1)), (V.int .i64 (gi x 2)), (V.int .i64 (gi x 3)), (V.int .i64 (gi x 4)), (V.int .i64 (gi x 5)), (V.rr t_impl_Item false (gl x 6)), (V.int .i64 (gi x 7)), (V.bool (gb x 8))]
def l21 (x : V) : List V := [(V.int .i64 (gi x 0)), (V.int .i64 (gi x 1)), (V.int .i64 (gi x 2)), (V.rr t_impl_Item true (gl x 3)), (V.int .i64 (gi x 4)), (V.int .i64 (gi x 5)), (V.int .i64 (gi x 6)), (V.int .i64 (gi x 7)), (V.rr t_bool true (gl x 8)), (V.rr t_int' true (gl x 9)), (V.rr t_int' true (gl x 10))]
def q22 : List S1 := [.dead, .dead, .dead, .dead, .dead, .dead, (.rr t_impl_Item false), .dead, .dead]
def h23 (x : V) : V := V.agg [(V.int .i64 (gi x 0)), (V.int .i64 (gi x 1)), (V.int .i64 (gi x 2)), (V.sl 3 t_impl_Item 0 none), (V.int .i64 (gi x 4)), (V.int .i64 (gi x 5)), (V.int .i64 (gi x 6)), (V.int .i64 (gi x 7)), (V.sl 4 t_bool 0 none), (V.sl 5 t_int' 0 none), (V.sl 6 t_int' 0 none)]
def q24 : List S1 := [(.int .i64), (.int .i64), (.int .i64), (.rr t_impl_Item true), (.int .i64), (.int .i64), (.int .i64), (.int .i64), (.rr t_bool true), (.rr t_int' true), (.rr t_int' true)]
def l25 (x : V) : List V := [(V.int .i64 (gi x 0)), (V.int .i64 (gi x 1)), (V.int .i64 (gi x 2)), (V.sl 2 t_impl_Item 0 none), (V.int .i64 (gi x 4)), (V.int .i64 (gi x 5)), (V.int .i64 (gi x 6)), (V.int .i64 (gi x 7)), (V.sl 3 t_bool 0 none), (V.sl 4 t_int' 0 none), (V.sl 5 t_int' 0 none)]
def q26 : List S1 := [(.int .i64), (.int .i64), (.int .i64), (.sl 2 t_impl_Item), (.int .i64), (.int .i64), (.int .i64), (.int .i64), (.sl 3 t_bool), (.sl 4 t_int'), (.sl 5 t_int')]
def h27 (x : V) : V := V.agg [(V.int .i64 (gi x 0)), (V.int .i64 (gi x 1)), (V.int .i64 (gi x 2)), (V.sl 2 t_impl_Item 0 none), (V.int .i64 (gi x 4)), (V.int .i64 (gi x 5)), (V.int .i64 (gi x 6)), (V.int .i64 (gi x 7)), (V.sl 3 t_bool 0 none), (V.sl 4 t_int' 0 none), (V.sl 5 t_int' 0 none)]
def l28 (x : V) : List V := [(V.int .i64 (gi x 0)), (V.int .i64 (gi x 1)), (V.int .i64 (gi x 2)), (V.sl 1 t_impl_Item 0 none), (V.int .i64 (gi x 4)), (V.int .i64 (gi x 5)), (V.int .i64 (gi x 6)), (V.int .i64 (gi x 7)), (V.sl 2 t_bool 0 none), (V.sl 3 t_int' 0 none), (V.sl 4 t_int' 0 none)]
def q29 : List S1 := [(.int .i64), (.int .i64), (.int .i64), (.sl 1 t_impl_Item), (.int .i64), (.int .i64), (.int .i64), (.int .i64), (.sl 2 t_bool), (.sl 3 t_int'), (.sl 4 t_int')]
def h30 (x : V) : V := V.agg [(V.int .i64 (gi x 0)), (V.int .i64 (gi x 1)), (V.int .i64 (gi x 2)), (V.sl 1 t_impl_Item 0 none), (V.int .i64 (gi x 4)), (V.int .i64 0), (V.int .i64 (gi x 6)), (V.int .i64 (gi x 7)), (V.sl 2 t_bool 0 none), (V.sl 3 t_int' 0 none), (V.sl 4 t_int' 0 none)]
def h31 (x : V) : V := V.agg [(V.int .i64 (gi x 0)), (V.int .i64 (gi x 1)), (V.int .i64 (gi x 2)), (V.sl 1 t_impl_Item 0 none), (V.int .i64 (gi x 4)), (V.int .i64 (gi x 5)), (V.int .i64 (gi x 6)), (V.int .i64 (gi x 7)), (V.sl 2 t_bool 0 none), (V.sl 3 t_int' 0 none), (V.sl 4 t_int' 0 none)]
def l32 (x : V) : List V := [(V.int .i64 (gi x 0)), (V.int .i64 (gi x 1)), (V.int .i64 (gi x 2)), (V.rr t_impl_Item true (gl x 3)), (V.int .i64 (gi x 4)), (V.int .i64 (gi x 5)), (V.int .i64 (gi x 6)), (V.int .i64 20), (V.rr t_bool true (gl x 8)), (V.rr t_int' true (gl x 9)), (V.rr t_int' true (gl x 10))]
def h33 (x : V) : V := V.agg [(V.int .i64 (gi x 0)), (V.int .i64 (gi x 1)), (V.int .i64 (gi x 2)), (V.int .i64 (gi x 3)), (V.int .i64 (gi x 4)), (V.int .i64 (gi x 5)), (V.rr t_impl_Item true (gl x 6)), (V.int .i64 (gi x 7)), (V.bool (gb x 8))]
def q34 : List S1 := [.dead, .dead, .dead, .dead, .dead, .dead, (.rr t_impl_Item true), .dead, .dead]
def l35 (x : V) : List V := [(V.int .i64 (gi x 0)), (V.int .i64 (gi x 1)), (V.int .i64 (gi x 2)), (V.rr t_impl_Item true (gl x 3)), (V.int .i64 (gi x 4)), (V.int .i64 (gi x 5)), (V.int .i64 (gi x 6)), (V.int .i64 (gi x 7)), (V.rr t_bool true (gl x 8)), (V.rr t_int' true (gl x 9)), (V.rr t_int' true (gl x 10)), (V.rr t_impl_Msg true (gl x 11))]
def q36 : List S1 := [.dead, .dead, .dead, (.rr t_impl_Item true), .dead, .dead, .dead, .dead, (.rr t_bool true), (.rr t_int' true), (.rr t_int' true), (.rr t_impl_Msg true)]
def q37 : List S1 := [(.int .i64), (.int .i64), (.int .i64), (.rr t_impl_Item true), (.int .i64), (.int .i64), (.int .i64), (.int .i64), (.rr t_bool true), (.rr t_int' true), (.rr t_int' true), (.rr t_impl_Msg true)]
def l38 (x : V) : List V := [(V.int .i64 (gi x 0)), (V.int .i64 (gi x 1)), (V.int .i64 (gi x 2)), (V.sl 1 t_impl_Item 0 none), (V.int .i64 (gi x 4)), (V.int .i64 (gi x 5)), (V.int .i64 (gi x 6)), (V.int .i64 (gi x 7)), (V.sl 2 t_bool 0 none), (V.sl 3 t_int' 0 none), (V.sl 4 t_int' 0 none), (V.sl 5 t_impl_Msg 0 none)]
def q39 : List S1 := [(.int .i64), (.int .i64), (.int .i64), (.sl 2 t_impl_Item), (.int .i64), (.int .i64), (.int .i64), (.int .i64), (.sl 3 t_bool), (.sl 4 t_int'), (.sl 5 t_int'), (.sl 6 t_impl_Msg)]
def l40 (x : V) : List V := [(V.int .i64 (gi x 0)), (V.int .i64 (gi x 1)), (V.int .i64 (gi x 2)), (V.sl 2 t_impl_Item 0 none), (V.int .i64 (gi x 4)), (V.int .i64 (gi x 5)), (V.int .i64 (gi x 6)), (V.int .i64 (gi x 7)), (V.sl 3 t_bool 0 none), (V.sl 4 t_int' 0 none), (V.sl 5 t_int' 0 none), (V.sl 6 t_impl_Msg 0 none)]
def h41 (x : V) : V := V.agg [(V.int .i64 (gi x 0)), (V.int .i64 (gi x 1)), (V.int .i64 (gi x 2)), (V.sl 2 t_impl_Item 0 none), (V.int .i64 (gi x 4)), (V.int .i64 (gi x 5)), (V.int .i64 (gi x 6)), (V.int .i64 (gi x 7)), (V.sl 3 t_bool 0 none), (V.sl 4 t_int' 0 none), (V.sl 5 t_int' 0 none), (V.sl 6 t_impl_Msg 0 none)]
def q42 : List S1 := [(.int .i64), (.int .i64), (.int .i64), (.sl 2 t_impl_Item), (.int .i64), (.int .i64), (.int .i64), (.int .i64), (.sl 3 t_bool), (.sl 4 t_int'), (.sl 1 t_int'), (.sl 5 t_impl_Msg)]
def q43 : List S1 := [(.int .i64), (.int .i64), (.int .i64), (.sl 1 t_impl_Item), (.int .i64), (.int .i64), (.int .i64), (.int .i64), (.sl 2 t_bool), (.sl 3 t_int'), (.sl 4 t_int'), (.sl 5 t_impl_Msg)]
def l44 (x : V) : List V := [(V.int .i64 (gi x 0)), (V.int .i64 (gi x 1)), (V.int .i64 (gi x 2)), (V.sl 2 t_impl_Item 0 none), (V.int .i64 (gi x 4)), (V.int .i64 (gi x 5)), (V.int .i64 (gi x 6)), (V.int .i64 (gi x 7)), (V.sl 3 t_bool 0 none), (V.sl 4 t_int' 0 none), (V.sl 1 t_int' 0 none), (V.sl 5 t_impl_Msg 0 none)]
def h45 (x : V) : V := V.agg [(V.int .i64 (gi x 0)), (V.int .i64 (gi x 1)), (V.int .i64 (gi x 2)), (V.sl 2 t_impl_Item 0 none), (V.int .i64 (gi x 4)), (V.int .i64 (gi x 5)), (V.int .i64 (gi x 6)), (V.int .i64 (gi x 7)), (V.sl 3 t_bool 0 none), (V.sl 4 t_int' 0 none), (V.sl 1 t_int' 0 none), (V.sl 5 t_impl_Msg 0 none)]
def h46 (x : V) : V := V.agg [(V.int .i64 (gi x 0)), (V.int .i64 (gi x 1)), (V.int .i64 (gi x 2)), (V.sl 1 t_impl_Item 0 none), (V.int .i64 (gi x 4)), (V.int .i64 (gi x 5)), (V.int .i64 (gi x 6)), (V.int .i64 (gi x 7)), (V.sl 2 t_bool 0 none), (V.sl 3 t_int' 0 none), (V.sl 4 t_int' 0 none), (V.sl 5 t_impl_Msg 0 none)]
def q47 : List S1 := [(.int .i64), (.int .i64), (.int .i64), (.sl 2 t_impl_Item), (.int .i64), (.int .i64), (.int .i64), (.int .i64), (.sl 1 t_bool), (.sl 3 t_int'), (.sl 4 t_int'), (.sl 5 t_impl_Msg)]
def l48 (x : V) : List V := [(V.int .i64 (gi x 0)), (V.int .i64 (gi x 1)), (V.int .i64 (gi x 2)), (V.sl 2 t_impl_Item 0 none), (V.int .i64 (gi x 4)), (V.int .i64 (gi x 5)), (V.int .i64 (gi x 6)), (V.int .i64 (gi x 7)), (V.sl 1 t_bool 0 none), (V.sl 3 t_int' 0 none), (V.sl 4 t_int' 0 none), (V.sl 5 t_impl_Msg 0 none)]
def h49 (x : V) : V := V.agg [(V.int .i64 (gi x 0)), (V.int .i64 (gi x 1)), (V.int .i64 (gi x 2)), (V.sl 2 t_impl_Item 0 none), (V.int .i64 (gi x 4)), (V.int .i64 (gi x 5)), (V.int .i64 (gi x 6)), (V.int .i64 (gi x 7)), (V.sl 1 t_bool 0 none), (V.sl 3 t_int' 0 none), (V.sl 4 t_int' 0 none), (V.sl 5 t_impl_Msg 0 none)]
def h50 (x : V) : V := V.agg [(V.int .i64 (gi x 0)), (V.int .i64 (gi x 1)), (V.int .i64 (gi x 2)), (V.inl t_impl_Item (gl x 3)), (V.int .i64 (gi x 4)), (V.int .i64 (gi x 5)), (V.int .i64 (gi x 6)), (V.int .i64 (gi x 7)), (V.inl t_bool (gl x 8)), (V.inl t_int' (gl x 9)), (V.inl t_int' (gl x 10)), (V.inl t_impl_Msg [])]
def q51 : List S1 := [(.int .i64), (.int .i64), (.int .i64), (.int .i64), (.int .i64), (.int .i64), (.inl t_impl_Item), (.int .i64), .bool]
def h52 (x : V) : V := V.agg [(V.int .i64 (gi x 0)), (V.int .i64 (gi x 1)), (V.int .i64 (gi x 2)), (V.dr t_impl_Item (gl x 3)), (V.int .i64 (gi x 4)), (V.int .i64 (gi x 5)), (V.int .i64 (gi x 6)), (V.int .i64 (gi x 7)), (V.dr t_bool (gl x 8)), (V.dr t_int' (gl x 9)), (V.dr t_int' (gl x 10))]
def q53 : List S1 := [(.int .i64), (.int .i64), (.int .i64), (.dr t_impl_Item), (.int .i64), (.int .i64), (.int .i64), (.int .i64), (.dr t_bool), (.dr t_int'), (.dr t_int')]
end Go.Eng.R
open Go Go.Eng Go.Proofs
namespace Go.Eng.R
def laws_szByteS_c : Cfg := ⟨tab, sumsOf [], fun _ => false, fun f => (look [] f).getD [], false, fun _ => false⟩
theorem laws_szByteS_c_ok : SumsOk Try.prog tab laws_szByteS_c.sums := sums_nil
abbrev laws_szByteS_L : Loops := noL
def laws_szByteS_sh (r_ : Int) : V × List V := ((vi r_), [])
theorem laws_szByteS_e (a : List V) (left : Int) : Tot (wkF [[.dead]] []) laws_szByteS_sh (laws_szByteS a left) (evalFn laws_szByteS_c laws_szByteS_L Try.f104 [(V.inl t_byte a), (vi left)]) := by
  have h : evalFn laws_szByteS_c laws_szByteS_L Try.f104 [(V.inl t_byte a), (vi left)] = (bif (decide ((w6 (left - (ln a))) < 0)) then some ((vi (-1)), []) else some ((vi (w6 (left - (ln a)))), [])) := by kernel_rfl
  rw [h, laws_szByteS]
  clear h
  repeat' (first | refine A5 ?_ ?_ | refine A6 fun _ => ?_ | exact A7 (by kernel_rfl))
def laws_szByteS_A : List S2 := [(.one (.inl t_byte)), (.one (.int .i64))]
def laws_szByteS_F (args : List V) : Int := laws_szByteS ((rd args 0).L) ((rd args 1).I)
def laws_szByteS_s (args : List V) : Option (Bool × (V × List V)) := bif argsOk laws_szByteS_A args then some (true, laws_szByteS_sh (laws_szByteS_F args)) else none
theorem laws_szByteS_s_ok : ∀ args r, laws_szByteS_s args = some (true, r) → SumOk Try.prog tab 104 args r :=
  Base.sumT (cfg := laws_szByteS_c) (F := laws_szByteS_F) (shr := laws_szByteS_sh) base laws_szByteS_c_ok Try.func104 (by kernel_rfl) noLo laws_szByteS_A (by kernel_rfl) [[.dead]] [] (by kernel_rfl) fun args h => by
    have q := laws_szByteS_e ((rd args 0).L) ((rd args 1).I)
    rw [show [(V.inl t_byte ((rd args 0).L)), (vi ((rd args 1).I))] = args from h] at q
    exact q
def laws_szOp_c : Cfg := ⟨tab, sumsOf [(104, laws_szByteS_s)], fun _ => false, fun f => (look [(104, [some t_byte, none])] f).getD [], false, fun _ => false⟩
theorem laws_szOp_c_ok : SumsOk Try.prog tab laws_szOp_c.sums := sums_cons f104_en laws_szByteS_s_ok (sums_nil)
abbrev laws_szOp_L : Loops := noL
def laws_szOp_sh (r_ : Int) : V × List V := ((vi r_), [])
theorem laws_szOp_e (a : V) (left : Int) : Tot (wkF [[.dead]] []) laws_szOp_sh (laws_szOp a left) (evalFn laws_szOp_c laws_szOp_L Try.f63 [(n_laws_Op a), (vi left)]) := by
  have h : evalFn laws_szOp_c laws_szOp_L Try.f63 [(n_laws_Op a), (vi left)] = (bif (decide ((laws_szByteS (gl a 1) left) < 0)) then some ((vi (-1)), []) else bif (decide ((laws_szByteS (gl a 2) (laws_szByteS (gl a 1) left)) < 0)) then some ((vi (-1)), []) else some ((vi (laws_szByteS (gl a 2) (laws_szByteS (gl a 1) left))), [])) := by kernel_rfl
  rw [h, laws_szOp]
  clear h
  repeat' (first | refine A5 ?_ ?_ | refine A6 fun _ => ?_ | exact A7 (by kernel_rfl))
def laws_szOp_A : List S2 := [(.agg q0), (.one (.int .i64))]
def laws_szOp_F (args : List V) : Int := laws_szOp (rd args 0) ((rd args 1).I)
def laws_szOp_s (args : List V) : Option (Bool × (V × List V)) := bif argsOk laws_szOp_A args then some (true, laws_szOp_sh (laws_szOp_F args)) else none
theorem laws_szOp_s_ok : ∀ args r, laws_szOp_s args = some (true, r) → SumOk Try.prog tab 63 args r :=
  Base.sumT (cfg := laws_szOp_c) (F := laws_szOp_F) (shr := laws_szOp_sh) base laws_szOp_c_ok Try.func63 (by kernel_rfl) noLo laws_szOp_A (by kernel_rfl) [[.dead]] [] (by kernel_rfl) fun args h => by
    have q := laws_szOp_e (rd args 0) ((rd args 1).I)
    rw [show [(n_laws_Op (rd args 0)), (vi ((rd args 1).I))] = args from h] at q
    exact q
def laws_szCmd_c : Cfg := ⟨tab, sumsOf [(63, laws_szOp_s)], fun _ => false, fun f => (look [(63, [none, none])] f).getD [], false, fun _ => false⟩
theorem laws_szCmd_c_ok : SumsOk Try.prog tab laws_szCmd_c.sums := sums_cons f63_en laws_szOp_s_ok (sums_nil)
abbrev laws_szCmd_L : Loops := noL
def laws_szCmd_sh (r_ : Int) : V × List V := ((vi r_), [])
theorem laws_szCmd_e (a : V) (left : Int) : Tot (wkF [[.dead]] []) laws_szCmd_sh (laws_szCmd a left) (evalFn laws_szCmd_c laws_szCmd_L Try.f20 [(n_laws_Cmd a), (vi left)]) := by
  have h : evalFn laws_szCmd_c laws_szCmd_L Try.f20 [(n_laws_Cmd a), (vi left)] = (bif (decide ((laws_szOp (V.agg [(vi (gi a 2)), (V.inl t_byte (gl a 3)), (V.inl t_byte (gl a 4)), (vi (gi a 5))]) left) < 0)) then some ((vi (-1)), []) else some ((vi (laws_szOp (V.agg [(vi (gi a 2)), (V.inl t_byte (gl a 3)), (V.inl t_byte (gl a 4)), (vi (gi a 5))]) left)), [])) := by kernel_rfl
  rw [h, laws_szCmd]
  clear h
  repeat' (first | refine A5 ?_ ?_ | refine A6 fun _ => ?_ | exact A7 (by kernel_rfl))
def laws_szCmd_A : List S2 := [(.agg q1), (.one (.int .i64))]
def laws_szCmd_F (args : List V) : Int := laws_szCmd (rd args 0) ((rd args 1).I)
def laws_szCmd_s (args : List V) : Option (Bool × (V × List V)) := bif argsOk laws_szCmd_A args then some (true, laws_szCmd_sh (laws_szCmd_F args)) else none
theorem laws_szCmd_s_ok : ∀ args r, laws_szCmd_s args = some (true, r) → SumOk Try.prog tab 20 args r :=
  Base.sumT (cfg := laws_szCmd_c) (F := laws_szCmd_F) (shr := laws_szCmd_sh) base laws_szCmd_c_ok Try.func20 (by kernel_rfl) noLo laws_szCmd_A (by kernel_rfl) [[.dead]] [] (by kernel_rfl) fun args h => by
    have q := laws_szCmd_e (rd args 0) ((rd args 1).I)
    rw [show [(n_laws_Cmd (rd args 0)), (vi ((rd args 1).I))] = args from h] at q
    exact q
def laws_szItem_c : Cfg := ⟨tab, sumsOf [(20, laws_szCmd_s)], fun _ => false, fun f => (look [(20, [none, none])] f).getD [], false, fun _ => false⟩
theorem laws_szItem_c_ok : SumsOk Try.prog tab laws_szItem_c.sums := sums_cons f20_en laws_szCmd_s_ok (sums_nil)
abbrev laws_szItem_L : Loops := noL
def laws_szItem_sh (r_ : Int) : V × List V := ((vi r_), [])
theorem laws_szItem_e (a : V) (left : Int) : Tot (wkF [[.dead]] []) laws_szItem_sh (laws_szItem a left) (evalFn laws_szItem_c laws_szItem_L Try.f95 [(n_impl_Item a), (vi left)]) := by
  have h : evalFn laws_szItem_c laws_szItem_L Try.f95 [(n_impl_Item a), (vi left)] = (bif (decide ((laws_szCmd (V.agg [(vi (gi a 1)), (vi (gi a 2)), (vi (gi a 3)), (V.inl t_byte (gl a 4)), (V.inl t_byte (gl a 5)), (vi (gi a 6))]) left) < 0)) then some ((vi (-1)), []) else some ((vi (laws_szCmd (V.agg [(vi (gi a 1)), (vi (gi a 2)), (vi (gi a 3)), (V.inl t_byte (gl a 4)), (V.inl t_byte (gl a 5)), (vi (gi a 6))]) left)), [])) := by kernel_rfl
  rw [h, laws_szItem]
  clear h
  repeat' (first | refine A5 ?_ ?_ | refine A6 fun _ => ?_ | exact A7 (by kernel_rfl))
def laws_szItem_A : List S2 := [(.agg q2), (.one (.int .i64))]
def laws_szItem_F (args : List V) : Int := laws_szItem (rd args 0) ((rd args 1).I)
def laws_szItem_s (args : List V) : Option (Bool × (V × List V)) := bif argsOk laws_szItem_A args then some (true, laws_szItem_sh (laws_szItem_F args)) else none
theorem laws_szItem_s_ok : ∀ args r, laws_szItem_s args = some (true, r) → SumOk Try.prog tab 95 args r :=
  Base.sumT (cfg := laws_szItem_c) (F := laws_szItem_F) (shr := laws_szItem_sh) base laws_szItem_c_ok Try.func95 (by kernel_rfl) noLo laws_szItem_A (by kernel_rfl) [[.dead]] [] (by kernel_rfl) fun args h => by
    have q := laws_szItem_e (rd args 0) ((rd args 1).I)
    rw [show [(n_impl_Item (rd args 0)), (vi ((rd args 1).I))] = args from h] at q
    exact q
def laws_szItemS_c : Cfg := ⟨tab, sumsOf [(95, laws_szItem_s)], fun _ => false, fun f => (look [(95, [none, none])] f).getD [], false, fun _ => false⟩
theorem laws_szItemS_c_ok : SumsOk Try.prog tab laws_szItemS_c.sums := sums_cons f95_en laws_szItem_s_ok (sums_nil)
def laws_szItemS_l5_F (st : St) : Option (Nat × Int × Int) := laws_szItemS_l5 ((((((sv st 0).L).length : Nat) : Int) - ((sv st 2).I)).toNat + 1) ((sv st 0).L) ((sv st 1).I) ((sv st 2).I)
def laws_szItemS_l5_ps (r_ : Nat × Int × Int) : List (Ex × St) := [(Ex.ret, (⟨[(1, (vi r_.2.1)), (4, (vi r_.2.2))], [], 0, []⟩ : St)), ((Ex.exit 0), (⟨[(1, (vi r_.2.1)), (4, V.dead)], [], 0, []⟩ : St))]
def laws_szItemS_l5_ss : SS := ⟨[(0, (.one (.inl t_laws_Item))), (1, (.one (.int .i64))), (5, (.one (.int .i64)))], [], 0, []⟩
def laws_szItemS_l5_e : LE := ⟨5, laws_szItemS_l5_ss, fun st => Out.tst (laws_szItemS_l5_F st).isSome (brs ((fun r_ => r_.1) ((laws_szItemS_l5_F st).getD default)) 0 (laws_szItemS_l5_ps ((laws_szItemS_l5_F st).getD default)))⟩
def laws_szItemS_L : Loops := ⟨fun k => (look [(5, [0, 1, 5])] k).getD [], fun k => (look [] k).getD [], fun k => (look [(5, [1, 4])] k).getD [], runL [laws_szItemS_l5_e]⟩
theorem laws_szItemS_l5_ok (k_ : Nat) : ∀ (a0 : List V) (left1 : Int) (i5 : Int), Agr id (fun r_ => pick (r_.1) 0 (laws_szItemS_l5_ps r_)) (laws_szItemS_l5 k_ a0 left1 i5) (rounds laws_szItemS_c laws_szItemS_L ((loopsIn (bodyOf Try.f38)).getD 0 .skip) k_ (⟨[(0, (V.inl t_laws_Item a0)), (1, (vi left1)), (5, (vi i5))], [], 0, []⟩ : St)) := by
  induction k_ with
  | zero => intros; exact A0
  | succ k_ ih =>
    intro a0 left1 i5
    have h : rounds laws_szItemS_c laws_szItemS_L ((loopsIn (bodyOf Try.f38)).getD 0 .skip) (k_ + 1) (⟨[(0, (V.inl t_laws_Item a0)), (1, (vi left1)), (5, (vi i5))], [], 0, []⟩ : St) = (bif (decide (i5 < (ln a0))) then bif (idxOk i5 a0.length) then bif (decide ((laws_szItem (n_impl_Item (rd a0 i5.toNat)) left1) < 0)) then some (Ex.ret, (⟨[(1, (vi (laws_szItem (n_impl_Item (rd a0 i5.toNat)) left1))), (4, (vi (-1)))], [], 0, []⟩ : St)) else rounds laws_szItemS_c laws_szItemS_L ((loopsIn (bodyOf Try.f38)).getD 0 .skip) k_ (⟨[(0, (V.inl t_laws_Item a0)), (1, (vi (laws_szItem (n_impl_Item (rd a0 i5.toNat)) left1))), (5, (vi (w6 (i5 + 1))))], [], 0, []⟩ : St) else none else some ((Ex.exit 0), (⟨[(1, (vi left1)), (4, V.dead)], [], 0, []⟩ : St))) := by kernel_rfl
    rw [h, laws_szItemS_l5]
    clear h
    repeat' (first | exact A0 | refine A1 ?_ ?_ | refine A2 fun _ => ?_ | refine A3 fun _ => ?_ | exact A4 (by kernel_rfl) | exact ih _ _ _)
theorem laws_szItemS_lo : LoopsOk laws_szItemS_c laws_szItemS_L (bodyOf Try.f38) := by
  refine GoodAll.ok (l := [laws_szItemS_l5_e]) ?_ rfl
  refine GoodAll.cons 0 (by kernel_rfl) ?_ ?_
  · exact good_of (key := 5) (ss := laws_szItemS_l5_ss) (F := laws_szItemS_l5_F) (ix := fun r_ => r_.1) (ps := laws_szItemS_l5_ps) (fun st => (((((sv st 0).L).length : Nat) : Int) - ((sv st 2).I)).toNat + 1) fun st h => by
      have q := laws_szItemS_l5_ok ((((((sv st 0).L).length : Nat) : Int) - ((sv st 2).I)).toNat + 1) ((sv st 0).L) ((sv st 1).I) ((sv st 2).I)
      rw [show (⟨[(0, (V.inl t_laws_Item ((sv st 0).L))), (1, (vi ((sv st 1).I))), (5, (vi ((sv st 2).I)))], [], 0, []⟩ : St) = st from h] at q
      exact q
  exact GoodAll.nil
def laws_szItemS_sh (r_ : Int) : V × List V := ((vi r_), [])
theorem laws_szItemS_e (a : List V) (left : Int) : Agr (wkF [[.dead]] []) laws_szItemS_sh (laws_szItemS a left) (evalFn laws_szItemS_c laws_szItemS_L Try.f38 [(V.inl t_laws_Item a), (vi left)]) := by
  have h : evalFn laws_szItemS_c laws_szItemS_L Try.f38 [(V.inl t_laws_Item a), (vi left)] = (bif (decide ((w6 (left - (ln a))) < 0)) then some ((vi (-1)), []) else rcall (laws_szItemS_l5 (((ln a) - 0).toNat + 1) a (w6 (left - (ln a))) 0) fun r1 => bif (Nat.beq r1.1 0) then some ((vi r1.2.2), []) else some ((vi r1.2.1), [])) := by kernel_rfl
  rw [h, laws_szItemS]
  clear h
  repeat' (first | exact A0 | refine A1 ?_ ?_ | refine A2 fun _ => ?_ | refine A3 fun _ => ?_ | exact A4 (by kernel_rfl))
def laws_szItemS_A : List S2 := [(.one (.inl t_laws_Item)), (.one (.int .i64))]
def laws_szItemS_F (args : List V) : Option (Int) := laws_szItemS ((rd args 0).L) ((rd args 1).I)
def laws_szItemS_s (args : List V) : Option (Bool × (V × List V)) := bif argsOk laws_szItemS_A args then some ((laws_szItemS_F args).isSome, laws_szItemS_sh ((laws_szItemS_F args).getD default)) else none
theorem laws_szItemS_s_ok : ∀ args r, laws_szItemS_s args = some (true, r) → SumOk Try.prog tab 38 args r :=
  Base.sum (cfg := laws_szItemS_c) (F := laws_szItemS_F) (shr := laws_szItemS_sh) base laws_szItemS_c_ok Try.func38 (by kernel_rfl) laws_szItemS_lo laws_szItemS_A (by kernel_rfl) [[.dead]] [] (by kernel_rfl) fun args h => by
    have q := laws_szItemS_e ((rd args 0).L) ((rd args 1).I)
    rw [show [(V.inl t_laws_Item ((rd args 0).L)), (vi ((rd args 1).I))] = args from h] at q
    exact q
def laws_szBoolS_c : Cfg := ⟨tab, sumsOf [], fun _ => false, fun f => (look [] f).getD [], false, fun _ => false⟩
theorem laws_szBoolS_c_ok : SumsOk Try.prog tab laws_szBoolS_c.sums := sums_nil
abbrev laws_szBoolS_L : Loops := noL
def laws_szBoolS_sh (r_ : Int) : V × List V := ((vi r_), [])
theorem laws_szBoolS_e (a : List V) (left : Int) : Tot (wkF [[.dead]] []) laws_szBoolS_sh (laws_szBoolS a left) (evalFn laws_szBoolS_c laws_szBoolS_L Try.f39 [(V.inl t_bool a), (vi left)]) := by
  have h : evalFn laws_szBoolS_c laws_szBoolS_L Try.f39 [(V.inl t_bool a), (vi left)] = (bif (decide ((w6 (left - (ln a))) < 0)) then some ((vi (-1)), []) else some ((vi (w6 (left - (ln a)))), [])) := by kernel_rfl
  rw [h, laws_szBoolS]
  clear h
  repeat' (first | refine A5 ?_ ?_ | refine A6 fun _ => ?_ | exact A7 (by kernel_rfl))
def laws_szBoolS_A : List S2 := [(.one (.inl t_bool)), (.one (.int .i64))]
def laws_szBoolS_F (args : List V) : Int := laws_szBoolS ((rd args 0).L) ((rd args 1).I)
def laws_szBoolS_s (args : List V) : Option (Bool × (V × List V)) := bif argsOk laws_szBoolS_A args then some (true, laws_szBoolS_sh (laws_szBoolS_F args)) else none
theorem laws_szBoolS_s_ok : ∀ args r, laws_szBoolS_s args = some (true, r) → SumOk Try.prog tab 39 args r :=
  Base.sumT (cfg := laws_szBoolS_c) (F := laws_szBoolS_F) (shr := laws_szBoolS_sh) base laws_szBoolS_c_ok Try.func39 (by kernel_rfl) noLo laws_szBoolS_A (by kernel_rfl) [[.dead]] [] (by kernel_rfl) fun args h => by
    have q := laws_szBoolS_e ((rd args 0).L) ((rd args 1).I)
    rw [show [(V.inl t_bool ((rd args 0).L)), (vi ((rd args 1).I))] = args from h] at q
    exact q
def laws_szIntS_c : Cfg := ⟨tab, sumsOf [], fun _ => false, fun f => (look [] f).getD [], false, fun _ => false⟩
theorem laws_szIntS_c_ok : SumsOk Try.prog tab laws_szIntS_c.sums := sums_nil
abbrev laws_szIntS_L : Loops := noL
def laws_szIntS_sh (r_ : Int) : V × List V := ((vi r_), [])
theorem laws_szIntS_e (a : List V) (left : Int) : Tot (wkF [[.dead]] []) laws_szIntS_sh (laws_szIntS a left) (evalFn laws_szIntS_c laws_szIntS_L Try.f40 [(V.inl t_int' a), (vi left)]) := by
  have h : evalFn laws_szIntS_c laws_szIntS_L Try.f40 [(V.inl t_int' a), (vi left)] = (bif (decide ((w6 (left - (ln a))) < 0)) then some ((vi (-1)), []) else some ((vi (w6 (left - (ln a)))), [])) := by kernel_rfl
  rw [h, laws_szIntS]
  clear h
  repeat' (first | refine A5 ?_ ?_ | refine A6 fun _ => ?_ | exact A7 (by kernel_rfl))
def laws_szIntS_A : List S2 := [(.one (.inl t_int')), (.one (.int .i64))]
def laws_szIntS_F (args : List V) : Int := laws_szIntS ((rd args 0).L) ((rd args 1).I)
def laws_szIntS_s (args : List V) : Option (Bool × (V × List V)) := bif argsOk laws_szIntS_A args then some (true, laws_szIntS_sh (laws_szIntS_F args)) else none
theorem laws_szIntS_s_ok : ∀ args r, laws_szIntS_s args = some (true, r) → SumOk Try.prog tab 40 args r :=
  Base.sumT (cfg := laws_szIntS_c) (F := laws_szIntS_F) (shr := laws_szIntS_sh) base laws_szIntS_c_ok Try.func40 (by kernel_rfl) noLo laws_szIntS_A (by kernel_rfl) [[.dead]] [] (by kernel_rfl) fun args h => by
    have q := laws_szIntS_e ((rd args 0).L) ((rd args 1).I)
    rw [show [(V.inl t_int' ((rd args 0).L)), (vi ((rd args 1).I))] = args from h] at q
    exact q
def laws_szNode_c : Cfg := ⟨tab, sumsOf [(38, laws_szItemS_s), (39, laws_szBoolS_s), (40, laws_szIntS_s)], fun _ => false, fun f => (look [(38, [some t_laws_Item, none]), (39, [some t_bool, none]), (40, [some t_int', none])] f).getD [], false, fun _ => false⟩
theorem laws_szNode_c_ok : SumsOk Try.prog tab laws_szNode_c.sums := sums_cons f38_en laws_szItemS_s_ok (sums_cons f39_en laws_szBoolS_s_ok (sums_cons f40_en laws_szIntS_s_ok (sums_nil)))
abbrev laws_szNode_L : Loops := noL
def laws_szNode_sh (r_ : Int) : V × List V := ((vi r_), [])
theorem laws_szNode_e (a : V) (left : Int) : Agr (wkF [[.dead]] []) laws_szNode_sh (laws_szNode a left) (evalFn laws_szNode_c laws_szNode_L Try.f8 [(n_laws_Node a), (vi left)]) := by
  have h : evalFn laws_szNode_c laws_szNode_L Try.f8 [(n_laws_Node a), (vi left)] = (rcall (laws_szItemS (gl a 3) left) fun r2 => bif (decide (r2 < 0)) then some ((vi (-1)), []) else bif (decide ((laws_szBoolS (gl a 8) r2) < 0)) then some ((vi (-1)), []) else bif (decide ((laws_szIntS (gl a 9) (laws_szBoolS (gl a 8) r2)) < 0)) then some ((vi (-1)), []) else bif (decide ((laws_szIntS (gl a 10) (laws_szIntS (gl a 9) (laws_szBoolS (gl a 8) r2))) < 0)) then some ((vi (-1)), []) else some ((vi (laws_szIntS (gl a 10) (laws_szIntS (gl a 9) (laws_szBoolS (gl a 8) r2)))), [])) := by kernel_rfl
  rw [h, laws_szNode]
  clear h
  repeat' (first | exact A0 | refine A1 ?_ ?_ | refine A2 fun _ => ?_ | refine A3 fun _ => ?_ | exact A4 (by kernel_rfl))
def laws_szNode_A : List S2 := [(.agg q3), (.one (.int .i64))]
def laws_szNode_F (args : List V) : Option (Int) := laws_szNode (rd args 0) ((rd args 1).I)
def laws_szNode_s (args : List V) : Option (Bool × (V × List V)) := bif argsOk laws_szNode_A args then some ((laws_szNode_F args).isSome, laws_szNode_sh ((laws_szNode_F args).getD default)) else none
theorem laws_szNode_s_ok : ∀ args r, laws_szNode_s args = some (true, r) → SumOk Try.prog tab 8 args r :=
  Base.sum (cfg := laws_szNode_c) (F := laws_szNode_F) (shr := laws_szNode_sh) base laws_szNode_c_ok Try.func8 (by kernel_rfl) noLo laws_szNode_A (by kernel_rfl) [[.dead]] [] (by kernel_rfl) fun args h => by
    have q := laws_szNode_e (rd args 0) ((rd args 1).I)
    rw [show [(n_laws_Node (rd args 0)), (vi ((rd args 1).I))] = args from h] at q
    exact q
def laws_toByteS_c : Cfg := ⟨tab, sumsOf [], fun _ => false, fun f => (look [] f).getD [], false, fun _ => false⟩
theorem laws_toByteS_c_ok : SumsOk Try.prog tab laws_toByteS_c.sums := sums_nil
def laws_toByteS_l3_F (st : St) : Option (List V) := laws_toByteS_l3 ((((((sv st 0).L).length : Nat) : Int) - ((sv st 2).I)).toNat + 1) ((sv st 0).L) ((sv st 2).I) (br st 0)
def laws_toByteS_l3_ps (r_ : List V) : List (Ex × St) := [((Ex.exit 0), (⟨[(3, (vs 0 t_byte))], [(0, some (Blk.row t_byte true r_))], 1, []⟩ : St))]
def laws_toByteS_l3_ss : SS := ⟨[(0, (.one (.inl t_byte))), (3, (.one (.sl 0 t_byte))), (4, (.one (.int .i64)))], [(.row t_byte true)], 1, []⟩
def laws_toByteS_l3_e : LE := ⟨3, laws_toByteS_l3_ss, fun st => Out.tst (laws_toByteS_l3_F st).isSome (brs ((fun r_ => 0) ((laws_toByteS_l3_F st).getD default)) 0 (laws_toByteS_l3_ps ((laws_toByteS_l3_F st).getD default)))⟩
def laws_toByteS_L : Loops := ⟨fun k => (look [(3, [0, 3, 4])] k).getD [], fun k => (look [] k).getD [], fun k => (look [(3, [3])] k).getD [], runL [laws_toByteS_l3_e]⟩
theorem laws_toByteS_l3_ok (k_ : Nat) : ∀ (a0 : List V) (i4 : Int) (r0 : List V), Agr id (fun r_ => pick (0) 0 (laws_toByteS_l3_ps r_)) (laws_toByteS_l3 k_ a0 i4 r0) (rounds laws_toByteS_c laws_toByteS_L ((loopsIn (bodyOf Try.f108)).getD 0 .skip) k_ (⟨[(0, (V.inl t_byte a0)), (3, (vs 0 t_byte)), (4, (vi i4))], [(0, some (Blk.row t_byte true r0))], 1, []⟩ : St)) := by
  induction k_ with
  | zero => intros; exact A0
  | succ k_ ih =>
    intro a0 i4 r0
    have h : rounds laws_toByteS_c laws_toByteS_L ((loopsIn (bodyOf Try.f108)).getD 0 .skip) (k_ + 1) (⟨[(0, (V.inl t_byte a0)), (3, (vs 0 t_byte)), (4, (vi i4))], [(0, some (Blk.row t_byte true r0))], 1, []⟩ : St) = (bif (decide (i4 < (ln a0))) then bif (idxOk i4 a0.length) then bif (idxOk i4 r0.length) then rounds laws_toByteS_c laws_toByteS_L ((loopsIn (bodyOf Try.f108)).getD 0 .skip) k_ (⟨[(0, (V.inl t_byte a0)), (3, (vs 0 t_byte)), (4, (vi (w6 (i4 + 1))))], [(0, some (Blk.row t_byte true (r0.set (0 + i4.toNat) (V.int .u8 (gi (rd a0 i4.toNat) 0)))))], 1, []⟩ : St) else none else none else some ((Ex.exit 0), (⟨[(3, (vs 0 t_byte))], [(0, some (Blk.row t_byte true r0))], 1, []⟩ : St))) := by kernel_rfl
    rw [h, laws_toByteS_l3]
    clear h
    repeat' (first | exact A0 | refine A1 ?_ ?_ | refine A2 fun _ => ?_ | refine A3 fun _ => ?_ | exact A4 (by kernel_rfl) | exact ih _ _ _)
theorem laws_toByteS_lo : LoopsOk laws_toByteS_c laws_toByteS_L (bodyOf Try.f108) := by
  refine GoodAll.ok (l := [laws_toByteS_l3_e]) ?_ rfl
  refine GoodAll.cons 0 (by kernel_rfl) ?_ ?_
  · exact good_of (key := 3) (ss := laws_toByteS_l3_ss) (F := laws_toByteS_l3_F) (ix := fun r_ => 0) (ps := laws_toByteS_l3_ps) (fun st => (((((sv st 0).L).length : Nat) : Int) - ((sv st 2).I)).toNat + 1) fun st h => by
      have q := laws_toByteS_l3_ok ((((((sv st 0).L).length : Nat) : Int) - ((sv st 2).I)).toNat + 1) ((sv st 0).L) ((sv st 2).I) (br st 0)
      rw [show (⟨[(0, (V.inl t_byte ((sv st 0).L))), (3, (vs 0 t_byte)), (4, (vi ((sv st 2).I)))], [(0, some (Blk.row t_byte true (br st 0)))], 1, []⟩ : St) = st from h] at q
      exact q
  exact GoodAll.nil
def laws_toByteS_sh (r_ : List V) : V × List V := ((V.rr t_byte true r_), [])
theorem laws_toByteS_e (a : List V) : Agr (wkF [[(.rr t_byte true)]] []) laws_toByteS_sh (laws_toByteS a) (evalFn laws_toByteS_c laws_toByteS_L Try.f108 [(V.inl t_byte a)]) := by
  have h : evalFn laws_toByteS_c laws_toByteS_L Try.f108 [(V.inl t_byte a)] = (bif (((decide ((0 : Int) ≤ (ln a))) && decide ((ln a) = (ln a))) && (roomy ((ln a).toNat) 1)) then rcall (laws_toByteS_l3 (((ln a) - 0).toNat + 1) a 0 (List.replicate ((ln a).toNat) (V.int .u8 0))) fun r4 => some ((V.rr t_byte true r4), []) else none) := by kernel_rfl
  rw [h, laws_toByteS]
  clear h
  repeat' (first | exact A0 | refine A1 ?_ ?_ | refine A2 fun _ => ?_ | refine A3 fun _ => ?_ | exact A4 (by kernel_rfl))
def laws_toByteS_A : List S2 := [(.one (.inl t_byte))]
def laws_toByteS_F (args : List V) : Option (List V) := laws_toByteS ((rd args 0).L)
def laws_toByteS_s (args : List V) : Option (Bool × (V × List V)) := bif argsOk laws_toByteS_A args then some ((laws_toByteS_F args).isSome, laws_toByteS_sh ((laws_toByteS_F args).getD default)) else none
theorem laws_toByteS_s_ok : ∀ args r, laws_toByteS_s args = some (true, r) → SumOk Try.prog tab 108 args r :=
  Base.sum (cfg := laws_toByteS_c) (F := laws_toByteS_F) (shr := laws_toByteS_sh) base laws_toByteS_c_ok Try.func108 (by kernel_rfl) laws_toByteS_lo laws_toByteS_A (by kernel_rfl) [[(.rr t_byte true)]] [] (by kernel_rfl) fun args h => by
    have q := laws_toByteS_e ((rd args 0).L)
    rw [show [(V.inl t_byte ((rd args 0).L))] = args from h] at q
    exact q
def laws_toOp_c : Cfg := ⟨tab, sumsOf [(108, laws_toByteS_s)], fun _ => false, fun f => (look [(108, [some t_byte])] f).getD [], false, fun _ => false⟩
theorem laws_toOp_c_ok : SumsOk Try.prog tab laws_toOp_c.sums := sums_cons f108_en laws_toByteS_s_ok (sums_nil)
abbrev laws_toOp_L : Loops := noL
def laws_toOp_sh (r_ : V) : V × List V := ((h4 r_), [])
theorem laws_toOp_e (a : V) : Agr (wkF [q5] []) laws_toOp_sh (laws_toOp a) (evalFn laws_toOp_c laws_toOp_L Try.f67 [(n_laws_Op a)]) := by
  have h : evalFn laws_toOp_c laws_toOp_L Try.f67 [(n_laws_Op a)] = (rcall (laws_toByteS (gl a 1)) fun r5 => rcall (laws_toByteS (gl a 2)) fun r6 => some ((V.agg [(vi (gi a 0)), (V.rr t_byte true r5), (V.rr t_byte true r6), (vi (gi a 3))]), [])) := by kernel_rfl
  rw [h, laws_toOp]
  clear h
  repeat' (first | exact A0 | refine A1 ?_ ?_ | refine A2 fun _ => ?_ | refine A3 fun _ => ?_ | exact A4 (by kernel_rfl))
def laws_toOp_A : List S2 := [(.agg q0)]
def laws_toOp_F (args : List V) : Option (V) := laws_toOp (rd args 0)
def laws_toOp_s (args : List V) : Option (Bool × (V × List V)) := bif argsOk laws_toOp_A args then some ((laws_toOp_F args).isSome, laws_toOp_sh ((laws_toOp_F args).getD default)) else none
theorem laws_toOp_s_ok : ∀ args r, laws_toOp_s args = some (true, r) → SumOk Try.prog tab 67 args r :=
  Base.sum (cfg := laws_toOp_c) (F := laws_toOp_F) (shr := laws_toOp_sh) base laws_toOp_c_ok Try.func67 (by kernel_rfl) noLo laws_toOp_A (by kernel_rfl) [q5] [] (by kernel_rfl) fun args h => by
    have q := laws_toOp_e (rd args 0)
    rw [show [(n_laws_Op (rd args 0))] = args from h] at q
    exact q
def laws_toCmd_c : Cfg := ⟨tab, sumsOf [(67, laws_toOp_s)], fun _ => false, fun f => (look [(67, [none])] f).getD [], false, fun _ => false⟩
theorem laws_toCmd_c_ok : SumsOk Try.prog tab laws_toCmd_c.sums := sums_cons f67_en laws_toOp_s_ok (sums_nil)
abbrev laws_toCmd_L : Loops := noL
def laws_toCmd_sh (r_ : V) : V × List V := ((h6 r_), [])
theorem laws_toCmd_e (a : V) : Agr (wkF [q7] []) laws_toCmd_sh (laws_toCmd a) (evalFn laws_toCmd_c laws_toCmd_L Try.f22 [(n_laws_Cmd a)]) := by
  have h : evalFn laws_toCmd_c laws_toCmd_L Try.f22 [(n_laws_Cmd a)] = (rcall (laws_toOp (V.agg [(vi (gi a 2)), (V.inl t_byte (gl a 3)), (V.inl t_byte (gl a 4)), (vi (gi a 5))])) fun r7 => some ((V.agg [(vi (gi a 0)), (vi (gi a 1)), (vi (gi r7 0)), (V.rr t_byte true (gl r7 1)), (V.rr t_byte true (gl r7 2)), (vi (gi r7 3))]), [])) := by kernel_rfl
  rw [h, laws_toCmd]
  clear h
  repeat' (first | exact A0 | refine A1 ?_ ?_ | refine A2 fun _ => ?_ | refine A3 fun _ => ?_ | exact A4 (by kernel_rfl))
def laws_toCmd_A : List S2 := [(.agg q1)]
def laws_toCmd_F (args : List V) : Option (V) := laws_toCmd (rd args 0)
def laws_toCmd_s (args : List V) : Option (Bool × (V × List V)) := bif argsOk laws_toCmd_A args then some ((laws_toCmd_F args).isSome, laws_toCmd_sh ((laws_toCmd_F args).getD default)) else none
theorem laws_toCmd_s_ok : ∀ args r, laws_toCmd_s args = some (true, r) → SumOk Try.prog tab 22 args r :=
  Base.sum (cfg := laws_toCmd_c) (F := laws_toCmd_F) (shr := laws_toCmd_sh) base laws_toCmd_c_ok Try.func22 (by kernel_rfl) noLo laws_toCmd_A (by kernel_rfl) [q7] [] (by kernel_rfl) fun args h => by
    have q := laws_toCmd_e (rd args 0)
    rw [show [(n_laws_Cmd (rd args 0))] = args from h] at q
    exact q
def laws_toItem_c : Cfg := ⟨tab, sumsOf [(22, laws_toCmd_s)], fun _ => false, fun f => (look [(22, [none])] f).getD [], false, fun _ => false⟩
theorem laws_toItem_c_ok : SumsOk Try.prog tab laws_toItem_c.sums := sums_cons f22_en laws_toCmd_s_ok (sums_nil)
abbrev laws_toItem_L : Loops := noL
def laws_toItem_sh (r_ : V) : V × List V := ((h8 r_), [])
theorem laws_toItem_e (a : V) : Agr (wkF [q9] []) laws_toItem_sh (laws_toItem a) (evalFn laws_toItem_c laws_toItem_L Try.f97 [(n_impl_Item a)]) := by
  have h : evalFn laws_toItem_c laws_toItem_L Try.f97 [(n_impl_Item a)] = (rcall (laws_toCmd (V.agg [(vi (gi a 1)), (vi (gi a 2)), (vi (gi a 3)), (V.inl t_byte (gl a 4)), (V.inl t_byte (gl a 5)), (vi (gi a 6))])) fun r8 => some ((V.agg [(vi (gi a 0)), (vi (gi r8 0)), (vi (gi r8 1)), (vi (gi r8 2)), (V.rr t_byte true (gl r8 3)), (V.rr t_byte true (gl r8 4)), (vi (gi r8 5))]), [])) := by kernel_rfl
  rw [h, laws_toItem]
  clear h
  repeat' (first | exact A0 | refine A1 ?_ ?_ | refine A2 fun _ => ?_ | refine A3 fun _ => ?_ | exact A4 (by kernel_rfl))
def laws_toItem_A : List S2 := [(.agg q2)]
def laws_toItem_F (args : List V) : Option (V) := laws_toItem (rd args 0)
def laws_toItem_s (args : List V) : Option (Bool × (V × List V)) := bif argsOk laws_toItem_A args then some ((laws_toItem_F args).isSome, laws_toItem_sh ((laws_toItem_F args).getD default)) else none
theorem laws_toItem_s_ok : ∀ args r, laws_toItem_s args = some (true, r) → SumOk Try.prog tab 97 args r :=
  Base.sum (cfg := laws_toItem_c) (F := laws_toItem_F) (shr := laws_toItem_sh) base laws_toItem_c_ok Try.func97 (by kernel_rfl) noLo laws_toItem_A (by kernel_rfl) [q9] [] (by kernel_rfl) fun args h => by
    have q := laws_toItem_e (rd args 0)
    rw [show [(n_impl_Item (rd args 0))] = args from h] at q
    exact q
def laws_toItemS_c : Cfg := ⟨tab, sumsOf [(97, laws_toItem_s)], fun _ => false, fun f => (look [(97, [none])] f).getD [], false, fun _ => false⟩
theorem laws_toItemS_c_ok : SumsOk Try.prog tab laws_toItemS_c.sums := sums_cons f97_en laws_toItem_s_ok (sums_nil)
def laws_toItemS_l3_F (st : St) : Option (List V) := laws_toItemS_l3 ((((((sv st 0).L).length : Nat) : Int) - ((sv st 2).I)).toNat + 1) ((sv st 0).L) ((sv st 2).I) (br st 0)
def laws_toItemS_l3_ps (r_ : List V) : List (Ex × St) := [((Ex.exit 0), (⟨[(3, (vs 0 t_impl_Item))], [(0, some (Blk.row t_impl_Item true r_))], 1, []⟩ : St))]
def laws_toItemS_l3_ss : SS := ⟨[(0, (.one (.inl t_laws_Item))), (3, (.one (.sl 0 t_impl_Item))), (4, (.one (.int .i64)))], [(.row t_impl_Item true)], 1, []⟩
def laws_toItemS_l3_e : LE := ⟨3, laws_toItemS_l3_ss, fun st => Out.tst (laws_toItemS_l3_F st).isSome (brs ((fun r_ => 0) ((laws_toItemS_l3_F st).getD default)) 0 (laws_toItemS_l3_ps ((laws_toItemS_l3_F st).getD default)))⟩
def laws_toItemS_L : Loops := ⟨fun k => (look [(3, [0, 3, 4])] k).getD [], fun k => (look [] k).getD [], fun k => (look [(3, [3])] k).getD [], runL [laws_toItemS_l3_e]⟩
theorem laws_toItemS_l3_ok (k_ : Nat) : ∀ (a0 : List V) (i4 : Int) (r0 : List V), Agr id (fun r_ => pick (0) 0 (laws_toItemS_l3_ps r_)) (laws_toItemS_l3 k_ a0 i4 r0) (rounds laws_toItemS_c laws_toItemS_L ((loopsIn (bodyOf Try.f43)).getD 0 .skip) k_ (⟨[(0, (V.inl t_laws_Item a0)), (3, (vs 0 t_impl_Item)), (4, (vi i4))], [(0, some (Blk.row t_impl_Item true r0))], 1, []⟩ : St)) := by
  induction k_ with
  | zero => intros; exact A0
  | succ k_ ih =>
    intro a0 i4 r0
    have h : rounds laws_toItemS_c laws_toItemS_L ((loopsIn (bodyOf Try.f43)).getD 0 .skip) (k_ + 1) (⟨[(0, (V.inl t_laws_Item a0)), (3, (vs 0 t_impl_Item)), (4, (vi i4))], [(0, some (Blk.row t_impl_Item true r0))], 1, []⟩ : St) = (bif (decide (i4 < (ln a0))) then bif (idxOk i4 a0.length) then rcall (laws_toItem (n_impl_Item (rd a0 i4.toNat))) fun r9 => bif (idxOk i4 r0.length) then rounds laws_toItemS_c laws_toItemS_L ((loopsIn (bodyOf Try.f43)).getD 0 .skip) k_ (⟨[(0, (V.inl t_laws_Item a0)), (3, (vs 0 t_impl_Item)), (4, (vi (w6 (i4 + 1))))], [(0, some (Blk.row t_impl_Item true (r0.set (0 + i4.toNat) (n_impl_Item r9))))], 1, []⟩ : St) else none else none else some ((Ex.exit 0), (⟨[(3, (vs 0 t_impl_Item))], [(0, some (Blk.row t_impl_Item true r0))], 1, []⟩ : St))) := by kernel_rfl
    rw [h, laws_toItemS_l3]
    clear h
    repeat' (first | exact A0 | refine A1 ?_ ?_ | refine A2 fun _ => ?_ | refine A3 fun _ => ?_ | exact A4 (by kernel_rfl) | exact ih _ _ _)
theorem laws_toItemS_lo : LoopsOk laws_toItemS_c laws_toItemS_L (bodyOf Try.f43) := by
  refine GoodAll.ok (l := [laws_toItemS_l3_e]) ?_ rfl
  refine GoodAll.cons 0 (by kernel_rfl) ?_ ?_
  · exact good_of (key := 3) (ss := laws_toItemS_l3_ss) (F := laws_toItemS_l3_F) (ix := fun r_ => 0) (ps := laws_toItemS_l3_ps) (fun st => (((((sv st 0).L).length : Nat) : Int) - ((sv st 2).I)).toNat + 1) fun st h => by
      have q := laws_toItemS_l3_ok ((((((sv st 0).L).length : Nat) : Int) - ((sv st 2).I)).toNat + 1) ((sv st 0).L) ((sv st 2).I) (br st 0)
      rw [show (⟨[(0, (V.inl t_laws_Item ((sv st 0).L))), (3, (vs 0 t_impl_Item)), (4, (vi ((sv st 2).I)))], [(0, some (Blk.row t_impl_Item true (br st 0)))], 1, []⟩ : St) = st from h] at q
      exact q
  exact GoodAll.nil
def laws_toItemS_sh (r_ : List V) : V × List V := ((V.rr t_impl_Item true r_), [])
theorem laws_toItemS_e (a : List V) : Agr (wkF [[(.rr t_impl_Item true)]] []) laws_toItemS_sh (laws_toItemS a) (evalFn laws_toItemS_c laws_toItemS_L Try.f43 [(V.inl t_laws_Item a)]) := by
  have h : evalFn laws_toItemS_c laws_toItemS_L Try.f43 [(V.inl t_laws_Item a)] = (bif (((decide ((0 : Int) ≤ (ln a))) && decide ((ln a) = (ln a))) && (roomy ((ln a).toNat) 88)) then rcall (laws_toItemS_l3 (((ln a) - 0).toNat + 1) a 0 (List.replicate ((ln a).toNat) (V.agg [(vi 0), (vi 0), (vi 0), (vi 0), (V.inl t_byte []), (V.inl t_byte []), (vi 0)]))) fun r10 => some ((V.rr t_impl_Item true r10), []) else none) := by kernel_rfl
  rw [h, laws_toItemS]
  clear h
  repeat' (first | exact A0 | refine A1 ?_ ?_ | refine A2 fun _ => ?_ | refine A3 fun _ => ?_ | exact A4 (by kernel_rfl))
def laws_toItemS_A : List S2 := [(.one (.inl t_laws_Item))]
def laws_toItemS_F (args : List V) : Option (List V) := laws_toItemS ((rd args 0).L)
def laws_toItemS_s (args : List V) : Option (Bool × (V × List V)) := bif argsOk laws_toItemS_A args then some ((laws_toItemS_F args).isSome, laws_toItemS_sh ((laws_toItemS_F args).getD default)) else none
theorem laws_toItemS_s_ok : ∀ args r, laws_toItemS_s args = some (true, r) → SumOk Try.prog tab 43 args r :=
  Base.sum (cfg := laws_toItemS_c) (F := laws_toItemS_F) (shr := laws_toItemS_sh) base laws_toItemS_c_ok Try.func43 (by kernel_rfl) laws_toItemS_lo laws_toItemS_A (by kernel_rfl) [[(.rr t_impl_Item true)]] [] (by kernel_rfl) fun args h => by
    have q := laws_toItemS_e ((rd args 0).L)
    rw [show [(V.inl t_laws_Item ((rd args 0).L))] = args from h] at q
    exact q
def laws_toBoolS_c : Cfg := ⟨tab, sumsOf [], fun _ => false, fun f => (look [] f).getD [], false, fun _ => false⟩
theorem laws_toBoolS_c_ok : SumsOk Try.prog tab laws_toBoolS_c.sums := sums_nil
def laws_toBoolS_l3_F (st : St) : Option (List V) := laws_toBoolS_l3 ((((((sv st 0).L).length : Nat) : Int) - ((sv st 2).I)).toNat + 1) ((sv st 0).L) ((sv st 2).I) (br st 0)
def laws_toBoolS_l3_ps (r_ : List V) : List (Ex × St) := [((Ex.exit 0), (⟨[(3, (vs 0 t_bool))], [(0, some (Blk.row t_bool true r_))], 1, []⟩ : St))]
def laws_toBoolS_l3_ss : SS := ⟨[(0, (.one (.inl t_bool))), (3, (.one (.sl 0 t_bool))), (4, (.one (.int .i64)))], [(.row t_bool true)], 1, []⟩
def laws_toBoolS_l3_e : LE := ⟨3, laws_toBoolS_l3_ss, fun st => Out.tst (laws_toBoolS_l3_F st).isSome (brs ((fun r_ => 0) ((laws_toBoolS_l3_F st).getD default)) 0 (laws_toBoolS_l3_ps ((laws_toBoolS_l3_F st).getD default)))⟩
def laws_toBoolS_L : Loops := ⟨fun k => (look [(3, [0, 3, 4])] k).getD [], fun k => (look [] k).getD [], fun k => (look [(3, [3])] k).getD [], runL [laws_toBoolS_l3_e]⟩
theorem laws_toBoolS_l3_ok (k_ : Nat) : ∀ (a0 : List V) (i4 : Int) (r0 : List V), Agr id (fun r_ => pick (0) 0 (laws_toBoolS_l3_ps r_)) (laws_toBoolS_l3 k_ a0 i4 r0) (rounds laws_toBoolS_c laws_toBoolS_L ((loopsIn (bodyOf Try.f44)).getD 0 .skip) k_ (⟨[(0, (V.inl t_bool a0)), (3, (vs 0 t_bool)), (4, (vi i4))], [(0, some (Blk.row t_bool true r0))], 1, []⟩ : St)) := by
  induction k_ with
  | zero => intros; exact A0
  | succ k_ ih =>
    intro a0 i4 r0
    have h : rounds laws_toBoolS_c laws_toBoolS_L ((loopsIn (bodyOf Try.f44)).getD 0 .skip) (k_ + 1) (⟨[(0, (V.inl t_bool a0)), (3, (vs 0 t_bool)), (4, (vi i4))], [(0, some (Blk.row t_bool true r0))], 1, []⟩ : St) = (bif (decide (i4 < (ln a0))) then bif (idxOk i4 a0.length) then bif (idxOk i4 r0.length) then rounds laws_toBoolS_c laws_toBoolS_L ((loopsIn (bodyOf Try.f44)).getD 0 .skip) k_ (⟨[(0, (V.inl t_bool a0)), (3, (vs 0 t_bool)), (4, (vi (w6 (i4 + 1))))], [(0, some (Blk.row t_bool true (r0.set (0 + i4.toNat) (V.bool (gb (rd a0 i4.toNat) 0)))))], 1, []⟩ : St) else none else none else some ((Ex.exit 0), (⟨[(3, (vs 0 t_bool))], [(0, some (Blk.row t_bool true r0))], 1, []⟩ : St))) := by kernel_rfl
    rw [h, laws_toBoolS_l3]
    clear h
    repeat' (first | exact A0 | refine A1 ?_ ?_ | refine A2 fun _ => ?_ | refine A3 fun _ => ?_ | exact A4 (by kernel_rfl) | exact ih _ _ _)
theorem laws_toBoolS_lo : LoopsOk laws_toBoolS_c laws_toBoolS_L (bodyOf Try.f44) := by
  refine GoodAll.ok (l := [laws_toBoolS_l3_e]) ?_ rfl
  refine GoodAll.cons 0 (by kernel_rfl) ?_ ?_
  · exact good_of (key := 3) (ss := laws_toBoolS_l3_ss) (F := laws_toBoolS_l3_F) (ix := fun r_ => 0) (ps := laws_toBoolS_l3_ps) (fun st => (((((sv st 0).L).length : Nat) : Int) - ((sv st 2).I)).toNat + 1) fun st h => by
      have q := laws_toBoolS_l3_ok ((((((sv st 0).L).length : Nat) : Int) - ((sv st 2).I)).toNat + 1) ((sv st 0).L) ((sv st 2).I) (br st 0)
      rw [show (⟨[(0, (V.inl t_bool ((sv st 0).L))), (3, (vs 0 t_bool)), (4, (vi ((sv st 2).I)))], [(0, some (Blk.row t_bool true (br st 0)))], 1, []⟩ : St) = st from h] at q
      exact q
  exact GoodAll.nil
def laws_toBoolS_sh (r_ : List V) : V × List V := ((V.rr t_bool true r_), [])
theorem laws_toBoolS_e (a : List V) : Agr (wkF [[(.rr t_bool true)]] []) laws_toBoolS_sh (laws_toBoolS a) (evalFn laws_toBoolS_c laws_toBoolS_L Try.f44 [(V.inl t_bool a)]) := by
  have h : evalFn laws_toBoolS_c laws_toBoolS_L Try.f44 [(V.inl t_bool a)] = (bif (((decide ((0 : Int) ≤ (ln a))) && decide ((ln a) = (ln a))) && (roomy ((ln a).toNat) 1)) then rcall (laws_toBoolS_l3 (((ln a) - 0).toNat + 1) a 0 (List.replicate ((ln a).toNat) (V.bool false))) fun r12 => some ((V.rr t_bool true r12), []) else none) := by kernel_rfl
  rw [h, laws_toBoolS]
  clear h
  repeat' (first | exact A0 | refine A1 ?_ ?_ | refine A2 fun _ => ?_ | refine A3 fun _ => ?_ | exact A4 (by kernel_rfl))
def laws_toBoolS_A : List S2 := [(.one (.inl t_bool))]
def laws_toBoolS_F (args : List V) : Option (List V) := laws_toBoolS ((rd args 0).L)
def laws_toBoolS_s (args : List V) : Option (Bool × (V × List V)) := bif argsOk laws_toBoolS_A args then some ((laws_toBoolS_F args).isSome, laws_toBoolS_sh ((laws_toBoolS_F args).getD default)) else none
theorem laws_toBoolS_s_ok : ∀ args r, laws_toBoolS_s args = some (true, r) → SumOk Try.prog tab 44 args r :=
  Base.sum (cfg := laws_toBoolS_c) (F := laws_toBoolS_F) (shr := laws_toBoolS_sh) base laws_toBoolS_c_ok Try.func44 (by kernel_rfl) laws_toBoolS_lo laws_toBoolS_A (by kernel_rfl) [[(.rr t_bool true)]] [] (by kernel_rfl) fun args h => by
    have q := laws_toBoolS_e ((rd args 0).L)
    rw [show [(V.inl t_bool ((rd args 0).L))] = args from h] at q
    exact q
def laws_toIntS_c : Cfg := ⟨tab, sumsOf [], fun _ => false, fun f => (look [] f).getD [], false, fun _ => false⟩
theorem laws_toIntS_c_ok : SumsOk Try.prog tab laws_toIntS_c.sums := sums_nil
def laws_toIntS_l3_F (st : St) : Option (List V) := laws_toIntS_l3 ((((((sv st 0).L).length : Nat) : Int) - ((sv st 2).I)).toNat + 1) ((sv st 0).L) ((sv st 2).I) (br st 0)
def laws_toIntS_l3_ps (r_ : List V) : List (Ex × St) := [((Ex.exit 0), (⟨[(3, (vs 0 t_int'))], [(0, some (Blk.row t_int' true r_))], 1, []⟩ : St))]
def laws_toIntS_l3_ss : SS := ⟨[(0, (.one (.inl t_int'))), (3, (.one (.sl 0 t_int'))), (4, (.one (.int .i64)))], [(.row t_int' true)], 1, []⟩
def laws_toIntS_l3_e : LE := ⟨3, laws_toIntS_l3_ss, fun st => Out.tst (laws_toIntS_l3_F st).isSome (brs ((fun r_ => 0) ((laws_toIntS_l3_F st).getD default)) 0 (laws_toIntS_l3_ps ((laws_toIntS_l3_F st).getD default)))⟩
def laws_toIntS_L : Loops := ⟨fun k => (look [(3, [0, 3, 4])] k).getD [], fun k => (look [] k).getD [], fun k => (look [(3, [3])] k).getD [], runL [laws_toIntS_l3_e]⟩
theorem laws_toIntS_l3_ok (k_ : Nat) : ∀ (a0 : List V) (i4 : Int) (r0 : List V), Agr id (fun r_ => pick (0) 0 (laws_toIntS_l3_ps r_)) (laws_toIntS_l3 k_ a0 i4 r0) (rounds laws_toIntS_c laws_toIntS_L ((loopsIn (bodyOf Try.f45)).getD 0 .skip) k_ (⟨[(0, (V.inl t_int' a0)), (3, (vs 0 t_int')), (4, (vi i4))], [(0, some (Blk.row t_int' true r0))], 1, []⟩ : St)) := by
  induction k_ with
  | zero => intros; exact A0
  | succ k_ ih =>
    intro a0 i4 r0
    have h : rounds laws_toIntS_c laws_toIntS_L ((loopsIn (bodyOf Try.f45)).getD 0 .skip) (k_ + 1) (⟨[(0, (V.inl t_int' a0)), (3, (vs 0 t_int')), (4, (vi i4))], [(0, some (Blk.row t_int' true r0))], 1, []⟩ : St) = (bif (decide (i4 < (ln a0))) then bif (idxOk i4 a0.length) then bif (idxOk i4 r0.length) then rounds laws_toIntS_c laws_toIntS_L ((loopsIn (bodyOf Try.f45)).getD 0 .skip) k_ (⟨[(0, (V.inl t_int' a0)), (3, (vs 0 t_int')), (4, (vi (w6 (i4 + 1))))], [(0, some (Blk.row t_int' true (r0.set (0 + i4.toNat) (vi (gi (rd a0 i4.toNat) 0)))))], 1, []⟩ : St) else none else none else some ((Ex.exit 0), (⟨[(3, (vs 0 t_int'))], [(0, some (Blk.row t_int' true r0))], 1, []⟩ : St))) := by kernel_rfl
    rw [h, laws_toIntS_l3]
    clear h
    repeat' (first | exact A0 | refine A1 ?_ ?_ | refine A2 fun _ => ?_ | refine A3 fun _ => ?_ | exact A4 (by kernel_rfl) | exact ih _ _ _)
theorem laws_toIntS_lo : LoopsOk laws_toIntS_c laws_toIntS_L (bodyOf Try.f45) := by
  refine GoodAll.ok (l := [laws_toIntS_l3_e]) ?_ rfl
  refine GoodAll.cons 0 (by kernel_rfl) ?_ ?_
  · exact good_of (key := 3) (ss := laws_toIntS_l3_ss) (F := laws_toIntS_l3_F) (ix := fun r_ => 0) (ps := laws_toIntS_l3_ps) (fun st => (((((sv st 0).L).length : Nat) : Int) - ((sv st 2).I)).toNat + 1) fun st h => by
      have q := laws_toIntS_l3_ok ((((((sv st 0).L).length : Nat) : Int) - ((sv st 2).I)).toNat + 1) ((sv st 0).L) ((sv st 2).I) (br st 0)
      rw [show (⟨[(0, (V.inl t_int' ((sv st 0).L))), (3, (vs 0 t_int')), (4, (vi ((sv st 2).I)))], [(0, some (Blk.row t_int' true (br st 0)))], 1, []⟩ : St) = st from h] at q
      exact q
  exact GoodAll.nil
def laws_toIntS_sh (r_ : List V) : V × List V := ((V.rr t_int' true r_), [])
theorem laws_toIntS_e (a : List V) : Agr (wkF [[(.rr t_int' true)]] []) laws_toIntS_sh (laws_toIntS a) (evalFn laws_toIntS_c laws_toIntS_L Try.f45 [(V.inl t_int' a)]) := by
  have h : evalFn laws_toIntS_c laws_toIntS_L Try.f45 [(V.inl t_int' a)] = (bif (((decide ((0 : Int) ≤ (ln a))) && decide ((ln a) = (ln a))) && (roomy ((ln a).toNat) 8)) then rcall (laws_toIntS_l3 (((ln a) - 0).toNat + 1) a 0 (List.replicate ((ln a).toNat) (vi 0))) fun r14 => some ((V.rr t_int' true r14), []) else none) := by kernel_rfl
  rw [h, laws_toIntS]
  clear h
  repeat' (first | exact A0 | refine A1 ?_ ?_ | refine A2 fun _ => ?_ | refine A3 fun _ => ?_ | exact A4 (by kernel_rfl))
def laws_toIntS_A : List S2 := [(.one (.inl t_int'))]
def laws_toIntS_F (args : List V) : Option (List V) := laws_toIntS ((rd args 0).L)
def laws_toIntS_s (args : List V) : Option (Bool × (V × List V)) := bif argsOk laws_toIntS_A args then some ((laws_toIntS_F args).isSome, laws_toIntS_sh ((laws_toIntS_F args).getD default)) else none
theorem laws_toIntS_s_ok : ∀ args r, laws_toIntS_s args = some (true, r) → SumOk Try.prog tab 45 args r :=
  Base.sum (cfg := laws_toIntS_c) (F := laws_toIntS_F) (shr := laws_toIntS_sh) base laws_toIntS_c_ok Try.func45 (by kernel_rfl) laws_toIntS_lo laws_toIntS_A (by kernel_rfl) [[(.rr t_int' true)]] [] (by kernel_rfl) fun args h => by
    have q := laws_toIntS_e ((rd args 0).L)
    rw [show [(V.inl t_int' ((rd args 0).L))] = args from h] at q
    exact q
def laws_toNode_c : Cfg := ⟨tab, sumsOf [(43, laws_toItemS_s), (44, laws_toBoolS_s), (45, laws_toIntS_s)], fun _ => false, fun f => (look [(43, [some t_laws_Item]), (44, [some t_bool]), (45, [some t_int'])] f).getD [], false, fun _ => false⟩
theorem laws_toNode_c_ok : SumsOk Try.prog tab laws_toNode_c.sums := sums_cons f43_en laws_toItemS_s_ok (sums_cons f44_en laws_toBoolS_s_ok (sums_cons f45_en laws_toIntS_s_ok (sums_nil)))
abbrev laws_toNode_L : Loops := noL
def laws_toNode_sh (r_ : V) : V × List V := ((h10 r_), [])
theorem laws_toNode_e (a : V) : Agr (wkF [q11] []) laws_toNode_sh (laws_toNode a) (evalFn laws_toNode_c laws_toNode_L Try.f10 [(n_laws_Node a)]) := by
  have h : evalFn laws_toNode_c laws_toNode_L Try.f10 [(n_laws_Node a)] = (rcall (laws_toItemS (gl a 3)) fun r11 => rcall (laws_toBoolS (gl a 8)) fun r13 => rcall (laws_toIntS (gl a 9)) fun r15 => rcall (laws_toIntS (gl a 10)) fun r16 => some ((V.agg [(vi (gi a 0)), (vi (gi a 1)), (vi (gi a 2)), (V.rr t_impl_Item true r11), (vi (gi a 4)), (vi (gi a 5)), (vi (gi a 6)), (vi (gi a 7)), (V.rr t_bool true r13), (V.rr t_int' true r15), (V.rr t_int' true r16)]), [])) := by kernel_rfl
  rw [h, laws_toNode]
  clear h
  repeat' (first | exact A0 | refine A1 ?_ ?_ | refine A2 fun _ => ?_ | refine A3 fun _ => ?_ | exact A4 (by kernel_rfl))
def laws_toNode_A : List S2 := [(.agg q3)]
def laws_toNode_F (args : List V) : Option (V) := laws_toNode (rd args 0)
def laws_toNode_s (args : List V) : Option (Bool × (V × List V)) := bif argsOk laws_toNode_A args then some ((laws_toNode_F args).isSome, laws_toNode_sh ((laws_toNode_F args).getD default)) else none
theorem laws_toNode_s_ok : ∀ args r, laws_toNode_s args = some (true, r) → SumOk Try.prog tab 10 args r :=
  Base.sum (cfg := laws_toNode_c) (F := laws_toNode_F) (shr := laws_toNode_sh) base laws_toNode_c_ok Try.func10 (by kernel_rfl) noLo laws_toNode_A (by kernel_rfl) [q11] [] (by kernel_rfl) fun args h => by
    have q := laws_toNode_e (rd args 0)
    rw [show [(n_laws_Node (rd args 0))] = args from h] at q
    exact q
def spec_l4servers_c : Cfg := ⟨tab, sumsOf [], fun _ => false, fun f => (look [] f).getD [], false, fun _ => false⟩
theorem spec_l4servers_c_ok : SumsOk Try.prog tab spec_l4servers_c.sums := sums_nil
abbrev spec_l4servers_L : Loops := noL
def spec_l4servers_sh (r_ : Bool) : V × List V := ((V.bool r_), [])
theorem spec_l4servers_e (n : Int) : Tot (wkF [[.dead]] []) spec_l4servers_sh (spec_l4servers n) (evalFn spec_l4servers_c spec_l4servers_L Try.f83 [(vi n)]) := by
  have h : evalFn spec_l4servers_c spec_l4servers_L Try.f83 [(vi n)] = (bif (decide ((1 : Int) ≤ n)) then some ((V.bool (decide (n ≤ 5))), []) else some ((V.bool false), [])) := by kernel_rfl
  rw [h, spec_l4servers]
  clear h
  repeat' (first | refine A5 ?_ ?_ | refine A6 fun _ => ?_ | exact A7 (by kernel_rfl))
def spec_l4servers_A : List S2 := [(.one (.int .i64))]
def spec_l4servers_F (args : List V) : Bool := spec_l4servers ((rd args 0).I)
def spec_l4servers_s (args : List V) : Option (Bool × (V × List V)) := bif argsOk spec_l4servers_A args then some (true, spec_l4servers_sh (spec_l4servers_F args)) else none
theorem spec_l4servers_s_ok : ∀ args r, spec_l4servers_s args = some (true, r) → SumOk Try.prog tab 83 args r :=
  Base.sumT (cfg := spec_l4servers_c) (F := spec_l4servers_F) (shr := spec_l4servers_sh) base spec_l4servers_c_ok Try.func83 (by kernel_rfl) noLo spec_l4servers_A (by kernel_rfl) [[.dead]] [] (by kernel_rfl) fun args h => by
    have q := spec_l4servers_e ((rd args 0).I)
    rw [show [(vi ((rd args 0).I))] = args from h] at q
    exact q
def spec_l3term_c : Cfg := ⟨tab, sumsOf [], fun _ => false, fun f => (look [] f).getD [], false, fun _ => false⟩
theorem spec_l3term_c_ok : SumsOk Try.prog tab spec_l3term_c.sums := sums_nil
abbrev spec_l3term_L : Loops := noL
def spec_l3term_sh (r_ : Bool) : V × List V := ((V.bool r_), [])
theorem spec_l3term_e (n : Int) : Tot (wkF [[.dead]] []) spec_l3term_sh (spec_l3term n) (evalFn spec_l3term_c spec_l3term_L Try.f84 [(vi n)]) := by
  have h : evalFn spec_l3term_c spec_l3term_L Try.f84 [(vi n)] = (bif (decide ((0 : Int) ≤ n)) then some ((V.bool (decide (n ≤ 100000))), []) else some ((V.bool false), [])) := by kernel_rfl
  rw [h, spec_l3term]
  clear h
  repeat' (first | refine A5 ?_ ?_ | refine A6 fun _ => ?_ | exact A7 (by kernel_rfl))
def spec_l3term_A : List S2 := [(.one (.int .i64))]
def spec_l3term_F (args : List V) : Bool := spec_l3term ((rd args 0).I)
def spec_l3term_s (args : List V) : Option (Bool × (V × List V)) := bif argsOk spec_l3term_A args then some (true, spec_l3term_sh (spec_l3term_F args)) else none
theorem spec_l3term_s_ok : ∀ args r, spec_l3term_s args = some (true, r) → SumOk Try.prog tab 84 args r :=
  Base.sumT (cfg := spec_l3term_c) (F := spec_l3term_F) (shr := spec_l3term_sh) base spec_l3term_c_ok Try.func84 (by kernel_rfl) noLo spec_l3term_A (by kernel_rfl) [[.dead]] [] (by kernel_rfl) fun args h => by
    have q := spec_l3term_e ((rd args 0).I)
    rw [show [(vi ((rd args 0).I))] = args from h] at q
    exact q
def spec_l4who_c : Cfg := ⟨tab, sumsOf [], fun _ => false, fun f => (look [] f).getD [], false, fun _ => false⟩
theorem spec_l4who_c_ok : SumsOk Try.prog tab spec_l4who_c.sums := sums_nil
abbrev spec_l4who_L : Loops := noL
def spec_l4who_sh (r_ : Bool) : V × List V := ((V.bool r_), [])
theorem spec_l4who_e (n : Int) (servers : Int) : Tot (wkF [[.dead]] []) spec_l4who_sh (spec_l4who n servers) (evalFn spec_l4who_c spec_l4who_L Try.f85 [(vi n), (vi servers)]) := by
  have h : evalFn spec_l4who_c spec_l4who_L Try.f85 [(vi n), (vi servers)] = (bif (decide ((-1 : Int) ≤ n)) then some ((V.bool (decide (n < servers))), []) else some ((V.bool false), [])) := by kernel_rfl
  rw [h, spec_l4who]
  clear h
  repeat' (first | refine A5 ?_ ?_ | refine A6 fun _ => ?_ | exact A7 (by kernel_rfl))
def spec_l4who_A : List S2 := [(.one (.int .i64)), (.one (.int .i64))]
def spec_l4who_F (args : List V) : Bool := spec_l4who ((rd args 0).I) ((rd args 1).I)
def spec_l4who_s (args : List V) : Option (Bool × (V × List V)) := bif argsOk spec_l4who_A args then some (true, spec_l4who_sh (spec_l4who_F args)) else none
theorem spec_l4who_s_ok : ∀ args r, spec_l4who_s args = some (true, r) → SumOk Try.prog tab 85 args r :=
  Base.sumT (cfg := spec_l4who_c) (F := spec_l4who_F) (shr := spec_l4who_sh) base spec_l4who_c_ok Try.func85 (by kernel_rfl) noLo spec_l4who_A (by kernel_rfl) [[.dead]] [] (by kernel_rfl) fun args h => by
    have q := spec_l4who_e ((rd args 0).I) ((rd args 1).I)
    rw [show [(vi ((rd args 0).I)), (vi ((rd args 1).I))] = args from h] at q
    exact q
def spec_l2val_c : Cfg := ⟨tab, sumsOf [], fun _ => false, fun f => (look [] f).getD [], false, fun _ => false⟩
theorem spec_l2val_c_ok : SumsOk Try.prog tab spec_l2val_c.sums := sums_nil
abbrev spec_l2val_L : Loops := noL
def spec_l2val_sh (r_ : Bool) : V × List V := ((V.bool r_), [])
theorem spec_l2val_e (b : List V) : Tot (wkF [[.dead]] []) spec_l2val_sh (spec_l2val b) (evalFn spec_l2val_c spec_l2val_L Try.f133 [(V.inl t_byte b)]) := by
  have h : evalFn spec_l2val_c spec_l2val_L Try.f133 [(V.inl t_byte b)] = (some ((V.bool (decide ((ln b) ≤ 20))), [])) := by kernel_rfl
  rw [h, spec_l2val]
  clear h
  repeat' (first | refine A5 ?_ ?_ | refine A6 fun _ => ?_ | exact A7 (by kernel_rfl))
def spec_l2val_A : List S2 := [(.one (.inl t_byte))]
def spec_l2val_F (args : List V) : Bool := spec_l2val ((rd args 0).L)
def spec_l2val_s (args : List V) : Option (Bool × (V × List V)) := bif argsOk spec_l2val_A args then some (true, spec_l2val_sh (spec_l2val_F args)) else none
theorem spec_l2val_s_ok : ∀ args r, spec_l2val_s args = some (true, r) → SumOk Try.prog tab 133 args r :=
  Base.sumT (cfg := spec_l2val_c) (F := spec_l2val_F) (shr := spec_l2val_sh) base spec_l2val_c_ok Try.func133 (by kernel_rfl) noLo spec_l2val_A (by kernel_rfl) [[.dead]] [] (by kernel_rfl) fun args h => by
    have q := spec_l2val_e ((rd args 0).L)
    rw [show [(V.inl t_byte ((rd args 0).L))] = args from h] at q
    exact q
def spec_l2index_c : Cfg := ⟨tab, sumsOf [], fun _ => false, fun f => (look [] f).getD [], false, fun _ => false⟩
theorem spec_l2index_c_ok : SumsOk Try.prog tab spec_l2index_c.sums := sums_nil
abbrev spec_l2index_L : Loops := noL
def spec_l2index_sh (r_ : Bool) : V × List V := ((V.bool r_), [])
theorem spec_l2index_e (n : Int) : Tot (wkF [[.dead]] []) spec_l2index_sh (spec_l2index n) (evalFn spec_l2index_c spec_l2index_L Try.f134 [(vi n)]) := by
  have h : evalFn spec_l2index_c spec_l2index_L Try.f134 [(vi n)] = (bif (decide ((0 : Int) ≤ n)) then some ((V.bool (decide (n ≤ 1000000))), []) else some ((V.bool false), [])) := by kernel_rfl
  rw [h, spec_l2index]
  clear h
  repeat' (first | refine A5 ?_ ?_ | refine A6 fun _ => ?_ | exact A7 (by kernel_rfl))
def spec_l2index_A : List S2 := [(.one (.int .i64))]
def spec_l2index_F (args : List V) : Bool := spec_l2index ((rd args 0).I)
def spec_l2index_s (args : List V) : Option (Bool × (V × List V)) := bif argsOk spec_l2index_A args then some (true, spec_l2index_sh (spec_l2index_F args)) else none
theorem spec_l2index_s_ok : ∀ args r, spec_l2index_s args = some (true, r) → SumOk Try.prog tab 134 args r :=
  Base.sumT (cfg := spec_l2index_c) (F := spec_l2index_F) (shr := spec_l2index_sh) base spec_l2index_c_ok Try.func134 (by kernel_rfl) noLo spec_l2index_A (by kernel_rfl) [[.dead]] [] (by kernel_rfl) fun args h => by
    have q := spec_l2index_e ((rd args 0).I)
    rw [show [(vi ((rd args 0).I))] = args from h] at q
    exact q
def spec_l2key_c : Cfg := ⟨tab, sumsOf [], fun _ => false, fun f => (look [] f).getD [], false, fun _ => false⟩
theorem spec_l2key_c_ok : SumsOk Try.prog tab spec_l2key_c.sums := sums_nil
def spec_l2key_l4_F (st : St) : Option (Nat × Bool) := spec_l2key_l4 ((((((sv st 0).L).length : Nat) : Int) - ((sv st 1).I)).toNat + 1) ((sv st 0).L) ((sv st 1).I)
def spec_l2key_l4_ps (r_ : Nat × Bool) : List (Ex × St) := [(Ex.ret, (⟨[(2, (V.bool r_.2))], [], 0, []⟩ : St)), ((Ex.exit 0), (⟨[(2, V.dead)], [], 0, []⟩ : St))]
def spec_l2key_l4_ss : SS := ⟨[(0, (.one (.inl t_byte))), (3, (.one (.int .i64)))], [], 0, []⟩
def spec_l2key_l4_e : LE := ⟨4, spec_l2key_l4_ss, fun st => Out.tst (spec_l2key_l4_F st).isSome (brs ((fun r_ => r_.1) ((spec_l2key_l4_F st).getD default)) 0 (spec_l2key_l4_ps ((spec_l2key_l4_F st).getD default)))⟩
def spec_l2key_L : Loops := ⟨fun k => (look [(4, [0, 3])] k).getD [], fun k => (look [] k).getD [], fun k => (look [(4, [2])] k).getD [], runL [spec_l2key_l4_e]⟩
set_option maxRecDepth 100000 in
theorem spec_l2key_l4_ok (k_ : Nat) : ∀ (b0 : List V) (i3 : Int), Agr id (fun r_ => pick (r_.1) 0 (spec_l2key_l4_ps r_)) (spec_l2key_l4 k_ b0 i3) (rounds spec_l2key_c spec_l2key_L ((loopsIn (bodyOf Try.f135)).getD 0 .skip) k_ (⟨[(0, (V.inl t_byte b0)), (3, (vi i3))], [], 0, []⟩ : St)) := by
  induction k_ with
  | zero => intros; exact A0
  | succ k_ ih =>
    intro b0 i3
    have h : rounds spec_l2key_c spec_l2key_L ((loopsIn (bodyOf Try.f135)).getD 0 .skip) (k_ + 1) (⟨[(0, (V.inl t_byte b0)), (3, (vi i3))], [], 0, []⟩ : St) = (bif (decide (i3 < (ln b0))) then bif (idxOk i3 b0.length) then bif (decide ((gi (rd b0 i3.toNat) 0) < 97)) then bif (idxOk i3 b0.length) then bif (!(decide ((gi (rd b0 i3.toNat) 0) = 47))) then some (Ex.ret, (⟨[(2, (V.bool false))], [], 0, []⟩ : St)) else rounds spec_l2key_c spec_l2key_L ((loopsIn (bodyOf Try.f135)).getD 0 .skip) k_ (⟨[(0, (V.inl t_byte b0)), (3, (vi (w6 (i3 + 1))))], [], 0, []⟩ : St) else none else bif (idxOk i3 b0.length) then bif (decide ((122 : Int) < (gi (rd b0 i3.toNat) 0))) then bif (idxOk i3 b0.length) then bif (!(decide ((gi (rd b0 i3.toNat) 0) = 47))) then some (Ex.ret, (⟨[(2, (V.bool false))], [], 0, []⟩ : St)) else rounds spec_l2key_c spec_l2key_L ((loopsIn (bodyOf Try.f135)).getD 0 .skip) k_ (⟨[(0, (V.inl t_byte b0)), (3, (vi (w6 (i3 + 1))))], [], 0, []⟩ : St) else none else rounds spec_l2key_c spec_l2key_L ((loopsIn (bodyOf Try.f135)).getD 0 .skip) k_ (⟨[(0, (V.inl t_byte b0)), (3, (vi (w6 (i3 + 1))))], [], 0, []⟩ : St) else none else none else some ((Ex.exit 0), (⟨[(2, V.dead)], [], 0, []⟩ : St))) := by kernel_rfl
    rw [h, spec_l2key_l4]
    clear h
    repeat' (first | exact A0 | refine A1 ?_ ?_ | refine A2 fun _ => ?_ | refine A3 fun _ => ?_ | exact A4 (by kernel_rfl) | exact ih _ _)
theorem spec_l2key_lo : LoopsOk spec_l2key_c spec_l2key_L (bodyOf Try.f135) := by
  refine GoodAll.ok (l := [spec_l2key_l4_e]) ?_ rfl
  refine GoodAll.cons 0 (by kernel_rfl) ?_ ?_
  · exact good_of (key := 4) (ss := spec_l2key_l4_ss) (F := spec_l2key_l4_F) (ix := fun r_ => r_.1) (ps := spec_l2key_l4_ps) (fun st => (((((sv st 0).L).length : Nat) : Int) - ((sv st 1).I)).toNat + 1) fun st h => by
      have q := spec_l2key_l4_ok ((((((sv st 0).L).length : Nat) : Int) - ((sv st 1).I)).toNat + 1) ((sv st 0).L) ((sv st 1).I)
      rw [show (⟨[(0, (V.inl t_byte ((sv st 0).L))), (3, (vi ((sv st 1).I)))], [], 0, []⟩ : St) = st from h] at q
      exact q
  exact GoodAll.nil
def spec_l2key_sh (r_ : Bool) : V × List V := ((V.bool r_), [])
theorem spec_l2key_e (b : List V) : Agr (wkF [[.dead]] []) spec_l2key_sh (spec_l2key b) (evalFn spec_l2key_c spec_l2key_L Try.f135 [(V.inl t_byte b)]) := by
  have h : evalFn spec_l2key_c spec_l2key_L Try.f135 [(V.inl t_byte b)] = (bif (decide ((ln b) < 1)) then some ((V.bool false), []) else bif (decide ((20 : Int) < (ln b))) then some ((V.bool false), []) else rcall (spec_l2key_l4 (((ln b) - 0).toNat + 1) b 0) fun r18 => bif (Nat.beq r18.1 0) then some ((V.bool r18.2), []) else some ((V.bool true), [])) := by kernel_rfl
  rw [h, spec_l2key]
  clear h
  repeat' (first | exact A0 | refine A1 ?_ ?_ | refine A2 fun _ => ?_ | refine A3 fun _ => ?_ | exact A4 (by kernel_rfl))
def spec_l2key_A : List S2 := [(.one (.inl t_byte))]
def spec_l2key_F (args : List V) : Option (Bool) := spec_l2key ((rd args 0).L)
def spec_l2key_s (args : List V) : Option (Bool × (V × List V)) := bif argsOk spec_l2key_A args then some ((spec_l2key_F args).isSome, spec_l2key_sh ((spec_l2key_F args).getD default)) else none
theorem spec_l2key_s_ok : ∀ args r, spec_l2key_s args = some (true, r) → SumOk Try.prog tab 135 args r :=
  Base.sum (cfg := spec_l2key_c) (F := spec_l2key_F) (shr := spec_l2key_sh) base spec_l2key_c_ok Try.func135 (by kernel_rfl) spec_l2key_lo spec_l2key_A (by kernel_rfl) [[.dead]] [] (by kernel_rfl) fun args h => by
    have q := spec_l2key_e ((rd args 0).L)
    rw [show [(V.inl t_byte ((rd args 0).L))] = args from h] at q
    exact q
def spec_OpOk_c : Cfg := ⟨tab, sumsOf [(133, spec_l2val_s), (134, spec_l2index_s), (135, spec_l2key_s)], fun _ => false, fun f => (look [(133, [some t_byte]), (134, [none]), (135, [some t_byte])] f).getD [], false, fun _ => false⟩
theorem spec_OpOk_c_ok : SumsOk Try.prog tab spec_OpOk_c.sums := sums_cons f133_en spec_l2val_s_ok (sums_cons f134_en spec_l2index_s_ok (sums_cons f135_en spec_l2key_s_ok (sums_nil)))
abbrev spec_OpOk_L : Loops := noL
def spec_OpOk_sh (r_ : Bool) : V × List V := ((V.bool r_), [])
set_option maxRecDepth 100000 in
theorem spec_OpOk_e (o : V) : Agr (wkF [[.dead]] []) spec_OpOk_sh (spec_OpOk o) (evalFn spec_OpOk_c spec_OpOk_L Try.f105 [(n_laws_Op o)]) := by
  have h : evalFn spec_OpOk_c spec_OpOk_L Try.f105 [(n_laws_Op o)] = (bif (decide ((gi o 0) < 0)) then some ((V.bool false), []) else bif (decide ((7 : Int) < (gi o 0))) then some ((V.bool false), []) else bif (!(spec_l2val (gl o 2))) then some ((V.bool false), []) else bif (!(spec_l2index (gi o 3))) then some ((V.bool false), []) else bif (decide ((gi o 0) = 1)) then rcall (spec_l2key (gl o 1)) fun r19 => bif (!r19) then some ((V.bool false), []) else bif (decide ((gi o 0) = 1)) then bif (decide ((gi o 0) = 0)) then some ((V.bool (decide ((gi o 3) = 0))), []) else bif (decide ((gi o 0) = 1)) then some ((V.bool (decide ((gi o 3) = 0))), []) else bif (decide ((gi o 0) = 3)) then some ((V.bool (decide ((gi o 3) = 0))), []) else bif (decide ((gi o 0) = 4)) then some ((V.bool (decide ((gi o 3) ≤ 1))), []) else bif (decide ((gi o 0) = 2)) then some ((V.bool true), []) else some ((V.bool (decide ((1 : Int) ≤ (gi o 3)))), []) else bif (decide ((gi o 0) = 2)) then bif (decide ((gi o 0) = 0)) then some ((V.bool (decide ((gi o 3) = 0))), []) else bif (decide ((gi o 0) = 1)) then some ((V.bool (decide ((gi o 3) = 0))), []) else bif (decide ((gi o 0) = 3)) then some ((V.bool (decide ((gi o 3) = 0))), []) else bif (decide ((gi o 0) = 4)) then some ((V.bool (decide ((gi o 3) ≤ 1))), []) else bif (decide ((gi o 0) = 2)) then some ((V.bool true), []) else some ((V.bool (decide ((1 : Int) ≤ (gi o 3)))), []) else bif (!(decide ((gi o 0) = 6))) then bif (decide ((0 : Int) < (((gl o 2).length : Nat) : Int))) then some ((V.bool false), []) else bif (decide ((gi o 0) = 0)) then some ((V.bool (decide ((gi o 3) = 0))), []) else bif (decide ((gi o 0) = 1)) then some ((V.bool (decide ((gi o 3) = 0))), []) else bif (decide ((gi o 0) = 3)) then some ((V.bool (decide ((gi o 3) = 0))), []) else bif (decide ((gi o 0) = 4)) then some ((V.bool (decide ((gi o 3) ≤ 1))), []) else bif (decide ((gi o 0) = 2)) then some ((V.bool true), []) else some ((V.bool (decide ((1 : Int) ≤ (gi o 3)))), []) else bif (decide ((gi o 0) = 0)) then some ((V.bool (decide ((gi o 3) = 0))), []) else bif (decide ((gi o 0) = 1)) then some ((V.bool (decide ((gi o 3) = 0))), []) else bif (decide ((gi o 0) = 3)) then some ((V.bool (decide ((gi o 3) = 0))), []) else bif (decide ((gi o 0) = 4)) then some ((V.bool (decide ((gi o 3) ≤ 1))), []) else bif (decide ((gi o 0) = 2)) then some ((V.bool true), []) else some ((V.bool (decide ((1 : Int) ≤ (gi o 3)))), []) else bif (decide ((gi o 0) = 2)) then rcall (spec_l2key (gl o 1)) fun r20 => bif (!r20) then some ((V.bool false), []) else bif (decide ((gi o 0) = 1)) then bif (decide ((gi o 0) = 0)) then some ((V.bool (decide ((gi o 3) = 0))), []) else bif (decide ((gi o 0) = 1)) then some ((V.bool (decide ((gi o 3) = 0))), []) else bif (decide ((gi o 0) = 3)) then some ((V.bool (decide ((gi o 3) = 0))), []) else bif (decide ((gi o 0) = 4)) then some ((V.bool (decide ((gi o 3) ≤ 1))), []) else bif (decide ((gi o 0) = 2)) then some ((V.bool true), []) else some ((V.bool (decide ((1 : Int) ≤ (gi o 3)))), []) else bif (decide ((gi o 0) = 2)) then bif (decide ((gi o 0) = 0)) then some ((V.bool (decide ((gi o 3) = 0))), []) else bif (decide ((gi o 0) = 1)) then some ((V.bool (decide ((gi o 3) = 0))), []) else bif (decide ((gi o 0) = 3)) then some ((V.bool (decide ((gi o 3) = 0))), []) else bif (decide ((gi o 0) = 4)) then some ((V.bool (decide ((gi o 3) ≤ 1))), []) else bif (decide ((gi o 0) = 2)) then some ((V.bool true), []) else some ((V.bool (decide ((1 : Int) ≤ (gi o 3)))), []) else bif (!(decide ((gi o 0) = 6))) then bif (decide ((0 : Int) < (((gl o 2).length : Nat) : Int))) then some ((V.bool false), []) else bif (decide ((gi o 0) = 0)) then some ((V.bool (decide ((gi o 3) = 0))), []) else bif (decide ((gi o 0) = 1)) then some ((V.bool (decide ((gi o 3) = 0))), []) else bif (decide ((gi o 0) = 3)) then some ((V.bool (decide ((gi o 3) = 0))), []) else bif (decide ((gi o 0) = 4)) then some ((V.bool (decide ((gi o 3) ≤ 1))), []) else bif (decide ((gi o 0) = 2)) then some ((V.bool true), []) else some ((V.bool (decide ((1 : Int) ≤ (gi o 3)))), []) else bif (decide ((gi o 0) = 0)) then some ((V.bool (decide ((gi o 3) = 0))), []) else bif (decide ((gi o 0) = 1)) then some ((V.bool (decide ((gi o 3) = 0))), []) else bif (decide ((gi o 0) = 3)) then some ((V.bool (decide ((gi o 3) = 0))), []) else bif (decide ((gi o 0) = 4)) then some ((V.bool (decide ((gi o 3) ≤ 1))), []) else bif (decide ((gi o 0) = 2)) then some ((V.bool true), []) else some ((V.bool (decide ((1 : Int) ≤ (gi o 3)))), []) else bif (decide ((gi o 0) = 3)) then rcall (spec_l2key (gl o 1)) fun r21 => bif (!r21) then some ((V.bool false), []) else bif (decide ((gi o 0) = 1)) then bif (decide ((gi o 0) = 0)) then some ((V.bool (decide ((gi o 3) = 0))), []) else bif (decide ((gi o 0) = 1)) then some ((V.bool (decide ((gi o 3) = 0))), []) else bif (decide ((gi o 0) = 3)) then some ((V.bool (decide ((gi o 3) = 0))), []) else bif (decide ((gi o 0) = 4)) then some ((V.bool (decide ((gi o 3) ≤ 1))), []) else bif (decide ((gi o 0) = 2)) then some ((V.bool true), []) else some ((V.bool (decide ((1 : Int) ≤ (gi o 3)))), []) else bif (decide ((gi o 0) = 2)) then bif (decide ((gi o 0) = 0)) then some ((V.bool (decide ((gi o 3) = 0))), []) else bif (decide ((gi o 0) = 1)) then some ((V.bool (decide ((gi o 3) = 0))), []) else bif (decide ((gi o 0) = 3)) then some ((V.bool (decide ((gi o 3) = 0))), []) else bif (decide ((gi o 0) = 4)) then some ((V.bool (decide ((gi o 3) ≤ 1))), []) else bif (decide ((gi o 0) = 2)) then some ((V.bool true), []) else some ((V.bool (decide ((1 : Int) ≤ (gi o 3)))), []) else bif (!(decide ((gi o 0) = 6))) then bif (decide ((0 : Int) < (((gl o 2).length : Nat) : Int))) then some ((V.bool false), []) else bif (decide ((gi o 0) = 0)) then some ((V.bool (decide ((gi o 3) = 0))), []) else bif (decide ((gi o 0) = 1)) then some ((V.bool (decide ((gi o 3) = 0))), []) else bif (decide ((gi o 0) = 3)) then some ((V.bool (decide ((gi o 3) = 0))), []) else bif (decide ((gi o 0) = 4)) then some ((V.bool (decide ((gi o 3) ≤ 1))), []) else bif (decide ((gi o 0) = 2)) then some ((V.bool true), []) else some ((V.bool (decide ((1 : Int) ≤ (gi o 3)))), []) else bif (decide ((gi o 0) = 0)) then some ((V.bool (decide ((gi o 3) = 0))), []) else bif (decide ((gi o 0) = 1)) then some ((V.bool (decide ((gi o 3) = 0))), []) else bif (decide ((gi o 0) = 3)) then some ((V.bool (decide ((gi o 3) = 0))), []) else bif (decide ((gi o 0) = 4)) then some ((V.bool (decide ((gi o 3) ≤ 1))), []) else bif (decide ((gi o 0) = 2)) then some ((V.bool true), []) else some ((V.bool (decide ((1 : Int) ≤ (gi o 3)))), []) else bif (decide ((gi o 0) = 6)) then rcall (spec_l2key (gl o 1)) fun r22 => bif (!r22) then some ((V.bool false), []) else bif (decide ((gi o 0) = 1)) then bif (decide ((gi o 0) = 0)) then some ((V.bool (decide ((gi o 3) = 0))), []) else bif (decide ((gi o 0) = 1)) then some ((V.bool (decide ((gi o 3) = 0))), []) else bif (decide ((gi o 0) = 3)) then some ((V.bool (decide ((gi o 3) = 0))), []) else bif (decide ((gi o 0) = 4)) then some ((V.bool (decide ((gi o 3) ≤ 1))), []) else bif (decide ((gi o 0) = 2)) then some ((V.bool true), []) else some ((V.bool (decide ((1 : Int) ≤ (gi o 3)))), []) else bif (decide ((gi o 0) = 2)) then bif (decide ((gi o 0) = 0)) then some ((V.bool (decide ((gi o 3) = 0))), []) else bif (decide ((gi o 0) = 1)) then some ((V.bool (decide ((gi o 3) = 0))), []) else bif (decide ((gi o 0) = 3)) then some ((V.bool (decide ((gi o 3) = 0))), []) else bif (decide ((gi o 0) = 4)) then some ((V.bool (decide ((gi o 3) ≤ 1))), []) else bif (decide ((gi o 0) = 2)) then some ((V.bool true), []) else some ((V.bool (decide ((1 : Int) ≤ (gi o 3)))), []) else bif (!(decide ((gi o 0) = 6))) then bif (decide ((0 : Int) < (((gl o 2).length : Nat) : Int))) then some ((V.bool false), []) else bif (decide ((gi o 0) = 0)) then some ((V.bool (decide ((gi o 3) = 0))), []) else bif (decide ((gi o 0) = 1)) then some ((V.bool (decide ((gi o 3) = 0))), []) else bif (decide ((gi o 0) = 3)) then some ((V.bool (decide ((gi o 3) = 0))), []) else bif (decide ((gi o 0) = 4)) then some ((V.bool (decide ((gi o 3) ≤ 1))), []) else bif (decide ((gi o 0) = 2)) then some ((V.bool true), []) else some ((V.bool (decide ((1 : Int) ≤ (gi o 3)))), []) else bif (decide ((gi o 0) = 0)) then some ((V.bool (decide ((gi o 3) = 0))), []) else bif (decide ((gi o 0) = 1)) then some ((V.bool (decide ((gi o 3) = 0))), []) else bif (decide ((gi o 0) = 3)) then some ((V.bool (decide ((gi o 3) = 0))), []) else bif (decide ((gi o 0) = 4)) then some ((V.bool (decide ((gi o 3) ≤ 1))), []) else bif (decide ((gi o 0) = 2)) then some ((V.bool true), []) else some ((V.bool (decide ((1 : Int) ≤ (gi o 3)))), []) else bif (decide ((gi o 0) = 7)) then rcall (spec_l2key (gl o 1)) fun r23 => bif (!r23) then some ((V.bool false), []) else bif (!(decide ((gi o 0) = 7))) then bif (decide ((0 : Int) < (((gl o 1).length : Nat) : Int))) then some ((V.bool false), []) else bif (decide ((gi o 0) = 1)) then bif (decide ((gi o 0) = 0)) then some ((V.bool (decide ((gi o 3) = 0))), []) else bif (decide ((gi o 0) = 1)) then some ((V.bool (decide ((gi o 3) = 0))), []) else bif (decide ((gi o 0) = 3)) then some ((V.bool (decide ((gi o 3) = 0))), []) else bif (decide ((gi o 0) = 4)) then some ((V.bool (decide ((gi o 3) ≤ 1))), []) else bif (decide ((gi o 0) = 2)) then some ((V.bool true), []) else some ((V.bool (decide ((1 : Int) ≤ (gi o 3)))), []) else bif (decide ((gi o 0) = 2)) then bif (decide ((gi o 0) = 0)) then some ((V.bool (decide ((gi o 3) = 0))), []) else bif (decide ((gi o 0) = 1)) then some ((V.bool (decide ((gi o 3) = 0))), []) else bif (decide ((gi o 0) = 3)) then some ((V.bool (decide ((gi o 3) = 0))), []) else bif (decide ((gi o 0) = 4)) then some ((V.bool (decide ((gi o 3) ≤ 1))), []) else bif (decide ((gi o 0) = 2)) then some ((V.bool true), []) else some ((V.bool (decide ((1 : Int) ≤ (gi o 3)))), []) else bif (!(decide ((gi o 0) = 6))) then bif (decide ((0 : Int) < (((gl o 2).length : Nat) : Int))) then some ((V.bool false), []) else bif (decide ((gi o 0) = 0)) then some ((V.bool (decide ((gi o 3) = 0))), []) else bif (decide ((gi o 0) = 1)) then some ((V.bool (decide ((gi o 3) = 0))), []) else bif (decide ((gi o 0) = 3)) then some ((V.bool (decide ((gi o 3) = 0))), []) else bif (decide ((gi o 0) = 4)) then some ((V.bool (decide ((gi o 3) ≤ 1))), []) else bif (decide ((gi o 0) = 2)) then some ((V.bool true), []) else some ((V.bool (decide ((1 : Int) ≤ (gi o 3)))), []) else bif (decide ((gi o 0) = 0)) then some ((V.bool (decide ((gi o 3) = 0))), []) else bif (decide ((gi o 0) = 1)) then some ((V.bool (decide ((gi o 3) = 0))), []) else bif (decide ((gi o 0) = 3)) then some ((V.bool (decide ((gi o 3) = 0))), []) else bif (decide ((gi o 0) = 4)) then some ((V.bool (decide ((gi o 3) ≤ 1))), []) else bif (decide ((gi o 0) = 2)) then some ((V.bool true), []) else some ((V.bool (decide ((1 : Int) ≤ (gi o 3)))), []) else bif (decide ((gi o 0) = 1)) then bif (decide ((gi o 0) = 0)) then some ((V.bool (decide ((gi o 3) = 0))), []) else bif (decide ((gi o 0) = 1)) then some ((V.bool (decide ((gi o 3) = 0))), []) else bif (decide ((gi o 0) = 3)) then some ((V.bool (decide ((gi o 3) = 0))), []) else bif (decide ((gi o 0) = 4)) then some ((V.bool (decide ((gi o 3) ≤ 1))), []) else bif (decide ((gi o 0) = 2)) then some ((V.bool true), []) else some ((V.bool (decide ((1 : Int) ≤ (gi o 3)))), []) else bif (decide ((gi o 0) = 2)) then bif (decide ((gi o 0) = 0)) then some ((V.bool (decide ((gi o 3) = 0))), []) else bif (decide ((gi o 0) = 1)) then some ((V.bool (decide ((gi o 3) = 0))), []) else bif (decide ((gi o 0) = 3)) then some ((V.bool (decide ((gi o 3) = 0))), []) else bif (decide ((gi o 0) = 4)) then some ((V.bool (decide ((gi o 3) ≤ 1))), []) else bif (decide ((gi o 0) = 2)) then some ((V.bool true), []) else some ((V.bool (decide ((1 : Int) ≤ (gi o 3)))), []) else bif (!(decide ((gi o 0) = 6))) then bif (decide ((0 : Int) < (((gl o 2).length : Nat) : Int))) then some ((V.bool false), []) else bif (decide ((gi o 0) = 0)) then some ((V.bool (decide ((gi o 3) = 0))), []) else bif (decide ((gi o 0) = 1)) then some ((V.bool (decide ((gi o 3) = 0))), []) else bif (decide ((gi o 0) = 3)) then some ((V.bool (decide ((gi o 3) = 0))), []) else bif (decide ((gi o 0) = 4)) then some ((V.bool (decide ((gi o 3) ≤ 1))), []) else bif (decide ((gi o 0) = 2)) then some ((V.bool true), []) else some ((V.bool (decide ((1 : Int) ≤ (gi o 3)))), []) else bif (decide ((gi o 0) = 0)) then some ((V.bool (decide ((gi o 3) = 0))), []) else bif (decide ((gi o 0) = 1)) then some ((V.bool (decide ((gi o 3) = 0))), []) else bif (decide ((gi o 0) = 3)) then some ((V.bool (decide ((gi o 3) = 0))), []) else bif (decide ((gi o 0) = 4)) then some ((V.bool (decide ((gi o 3) ≤ 1))), []) else bif (decide ((gi o 0) = 2)) then some ((V.bool true), []) else some ((V.bool (decide ((1 : Int) ≤ (gi o 3)))), []) else bif (!(decide ((gi o 0) = 7))) then bif (decide ((0 : Int) < (((gl o 1).length : Nat) : Int))) then some ((V.bool false), []) else bif (decide ((gi o 0) = 1)) then bif (decide ((gi o 0) = 0)) then some ((V.bool (decide ((gi o 3) = 0))), []) else bif (decide ((gi o 0) = 1)) then some ((V.bool (decide ((gi o 3) = 0))), []) else bif (decide ((gi o 0) = 3)) then some ((V.bool (decide ((gi o 3) = 0))), []) else bif (decide ((gi o 0) = 4)) then some ((V.bool (decide ((gi o 3) ≤ 1))), []) else bif (decide ((gi o 0) = 2)) then some ((V.bool true), []) else some ((V.bool (decide ((1 : Int) ≤ (gi o 3)))), []) else bif (decide ((gi o 0) = 2)) then bif (decide ((gi o 0) = 0)) then some ((V.bool (decide ((gi o 3) = 0))), []) else bif (decide ((gi o 0) = 1)) then some ((V.bool (decide ((gi o 3) = 0))), []) else bif (decide ((gi o 0) = 3)) then some ((V.bool (decide ((gi o 3) = 0))), []) else bif (decide ((gi o 0) = 4)) then some ((V.bool (decide ((gi o 3) ≤ 1))), []) else bif (decide ((gi o 0) = 2)) then some ((V.bool true), []) else some ((V.bool (decide ((1 : Int) ≤ (gi o 3)))), []) else bif (!(decide ((gi o 0) = 6))) then bif (decide ((0 : Int) < (((gl o 2).length : Nat) : Int))) then some ((V.bool false), []) else bif (decide ((gi o 0) = 0)) then some ((V.bool (decide ((gi o 3) = 0))), []) else bif (decide ((gi o 0) = 1)) then some ((V.bool (decide ((gi o 3) = 0))), []) else bif (decide ((gi o 0) = 3)) then some ((V.bool (decide ((gi o 3) = 0))), []) else bif (decide ((gi o 0) = 4)) then some ((V.bool (decide ((gi o 3) ≤ 1))), []) else bif (decide ((gi o 0) = 2)) then some ((V.bool true), []) else some ((V.bool (decide ((1 : Int) ≤ (gi o 3)))), []) else bif (decide ((gi o 0) = 0)) then some ((V.bool (decide ((gi o 3) = 0))), []) else bif (decide ((gi o 0) = 1)) then some ((V.bool (decide ((gi o 3) = 0))), []) else bif (decide ((gi o 0) = 3)) then some ((V.bool (decide ((gi o 3) = 0))), []) else bif (decide ((gi o 0) = 4)) then some ((V.bool (decide ((gi o 3) ≤ 1))), []) else bif (decide ((gi o 0) = 2)) then some ((V.bool true), []) else some ((V.bool (decide ((1 : Int) ≤ (gi o 3)))), []) else bif (decide ((gi o 0) = 1)) then bif (decide ((gi o 0) = 0)) then some ((V.bool (decide ((gi o 3) = 0))), []) else bif (decide ((gi o 0) = 1)) then some ((V.bool (decide ((gi o 3) = 0))), []) else bif (decide ((gi o 0) = 3)) then some ((V.bool (decide ((gi o 3) = 0))), []) else bif (decide ((gi o 0) = 4)) then some ((V.bool (decide ((gi o 3) ≤ 1))), []) else bif (decide ((gi o 0) = 2)) then some ((V.bool true), []) else some ((V.bool (decide ((1 : Int) ≤ (gi o 3)))), []) else bif (decide ((gi o 0) = 2)) then bif (decide ((gi o 0) = 0)) then some ((V.bool (decide ((gi o 3) = 0))), []) else bif (decide ((gi o 0) = 1)) then some ((V.bool (decide ((gi o 3) = 0))), []) else bif (decide ((gi o 0) = 3)) then some ((V.bool (decide ((gi o 3) = 0))), []) else bif (decide ((gi o 0) = 4)) then some ((V.bool (decide ((gi o 3) ≤ 1))), []) else bif (decide ((gi o 0) = 2)) then some ((V.bool true), []) else some ((V.bool (decide ((1 : Int) ≤ (gi o 3)))), []) else bif (!(decide ((gi o 0) = 6))) then bif (decide ((0 : Int) < (((gl o 2).length : Nat) : Int))) then some ((V.bool false), []) else bif (decide ((gi o 0) = 0)) then some ((V.bool (decide ((gi o 3) = 0))), []) else bif (decide ((gi o 0) = 1)) then some ((V.bool (decide ((gi o 3) = 0))), []) else bif (decide ((gi o 0) = 3)) then some ((V.bool (decide ((gi o 3) = 0))), []) else bif (decide ((gi o 0) = 4)) then some ((V.bool (decide ((gi o 3) ≤ 1))), []) else bif (decide ((gi o 0) = 2)) then some ((V.bool true), []) else some ((V.bool (decide ((1 : Int) ≤ (gi o 3)))), []) else bif (decide ((gi o 0) = 0)) then some ((V.bool (decide ((gi o 3) = 0))), []) else bif (decide ((gi o 0) = 1)) then some ((V.bool (decide ((gi o 3) = 0))), []) else bif (decide ((gi o 0) = 3)) then some ((V.bool (decide ((gi o 3) = 0))), []) else bif (decide ((gi o 0) = 4)) then some ((V.bool (decide ((gi o 3) ≤ 1))), []) else bif (decide ((gi o 0) = 2)) then some ((V.bool true), []) else some ((V.bool (decide ((1 : Int) ≤ (gi o 3)))), [])) := by kernel_rfl
  rw [h, spec_OpOk]
  clear h
  repeat' (first | exact A0 | refine A1 ?_ ?_ | refine A2 fun _ => ?_ | refine A3 fun _ => ?_ | exact A4 (by kernel_rfl))
def spec_OpOk_A : List S2 := [(.agg q0)]
def spec_OpOk_F (args : List V) : Option (Bool) := spec_OpOk (rd args 0)
def spec_OpOk_s (args : List V) : Option (Bool × (V × List V)) := bif argsOk spec_OpOk_A args then some ((spec_OpOk_F args).isSome, spec_OpOk_sh ((spec_OpOk_F args).getD default)) else none
theorem spec_OpOk_s_ok : ∀ args r, spec_OpOk_s args = some (true, r) → SumOk Try.prog tab 105 args r :=
  Base.sum (cfg := spec_OpOk_c) (F := spec_OpOk_F) (shr := spec_OpOk_sh) base spec_OpOk_c_ok Try.func105 (by kernel_rfl) noLo spec_OpOk_A (by kernel_rfl) [[.dead]] [] (by kernel_rfl) fun args h => by
    have q := spec_OpOk_e (rd args 0)
    rw [show [(n_laws_Op (rd args 0))] = args from h] at q
    exact q
end Go.Eng.R
