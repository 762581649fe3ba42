/- An own evaluator of the program's form, proved sound, and what it says of this law's functions: part 4. -/
import Derived.Test.YtpcbeplajmkgpaaGreatE3
import Derived.Lib.SlBytesConst
import Derived.Lib.Walk
import Derived.Test.YtpcbeplajmkgpaaGreatChecked
import Derived.WalkKit
set_option linter.unusedVariables false
open Go Go.Eng
namespace Go.Eng.R
def ZbG : Nat → List V → Int → Int → Option (List V × Int)
  | 0, _, _, _ => none
  | k_ + 1, code0, h3, i4 =>
    bif (decide (i4 < ((code0.length : Nat) : Int))) then
      bif (decide (i4 < 4000)) then
        bif (Zm i4 code0.length) then
          ZbG k_ code0 (bAnd .i64 (IntKind.i64.wrap ((IntKind.i64.wrap ((IntKind.i64.wrap (h3 * 131)) + (IntKind.i64.wrap (gi (rd code0 i4.toNat) 0)))) + 7)) 1073741823) (IntKind.i64.wrap (i4 + 1))
        else none
      else some (code0, h3)
    else some (code0, h3)
def Zek (code : List V) : Option (V) :=
  Option.bind (ZbG ((((code.length : Nat) : Int) - 0).toNat + 1) code (IntKind.i64.wrap (36565 + ((code.length : Nat) : Int))) 0) fun r1 =>
  some (V.agg [(V.inl Zb r1.1), (V.int .i64 0), (V.int .i64 r1.2)])
def ZbQ (c : V) : Option (Int × V) :=
  bif (decide ((gi c 1) < (((gl c 0).length : Nat) : Int))) then
    bif (Zm (gi c 1) ((gl c 0).length)) then
      some ((bAnd .i64 (IntKind.i64.wrap ((bAnd .i64 (bXor .i64 (ZdX .i64 (IntKind.i64.wrap ((IntKind.i64.wrap ((gi c 2) * 6364136223846793005)) + 1442695040888963407)) 33) (ZdX .i64 (IntKind.i64.wrap ((IntKind.i64.wrap ((gi c 2) * 6364136223846793005)) + 1442695040888963407)) 45)) 255) + (IntKind.i64.wrap (gi (rd (gl c 0) ((gi c 1).toNat)) 0)))) 255), (V.agg [(V.inl Zb (gl c 0)), (V.int .i64 (IntKind.i64.wrap ((gi c 1) + 1))), (V.int .i64 (IntKind.i64.wrap ((IntKind.i64.wrap ((gi c 2) * 6364136223846793005)) + 1442695040888963407)))]))
    else none
  else some ((bAnd .i64 (bXor .i64 (ZdX .i64 (IntKind.i64.wrap ((IntKind.i64.wrap ((gi c 2) * 6364136223846793005)) + 1442695040888963407)) 33) (ZdX .i64 (IntKind.i64.wrap ((IntKind.i64.wrap ((gi c 2) * 6364136223846793005)) + 1442695040888963407)) 45)) 255), (V.agg [(V.inl Zb (gl c 0)), (V.int .i64 (gi c 1)), (V.int .i64 (IntKind.i64.wrap ((IntKind.i64.wrap ((gi c 2) * 6364136223846793005)) + 1442695040888963407)))]))
def Zh (c : V) (n : Int) : Option (Int × V) :=
  bif (decide (n ≤ 0)) then
    some (0, (Za c))
  else bif (decide (n ≤ 256)) then
    Option.bind (ZbQ (Za c)) fun r3 =>
    bif (!(decide (n = 0))) then
      some ((r3.1.tmod n), (Za r3.2))
    else none
  else Option.bind (ZbQ (Za c)) fun r4 =>
  Option.bind (ZbQ (Za r4.2)) fun r5 =>
  Option.bind (ZbQ (Za r5.2)) fun r6 =>
  Option.bind (ZbQ (Za r6.2)) fun r7 =>
  bif (!(decide (n = 0))) then
    some (((IntKind.i64.wrap ((IntKind.i64.wrap ((IntKind.i64.wrap ((IntKind.i64.wrap (r4.1 * 16777216)) + (IntKind.i64.wrap (r5.1 * 65536)))) + (IntKind.i64.wrap (r6.1 * 256)))) + r7.1)).tmod n), (Za r7.2))
  else none
def ZQ (c : V) (list : List V) : Option (Int × V) :=
  Option.bind (Zh (Za c) ((list.length : Nat) : Int)) fun r13 =>
  bif (Zm r13.1 list.length) then
    some ((gi (rd list r13.1.toNat) 0), (Za r13.2))
  else none
def ZbU (c : V) : Option (List V × V) :=
  Option.bind (Zh (Za c) 5) fun r15 =>
  bif (Zm r15.1 5) then
    some ((gs (rd [(V.str []), (V.str [(V.int .u8 120)]), (V.str [(V.int .u8 121)]), (V.str [(V.int .u8 0), (V.int .u8 255)]), (V.str [(V.int .u8 108), (V.int .u8 111), (V.int .u8 110), (V.int .u8 103), (V.int .u8 32), (V.int .u8 118), (V.int .u8 97), (V.int .u8 108), (V.int .u8 117), (V.int .u8 101)])] (0 + r15.1.toNat)) 0), (Za r15.2))
  else none
def ZaY (c : V) : Option (List V × V) :=
  Option.bind (Zh (Za c) 5) fun r17 =>
  bif (Zm r17.1 5) then
    bif (Zah ((gs (rd [(V.str [(V.int .u8 97)]), (V.str [(V.int .u8 98)]), (V.str [(V.int .u8 99)]), (V.str [(V.int .u8 97), (V.int .u8 47), (V.int .u8 98)]), (V.str [(V.int .u8 100)])] (0 + r17.1.toNat)) 0).length) 1) then
      some ((gs (rd [(V.str [(V.int .u8 97)]), (V.str [(V.int .u8 98)]), (V.str [(V.int .u8 99)]), (V.str [(V.int .u8 97), (V.int .u8 47), (V.int .u8 98)]), (V.str [(V.int .u8 100)])] (0 + r17.1.toNat)) 0), (Za r17.2))
    else none
  else none
def ZfL (c : V) (index : Int) : Option (V × V) :=
  Option.bind (ZQ (Za c) [(V.int .i64 1), (V.int .i64 1), (V.int .i64 1), (V.int .i64 2), (V.int .i64 3), (V.int .i64 3), (V.int .i64 4), (V.int .i64 5), (V.int .i64 6), (V.int .i64 6), (V.int .i64 7), (V.int .i64 0)]) fun r14 =>
  bif (decide (r14.1 = 1)) then
    Option.bind (ZbU (Za r14.2)) fun r16 =>
    bif (!(decide (r14.1 = 0))) then
      bif (!(decide (r14.1 = 4))) then
        bif (!(decide (r14.1 = 5))) then
          Option.bind (ZaY (Za r16.2)) fun r18 =>
          bif (decide (r14.1 = 4)) then
            Option.bind (Zh (Za r18.2) 2) fun r19 =>
            some ((V.agg [(V.int .i64 r14.1), (V.inl Zb r18.1), (V.inl Zb r16.1), (V.int .i64 r19.1)]), (Za r19.2))
          else bif (decide (r14.1 = 2)) then
            Option.bind (Zh (Za r18.2) (IntKind.i64.wrap (index + 1))) fun r20 =>
            Option.bind (Zh (Za r20.2) 2) fun r21 =>
            some ((V.agg [(V.int .i64 r14.1), (V.inl Zb r18.1), (V.inl Zb r16.1), (V.int .i64 (IntKind.i64.wrap (r20.1 * r21.1)))]), (Za r21.2))
          else bif (decide (r14.1 = 5)) then
            Option.bind (Zh (Za r18.2) 4) fun r22 =>
            bif (decide ((0 : Int) < index)) then
              Option.bind (Zh (Za r22.2) index) fun r23 =>
              some ((V.agg [(V.int .i64 r14.1), (V.inl Zb r18.1), (V.inl Zb r16.1), (V.int .i64 (IntKind.i64.wrap (1 + r23.1)))]), (Za r23.2))
            else some ((V.agg [(V.int .i64 r14.1), (V.inl Zb r18.1), (V.inl Zb r16.1), (V.int .i64 (IntKind.i64.wrap (1 + r22.1)))]), (Za r22.2))
          else bif (decide (r14.1 = 6)) then
            Option.bind (Zh (Za r18.2) 4) fun r24 =>
            bif (decide ((0 : Int) < index)) then
              Option.bind (Zh (Za r24.2) index) fun r25 =>
              some ((V.agg [(V.int .i64 r14.1), (V.inl Zb r18.1), (V.inl Zb r16.1), (V.int .i64 (IntKind.i64.wrap (1 + r25.1)))]), (Za r25.2))
            else some ((V.agg [(V.int .i64 r14.1), (V.inl Zb r18.1), (V.inl Zb r16.1), (V.int .i64 (IntKind.i64.wrap (1 + r24.1)))]), (Za r24.2))
          else bif (decide (r14.1 = 7)) then
            Option.bind (Zh (Za r18.2) 4) fun r26 =>
            bif (decide ((0 : Int) < index)) then
              Option.bind (Zh (Za r26.2) index) fun r27 =>
              some ((V.agg [(V.int .i64 r14.1), (V.inl Zb r18.1), (V.inl Zb r16.1), (V.int .i64 (IntKind.i64.wrap (1 + r27.1)))]), (Za r27.2))
            else some ((V.agg [(V.int .i64 r14.1), (V.inl Zb r18.1), (V.inl Zb r16.1), (V.int .i64 (IntKind.i64.wrap (1 + r26.1)))]), (Za r26.2))
          else some ((V.agg [(V.int .i64 r14.1), (V.inl Zb r18.1), (V.inl Zb r16.1), (V.int .i64 0)]), (Za r18.2))
        else bif (decide (r14.1 = 4)) then
          Option.bind (Zh (Za r16.2) 2) fun r28 =>
          some ((V.agg [(V.int .i64 r14.1), (V.inl Zb []), (V.inl Zb r16.1), (V.int .i64 r28.1)]), (Za r28.2))
        else bif (decide (r14.1 = 2)) then
          Option.bind (Zh (Za r16.2) (IntKind.i64.wrap (index + 1))) fun r29 =>
          Option.bind (Zh (Za r29.2) 2) fun r30 =>
          some ((V.agg [(V.int .i64 r14.1), (V.inl Zb []), (V.inl Zb r16.1), (V.int .i64 (IntKind.i64.wrap (r29.1 * r30.1)))]), (Za r30.2))
        else bif (decide (r14.1 = 5)) then
          Option.bind (Zh (Za r16.2) 4) fun r31 =>
          bif (decide ((0 : Int) < index)) then
            Option.bind (Zh (Za r31.2) index) fun r32 =>
            some ((V.agg [(V.int .i64 r14.1), (V.inl Zb []), (V.inl Zb r16.1), (V.int .i64 (IntKind.i64.wrap (1 + r32.1)))]), (Za r32.2))
          else some ((V.agg [(V.int .i64 r14.1), (V.inl Zb []), (V.inl Zb r16.1), (V.int .i64 (IntKind.i64.wrap (1 + r31.1)))]), (Za r31.2))
        else bif (decide (r14.1 = 6)) then
          Option.bind (Zh (Za r16.2) 4) fun r33 =>
          bif (decide ((0 : Int) < index)) then
            Option.bind (Zh (Za r33.2) index) fun r34 =>
            some ((V.agg [(V.int .i64 r14.1), (V.inl Zb []), (V.inl Zb r16.1), (V.int .i64 (IntKind.i64.wrap (1 + r34.1)))]), (Za r34.2))
          else some ((V.agg [(V.int .i64 r14.1), (V.inl Zb []), (V.inl Zb r16.1), (V.int .i64 (IntKind.i64.wrap (1 + r33.1)))]), (Za r33.2))
        else bif (decide (r14.1 = 7)) then
          Option.bind (Zh (Za r16.2) 4) fun r35 =>
          bif (decide ((0 : Int) < index)) then
            Option.bind (Zh (Za r35.2) index) fun r36 =>
            some ((V.agg [(V.int .i64 r14.1), (V.inl Zb []), (V.inl Zb r16.1), (V.int .i64 (IntKind.i64.wrap (1 + r36.1)))]), (Za r36.2))
          else some ((V.agg [(V.int .i64 r14.1), (V.inl Zb []), (V.inl Zb r16.1), (V.int .i64 (IntKind.i64.wrap (1 + r35.1)))]), (Za r35.2))
        else some ((V.agg [(V.int .i64 r14.1), (V.inl Zb []), (V.inl Zb r16.1), (V.int .i64 0)]), (Za r16.2))
      else bif (decide (r14.1 = 4)) then
        Option.bind (Zh (Za r16.2) 2) fun r37 =>
        some ((V.agg [(V.int .i64 r14.1), (V.inl Zb []), (V.inl Zb r16.1), (V.int .i64 r37.1)]), (Za r37.2))
      else bif (decide (r14.1 = 2)) then
        Option.bind (Zh (Za r16.2) (IntKind.i64.wrap (index + 1))) fun r38 =>
        Option.bind (Zh (Za r38.2) 2) fun r39 =>
        some ((V.agg [(V.int .i64 r14.1), (V.inl Zb []), (V.inl Zb r16.1), (V.int .i64 (IntKind.i64.wrap (r38.1 * r39.1)))]), (Za r39.2))
      else bif (decide (r14.1 = 5)) then
        Option.bind (Zh (Za r16.2) 4) fun r40 =>
        bif (decide ((0 : Int) < index)) then
          Option.bind (Zh (Za r40.2) index) fun r41 =>
          some ((V.agg [(V.int .i64 r14.1), (V.inl Zb []), (V.inl Zb r16.1), (V.int .i64 (IntKind.i64.wrap (1 + r41.1)))]), (Za r41.2))
        else some ((V.agg [(V.int .i64 r14.1), (V.inl Zb []), (V.inl Zb r16.1), (V.int .i64 (IntKind.i64.wrap (1 + r40.1)))]), (Za r40.2))
      else bif (decide (r14.1 = 6)) then
        Option.bind (Zh (Za r16.2) 4) fun r42 =>
        bif (decide ((0 : Int) < index)) then
          Option.bind (Zh (Za r42.2) index) fun r43 =>
          some ((V.agg [(V.int .i64 r14.1), (V.inl Zb []), (V.inl Zb r16.1), (V.int .i64 (IntKind.i64.wrap (1 + r43.1)))]), (Za r43.2))
        else some ((V.agg [(V.int .i64 r14.1), (V.inl Zb []), (V.inl Zb r16.1), (V.int .i64 (IntKind.i64.wrap (1 + r42.1)))]), (Za r42.2))
      else bif (decide (r14.1 = 7)) then
        Option.bind (Zh (Za r16.2) 4) fun r44 =>
        bif (decide ((0 : Int) < index)) then
          Option.bind (Zh (Za r44.2) index) fun r45 =>
          some ((V.agg [(V.int .i64 r14.1), (V.inl Zb []), (V.inl Zb r16.1), (V.int .i64 (IntKind.i64.wrap (1 + r45.1)))]), (Za r45.2))
        else some ((V.agg [(V.int .i64 r14.1), (V.inl Zb []), (V.inl Zb r16.1), (V.int .i64 (IntKind.i64.wrap (1 + r44.1)))]), (Za r44.2))
      else some ((V.agg [(V.int .i64 r14.1), (V.inl Zb []), (V.inl Zb r16.1), (V.int .i64 0)]), (Za r16.2))
    else bif (decide (r14.1 = 4)) then
      Option.bind (Zh (Za r16.2) 2) fun r46 =>
      some ((V.agg [(V.int .i64 r14.1), (V.inl Zb []), (V.inl Zb r16.1), (V.int .i64 r46.1)]), (Za r46.2))
    else bif (decide (r14.1 = 2)) then
      Option.bind (Zh (Za r16.2) (IntKind.i64.wrap (index + 1))) fun r47 =>
      Option.bind (Zh (Za r47.2) 2) fun r48 =>
      some ((V.agg [(V.int .i64 r14.1), (V.inl Zb []), (V.inl Zb r16.1), (V.int .i64 (IntKind.i64.wrap (r47.1 * r48.1)))]), (Za r48.2))
    else bif (decide (r14.1 = 5)) then
      Option.bind (Zh (Za r16.2) 4) fun r49 =>
      bif (decide ((0 : Int) < index)) then
        Option.bind (Zh (Za r49.2) index) fun r50 =>
        some ((V.agg [(V.int .i64 r14.1), (V.inl Zb []), (V.inl Zb r16.1), (V.int .i64 (IntKind.i64.wrap (1 + r50.1)))]), (Za r50.2))
      else some ((V.agg [(V.int .i64 r14.1), (V.inl Zb []), (V.inl Zb r16.1), (V.int .i64 (IntKind.i64.wrap (1 + r49.1)))]), (Za r49.2))
    else bif (decide (r14.1 = 6)) then
      Option.bind (Zh (Za r16.2) 4) fun r51 =>
      bif (decide ((0 : Int) < index)) then
        Option.bind (Zh (Za r51.2) index) fun r52 =>
        some ((V.agg [(V.int .i64 r14.1), (V.inl Zb []), (V.inl Zb r16.1), (V.int .i64 (IntKind.i64.wrap (1 + r52.1)))]), (Za r52.2))
      else some ((V.agg [(V.int .i64 r14.1), (V.inl Zb []), (V.inl Zb r16.1), (V.int .i64 (IntKind.i64.wrap (1 + r51.1)))]), (Za r51.2))
    else bif (decide (r14.1 = 7)) then
      Option.bind (Zh (Za r16.2) 4) fun r53 =>
      bif (decide ((0 : Int) < index)) then
        Option.bind (Zh (Za r53.2) index) fun r54 =>
        some ((V.agg [(V.int .i64 r14.1), (V.inl Zb []), (V.inl Zb r16.1), (V.int .i64 (IntKind.i64.wrap (1 + r54.1)))]), (Za r54.2))
      else some ((V.agg [(V.int .i64 r14.1), (V.inl Zb []), (V.inl Zb r16.1), (V.int .i64 (IntKind.i64.wrap (1 + r53.1)))]), (Za r53.2))
    else some ((V.agg [(V.int .i64 r14.1), (V.inl Zb []), (V.inl Zb r16.1), (V.int .i64 0)]), (Za r16.2))
  else bif (decide (r14.1 = 2)) then
    Option.bind (ZbU (Za r14.2)) fun r55 =>
    bif (!(decide (r14.1 = 0))) then
      bif (!(decide (r14.1 = 4))) then
        bif (!(decide (r14.1 = 5))) then
          Option.bind (ZaY (Za r55.2)) fun r56 =>
          bif (decide (r14.1 = 4)) then
            Option.bind (Zh (Za r56.2) 2) fun r57 =>
            some ((V.agg [(V.int .i64 r14.1), (V.inl Zb r56.1), (V.inl Zb r55.1), (V.int .i64 r57.1)]), (Za r57.2))
          else bif (decide (r14.1 = 2)) then
            Option.bind (Zh (Za r56.2) (IntKind.i64.wrap (index + 1))) fun r58 =>
            Option.bind (Zh (Za r58.2) 2) fun r59 =>
            some ((V.agg [(V.int .i64 r14.1), (V.inl Zb r56.1), (V.inl Zb r55.1), (V.int .i64 (IntKind.i64.wrap (r58.1 * r59.1)))]), (Za r59.2))
          else bif (decide (r14.1 = 5)) then
            Option.bind (Zh (Za r56.2) 4) fun r60 =>
            bif (decide ((0 : Int) < index)) then
              Option.bind (Zh (Za r60.2) index) fun r61 =>
              some ((V.agg [(V.int .i64 r14.1), (V.inl Zb r56.1), (V.inl Zb r55.1), (V.int .i64 (IntKind.i64.wrap (1 + r61.1)))]), (Za r61.2))
            else some ((V.agg [(V.int .i64 r14.1), (V.inl Zb r56.1), (V.inl Zb r55.1), (V.int .i64 (IntKind.i64.wrap (1 + r60.1)))]), (Za r60.2))
          else bif (decide (r14.1 = 6)) then
            Option.bind (Zh (Za r56.2) 4) fun r62 =>
            bif (decide ((0 : Int) < index)) then
              Option.bind (Zh (Za r62.2) index) fun r63 =>
              some ((V.agg [(V.int .i64 r14.1), (V.inl Zb r56.1), (V.inl Zb r55.1), (V.int .i64 (IntKind.i64.wrap (1 + r63.1)))]), (Za r63.2))
            else some ((V.agg [(V.int .i64 r14.1), (V.inl Zb r56.1), (V.inl Zb r55.1), (V.int .i64 (IntKind.i64.wrap (1 + r62.1)))]), (Za r62.2))
          else bif (decide (r14.1 = 7)) then
            Option.bind (Zh (Za r56.2) 4) fun r64 =>
            bif (decide ((0 : Int) < index)) then
              Option.bind (Zh (Za r64.2) index) fun r65 =>
              some ((V.agg [(V.int .i64 r14.1), (V.inl Zb r56.1), (V.inl Zb r55.1), (V.int .i64 (IntKind.i64.wrap (1 + r65.1)))]), (Za r65.2))
            else some ((V.agg [(V.int .i64 r14.1), (V.inl Zb r56.1), (V.inl Zb r55.1), (V.int .i64 (IntKind.i64.wrap (1 + r64.1)))]), (Za r64.2))
          else some ((V.agg [(V.int .i64 r14.1), (V.inl Zb r56.1), (V.inl Zb r55.1), (V.int .i64 0)]), (Za r56.2))
        else bif (decide (r14.1 = 4)) then
          Option.bind (Zh (Za r55.2) 2) fun r66 =>
          some ((V.agg [(V.int .i64 r14.1), (V.inl Zb []), (V.inl Zb r55.1), (V.int .i64 r66.1)]), (Za r66.2))
        else bif (decide (r14.1 = 2)) then
          Option.bind (Zh (Za r55.2) (IntKind.i64.wrap (index + 1))) fun r67 =>
          Option.bind (Zh (Za r67.2) 2) fun r68 =>
          some ((V.agg [(V.int .i64 r14.1), (V.inl Zb []), (V.inl Zb r55.1), (V.int .i64 (IntKind.i64.wrap (r67.1 * r68.1)))]), (Za r68.2))
        else bif (decide (r14.1 = 5)) then
          Option.bind (Zh (Za r55.2) 4) fun r69 =>
          bif (decide ((0 : Int) < index)) then
            Option.bind (Zh (Za r69.2) index) fun r70 =>
            some ((V.agg [(V.int .i64 r14.1), (V.inl Zb []), (V.inl Zb r55.1), (V.int .i64 (IntKind.i64.wrap (1 + r70.1)))]), (Za r70.2))
          else some ((V.agg [(V.int .i64 r14.1), (V.inl Zb []), (V.inl Zb r55.1), (V.int .i64 (IntKind.i64.wrap (1 + r69.1)))]), (Za r69.2))
        else bif (decide (r14.1 = 6)) then
          Option.bind (Zh (Za r55.2) 4) fun r71 =>
          bif (decide ((0 : Int) < index)) then
            Option.bind (Zh (Za r71.2) index) fun r72 =>
            some ((V.agg [(V.int .i64 r14.1), (V.inl Zb []), (V.inl Zb r55.1), (V.int .i64 (IntKind.i64.wrap (1 + r72.1)))]), (Za r72.2))
          else some ((V.agg [(V.int .i64 r14.1), (V.inl Zb []), (V.inl Zb r55.1), (V.int .i64 (IntKind.i64.wrap (1 + r71.1)))]), (Za r71.2))
        else bif (decide (r14.1 = 7)) then
          Option.bind (Zh (Za r55.2) 4) fun r73 =>
          bif (decide ((0 : Int) < index)) then
            Option.bind (Zh (Za r73.2) index) fun r74 =>
            some ((V.agg [(V.int .i64 r14.1), (V.inl Zb []), (V.inl Zb r55.1), (V.int .i64 (IntKind.i64.wrap (1 + r74.1)))]), (Za r74.2))
          else some ((V.agg [(V.int .i64 r14.1), (V.inl Zb []), (V.inl Zb r55.1), (V.int .i64 (IntKind.i64.wrap (1 + r73.1)))]), (Za r73.2))
        else some ((V.agg [(V.int .i64 r14.1), (V.inl Zb []), (V.inl Zb r55.1), (V.int .i64 0)]), (Za r55.2))
      else bif (decide (r14.1 = 4)) then
        Option.bind (Zh (Za r55.2) 2) fun r75 =>
        some ((V.agg [(V.int .i64 r14.1), (V.inl Zb []), (V.inl Zb r55.1), (V.int .i64 r75.1)]), (Za r75.2))
      else bif (decide (r14.1 = 2)) then
        Option.bind (Zh (Za r55.2) (IntKind.i64.wrap (index + 1))) fun r76 =>
        Option.bind (Zh (Za r76.2) 2) fun r77 =>
        some ((V.agg [(V.int .i64 r14.1), (V.inl Zb []), (V.inl Zb r55.1), (V.int .i64 (IntKind.i64.wrap (r76.1 * r77.1)))]), (Za r77.2))
      else bif (decide (r14.1 = 5)) then
        Option.bind (Zh (Za r55.2) 4) fun r78 =>
        bif (decide ((0 : Int) < index)) then
          Option.bind (Zh (Za r78.2) index) fun r79 =>
          some ((V.agg [(V.int .i64 r14.1), (V.inl Zb []), (V.inl Zb r55.1), (V.int .i64 (IntKind.i64.wrap (1 + r79.1)))]), (Za r79.2))
        else some ((V.agg [(V.int .i64 r14.1), (V.inl Zb []), (V.inl Zb r55.1), (V.int .i64 (IntKind.i64.wrap (1 + r78.1)))]), (Za r78.2))
      else bif (decide (r14.1 = 6)) then
        Option.bind (Zh (Za r55.2) 4) fun r80 =>
        bif (decide ((0 : Int) < index)) then
          Option.bind (Zh (Za r80.2) index) fun r81 =>
          some ((V.agg [(V.int .i64 r14.1), (V.inl Zb []), (V.inl Zb r55.1), (V.int .i64 (IntKind.i64.wrap (1 + r81.1)))]), (Za r81.2))
        else some ((V.agg [(V.int .i64 r14.1), (V.inl Zb []), (V.inl Zb r55.1), (V.int .i64 (IntKind.i64.wrap (1 + r80.1)))]), (Za r80.2))
      else bif (decide (r14.1 = 7)) then
        Option.bind (Zh (Za r55.2) 4) fun r82 =>
        bif (decide ((0 : Int) < index)) then
          Option.bind (Zh (Za r82.2) index) fun r83 =>
          some ((V.agg [(V.int .i64 r14.1), (V.inl Zb []), (V.inl Zb r55.1), (V.int .i64 (IntKind.i64.wrap (1 + r83.1)))]), (Za r83.2))
        else some ((V.agg [(V.int .i64 r14.1), (V.inl Zb []), (V.inl Zb r55.1), (V.int .i64 (IntKind.i64.wrap (1 + r82.1)))]), (Za r82.2))
      else some ((V.agg [(V.int .i64 r14.1), (V.inl Zb []), (V.inl Zb r55.1), (V.int .i64 0)]), (Za r55.2))
    else bif (decide (r14.1 = 4)) then
      Option.bind (Zh (Za r55.2) 2) fun r84 =>
      some ((V.agg [(V.int .i64 r14.1), (V.inl Zb []), (V.inl Zb r55.1), (V.int .i64 r84.1)]), (Za r84.2))
    else bif (decide (r14.1 = 2)) then
      Option.bind (Zh (Za r55.2) (IntKind.i64.wrap (index + 1))) fun r85 =>
      Option.bind (Zh (Za r85.2) 2) fun r86 =>
      some ((V.agg [(V.int .i64 r14.1), (V.inl Zb []), (V.inl Zb r55.1), (V.int .i64 (IntKind.i64.wrap (r85.1 * r86.1)))]), (Za r86.2))
    else bif (decide (r14.1 = 5)) then
      Option.bind (Zh (Za r55.2) 4) fun r87 =>
      bif (decide ((0 : Int) < index)) then
        Option.bind (Zh (Za r87.2) index) fun r88 =>
        some ((V.agg [(V.int .i64 r14.1), (V.inl Zb []), (V.inl Zb r55.1), (V.int .i64 (IntKind.i64.wrap (1 + r88.1)))]), (Za r88.2))
      else some ((V.agg [(V.int .i64 r14.1), (V.inl Zb []), (V.inl Zb r55.1), (V.int .i64 (IntKind.i64.wrap (1 + r87.1)))]), (Za r87.2))
    else bif (decide (r14.1 = 6)) then
      Option.bind (Zh (Za r55.2) 4) fun r89 =>
      bif (decide ((0 : Int) < index)) then
        Option.bind (Zh (Za r89.2) index) fun r90 =>
        some ((V.agg [(V.int .i64 r14.1), (V.inl Zb []), (V.inl Zb r55.1), (V.int .i64 (IntKind.i64.wrap (1 + r90.1)))]), (Za r90.2))
      else some ((V.agg [(V.int .i64 r14.1), (V.inl Zb []), (V.inl Zb r55.1), (V.int .i64 (IntKind.i64.wrap (1 + r89.1)))]), (Za r89.2))
    else bif (decide (r14.1 = 7)) then
      Option.bind (Zh (Za r55.2) 4) fun r91 =>
      bif (decide ((0 : Int) < index)) then
        Option.bind (Zh (Za r91.2) index) fun r92 =>
        some ((V.agg [(V.int .i64 r14.1), (V.inl Zb []), (V.inl Zb r55.1), (V.int .i64 (IntKind.i64.wrap (1 + r92.1)))]), (Za r92.2))
      else some ((V.agg [(V.int .i64 r14.1), (V.inl Zb []), (V.inl Zb r55.1), (V.int .i64 (IntKind.i64.wrap (1 + r91.1)))]), (Za r91.2))
    else some ((V.agg [(V.int .i64 r14.1), (V.inl Zb []), (V.inl Zb r55.1), (V.int .i64 0)]), (Za r55.2))
  else bif (decide (r14.1 = 6)) then
    Option.bind (ZbU (Za r14.2)) fun r93 =>
    bif (!(decide (r14.1 = 0))) then
      bif (!(decide (r14.1 = 4))) then
        bif (!(decide (r14.1 = 5))) then
          Option.bind (ZaY (Za r93.2)) fun r94 =>
          bif (decide (r14.1 = 4)) then
            Option.bind (Zh (Za r94.2) 2) fun r95 =>
            some ((V.agg [(V.int .i64 r14.1), (V.inl Zb r94.1), (V.inl Zb r93.1), (V.int .i64 r95.1)]), (Za r95.2))
          else bif (decide (r14.1 = 2)) then
            Option.bind (Zh (Za r94.2) (IntKind.i64.wrap (index + 1))) fun r96 =>
            Option.bind (Zh (Za r96.2) 2) fun r97 =>
            some ((V.agg [(V.int .i64 r14.1), (V.inl Zb r94.1), (V.inl Zb r93.1), (V.int .i64 (IntKind.i64.wrap (r96.1 * r97.1)))]), (Za r97.2))
          else bif (decide (r14.1 = 5)) then
            Option.bind (Zh (Za r94.2) 4) fun r98 =>
            bif (decide ((0 : Int) < index)) then
              Option.bind (Zh (Za r98.2) index) fun r99 =>
              some ((V.agg [(V.int .i64 r14.1), (V.inl Zb r94.1), (V.inl Zb r93.1), (V.int .i64 (IntKind.i64.wrap (1 + r99.1)))]), (Za r99.2))
            else some ((V.agg [(V.int .i64 r14.1), (V.inl Zb r94.1), (V.inl Zb r93.1), (V.int .i64 (IntKind.i64.wrap (1 + r98.1)))]), (Za r98.2))
          else bif (decide (r14.1 = 6)) then
            Option.bind (Zh (Za r94.2) 4) fun r100 =>
            bif (decide ((0 : Int) < index)) then
              Option.bind (Zh (Za r100.2) index) fun r101 =>
              some ((V.agg [(V.int .i64 r14.1), (V.inl Zb r94.1), (V.inl Zb r93.1), (V.int .i64 (IntKind.i64.wrap (1 + r101.1)))]), (Za r101.2))
            else some ((V.agg [(V.int .i64 r14.1), (V.inl Zb r94.1), (V.inl Zb r93.1), (V.int .i64 (IntKind.i64.wrap (1 + r100.1)))]), (Za r100.2))
          else bif (decide (r14.1 = 7)) then
            Option.bind (Zh (Za r94.2) 4) fun r102 =>
            bif (decide ((0 : Int) < index)) then
              Option.bind (Zh (Za r102.2) index) fun r103 =>
              some ((V.agg [(V.int .i64 r14.1), (V.inl Zb r94.1), (V.inl Zb r93.1), (V.int .i64 (IntKind.i64.wrap (1 + r103.1)))]), (Za r103.2))
            else some ((V.agg [(V.int .i64 r14.1), (V.inl Zb r94.1), (V.inl Zb r93.1), (V.int .i64 (IntKind.i64.wrap (1 + r102.1)))]), (Za r102.2))
          else some ((V.agg [(V.int .i64 r14.1), (V.inl Zb r94.1), (V.inl Zb r93.1), (V.int .i64 0)]), (Za r94.2))
        else bif (decide (r14.1 = 4)) then
          Option.bind (Zh (Za r93.2) 2) fun r104 =>
          some ((V.agg [(V.int .i64 r14.1), (V.inl Zb []), (V.inl Zb r93.1), (V.int .i64 r104.1)]), (Za r104.2))
        else bif (decide (r14.1 = 2)) then
          Option.bind (Zh (Za r93.2) (IntKind.i64.wrap (index + 1))) fun r105 =>
          Option.bind (Zh (Za r105.2) 2) fun r106 =>
          some ((V.agg [(V.int .i64 r14.1), (V.inl Zb []), (V.inl Zb r93.1), (V.int .i64 (IntKind.i64.wrap (r105.1 * r106.1)))]), (Za r106.2))
        else bif (decide (r14.1 = 5)) then
          Option.bind (Zh (Za r93.2) 4) fun r107 =>
          bif (decide ((0 : Int) < index)) then
            Option.bind (Zh (Za r107.2) index) fun r108 =>
            some ((V.agg [(V.int .i64 r14.1), (V.inl Zb []), (V.inl Zb r93.1), (V.int .i64 (IntKind.i64.wrap (1 + r108.1)))]), (Za r108.2))
          else some ((V.agg [(V.int .i64 r14.1), (V.inl Zb []), (V.inl Zb r93.1), (V.int .i64 (IntKind.i64.wrap (1 + r107.1)))]), (Za r107.2))
        else bif (decide (r14.1 = 6)) then
          Option.bind (Zh (Za r93.2) 4) fun r109 =>
          bif (decide ((0 : Int) < index)) then
            Option.bind (Zh (Za r109.2) index) fun r110 =>
            some ((V.agg [(V.int .i64 r14.1), (V.inl Zb []), (V.inl Zb r93.1), (V.int .i64 (IntKind.i64.wrap (1 + r110.1)))]), (Za r110.2))
          else some ((V.agg [(V.int .i64 r14.1), (V.inl Zb []), (V.inl Zb r93.1), (V.int .i64 (IntKind.i64.wrap (1 + r109.1)))]), (Za r109.2))
        else bif (decide (r14.1 = 7)) then
          Option.bind (Zh (Za r93.2) 4) fun r111 =>
          bif (decide ((0 : Int) < index)) then
            Option.bind (Zh (Za r111.2) index) fun r112 =>
            some ((V.agg [(V.int .i64 r14.1), (V.inl Zb []), (V.inl Zb r93.1), (V.int .i64 (IntKind.i64.wrap (1 + r112.1)))]), (Za r112.2))
          else some ((V.agg [(V.int .i64 r14.1), (V.inl Zb []), (V.inl Zb r93.1), (V.int .i64 (IntKind.i64.wrap (1 + r111.1)))]), (Za r111.2))
        else some ((V.agg [(V.int .i64 r14.1), (V.inl Zb []), (V.inl Zb r93.1), (V.int .i64 0)]), (Za r93.2))
      else bif (decide (r14.1 = 4)) then
        Option.bind (Zh (Za r93.2) 2) fun r113 =>
        some ((V.agg [(V.int .i64 r14.1), (V.inl Zb []), (V.inl Zb r93.1), (V.int .i64 r113.1)]), (Za r113.2))
      else bif (decide (r14.1 = 2)) then
        Option.bind (Zh (Za r93.2) (IntKind.i64.wrap (index + 1))) fun r114 =>
        Option.bind (Zh (Za r114.2) 2) fun r115 =>
        some ((V.agg [(V.int .i64 r14.1), (V.inl Zb []), (V.inl Zb r93.1), (V.int .i64 (IntKind.i64.wrap (r114.1 * r115.1)))]), (Za r115.2))
      else bif (decide (r14.1 = 5)) then
        Option.bind (Zh (Za r93.2) 4) fun r116 =>
        bif (decide ((0 : Int) < index)) then
          Option.bind (Zh (Za r116.2) index) fun r117 =>
          some ((V.agg [(V.int .i64 r14.1), (V.inl Zb []), (V.inl Zb r93.1), (V.int .i64 (IntKind.i64.wrap (1 + r117.1)))]), (Za r117.2))
        else some ((V.agg [(V.int .i64 r14.1), (V.inl Zb []), (V.inl Zb r93.1), (V.int .i64 (IntKind.i64.wrap (1 + r116.1)))]), (Za r116.2))
      else bif (decide (r14.1 = 6)) then
        Option.bind (Zh (Za r93.2) 4) fun r118 =>
        bif (decide ((0 : Int) < index)) then
          Option.bind (Zh (Za r118.2) index) fun r119 =>
          some ((V.agg [(V.int .i64 r14.1), (V.inl Zb []), (V.inl Zb r93.1), (V.int .i64 (IntKind.i64.wrap (1 + r119.1)))]), (Za r119.2))
        else some ((V.agg [(V.int .i64 r14.1), (V.inl Zb []), (V.inl Zb r93.1), (V.int .i64 (IntKind.i64.wrap (1 + r118.1)))]), (Za r118.2))
      else bif (decide (r14.1 = 7)) then
        Option.bind (Zh (Za r93.2) 4) fun r120 =>
        bif (decide ((0 : Int) < index)) then
          Option.bind (Zh (Za r120.2) index) fun r121 =>
          some ((V.agg [(V.int .i64 r14.1), (V.inl Zb []), (V.inl Zb r93.1), (V.int .i64 (IntKind.i64.wrap (1 + r121.1)))]), (Za r121.2))
        else some ((V.agg [(V.int .i64 r14.1), (V.inl Zb []), (V.inl Zb r93.1), (V.int .i64 (IntKind.i64.wrap (1 + r120.1)))]), (Za r120.2))
      else some ((V.agg [(V.int .i64 r14.1), (V.inl Zb []), (V.inl Zb r93.1), (V.int .i64 0)]), (Za r93.2))
    else bif (decide (r14.1 = 4)) then
      Option.bind (Zh (Za r93.2) 2) fun r122 =>
      some ((V.agg [(V.int .i64 r14.1), (V.inl Zb []), (V.inl Zb r93.1), (V.int .i64 r122.1)]), (Za r122.2))
    else bif (decide (r14.1 = 2)) then
      Option.bind (Zh (Za r93.2) (IntKind.i64.wrap (index + 1))) fun r123 =>
      Option.bind (Zh (Za r123.2) 2) fun r124 =>
      some ((V.agg [(V.int .i64 r14.1), (V.inl Zb []), (V.inl Zb r93.1), (V.int .i64 (IntKind.i64.wrap (r123.1 * r124.1)))]), (Za r124.2))
    else bif (decide (r14.1 = 5)) then
      Option.bind (Zh (Za r93.2) 4) fun r125 =>
      bif (decide ((0 : Int) < index)) then
        Option.bind (Zh (Za r125.2) index) fun r126 =>
        some ((V.agg [(V.int .i64 r14.1), (V.inl Zb []), (V.inl Zb r93.1), (V.int .i64 (IntKind.i64.wrap (1 + r126.1)))]), (Za r126.2))
      else some ((V.agg [(V.int .i64 r14.1), (V.inl Zb []), (V.inl Zb r93.1), (V.int .i64 (IntKind.i64.wrap (1 + r125.1)))]), (Za r125.2))
    else bif (decide (r14.1 = 6)) then
      Option.bind (Zh (Za r93.2) 4) fun r127 =>
      bif (decide ((0 : Int) < index)) then
        Option.bind (Zh (Za r127.2) index) fun r128 =>
        some ((V.agg [(V.int .i64 r14.1), (V.inl Zb []), (V.inl Zb r93.1), (V.int .i64 (IntKind.i64.wrap (1 + r128.1)))]), (Za r128.2))
      else some ((V.agg [(V.int .i64 r14.1), (V.inl Zb []), (V.inl Zb r93.1), (V.int .i64 (IntKind.i64.wrap (1 + r127.1)))]), (Za r127.2))
    else bif (decide (r14.1 = 7)) then
      Option.bind (Zh (Za r93.2) 4) fun r129 =>
      bif (decide ((0 : Int) < index)) then
        Option.bind (Zh (Za r129.2) index) fun r130 =>
        some ((V.agg [(V.int .i64 r14.1), (V.inl Zb []), (V.inl Zb r93.1), (V.int .i64 (IntKind.i64.wrap (1 + r130.1)))]), (Za r130.2))
      else some ((V.agg [(V.int .i64 r14.1), (V.inl Zb []), (V.inl Zb r93.1), (V.int .i64 (IntKind.i64.wrap (1 + r129.1)))]), (Za r129.2))
    else some ((V.agg [(V.int .i64 r14.1), (V.inl Zb []), (V.inl Zb r93.1), (V.int .i64 0)]), (Za r93.2))
  else bif (!(decide (r14.1 = 0))) then
    bif (!(decide (r14.1 = 4))) then
      bif (!(decide (r14.1 = 5))) then
        Option.bind (ZaY (Za r14.2)) fun r131 =>
        bif (decide (r14.1 = 4)) then
          Option.bind (Zh (Za r131.2) 2) fun r132 =>
          some ((V.agg [(V.int .i64 r14.1), (V.inl Zb r131.1), (V.inl Zb []), (V.int .i64 r132.1)]), (Za r132.2))
        else bif (decide (r14.1 = 2)) then
          Option.bind (Zh (Za r131.2) (IntKind.i64.wrap (index + 1))) fun r133 =>
          Option.bind (Zh (Za r133.2) 2) fun r134 =>
          some ((V.agg [(V.int .i64 r14.1), (V.inl Zb r131.1), (V.inl Zb []), (V.int .i64 (IntKind.i64.wrap (r133.1 * r134.1)))]), (Za r134.2))
        else bif (decide (r14.1 = 5)) then
          Option.bind (Zh (Za r131.2) 4) fun r135 =>
          bif (decide ((0 : Int) < index)) then
            Option.bind (Zh (Za r135.2) index) fun r136 =>
            some ((V.agg [(V.int .i64 r14.1), (V.inl Zb r131.1), (V.inl Zb []), (V.int .i64 (IntKind.i64.wrap (1 + r136.1)))]), (Za r136.2))
          else some ((V.agg [(V.int .i64 r14.1), (V.inl Zb r131.1), (V.inl Zb []), (V.int .i64 (IntKind.i64.wrap (1 + r135.1)))]), (Za r135.2))
        else bif (decide (r14.1 = 6)) then
          Option.bind (Zh (Za r131.2) 4) fun r137 =>
          bif (decide ((0 : Int) < index)) then
            Option.bind (Zh (Za r137.2) index) fun r138 =>
            some ((V.agg [(V.int .i64 r14.1), (V.inl Zb r131.1), (V.inl Zb []), (V.int .i64 (IntKind.i64.wrap (1 + r138.1)))]), (Za r138.2))
          else some ((V.agg [(V.int .i64 r14.1), (V.inl Zb r131.1), (V.inl Zb []), (V.int .i64 (IntKind.i64.wrap (1 + r137.1)))]), (Za r137.2))
        else bif (decide (r14.1 = 7)) then
          Option.bind (Zh (Za r131.2) 4) fun r139 =>
          bif (decide ((0 : Int) < index)) then
            Option.bind (Zh (Za r139.2) index) fun r140 =>
            some ((V.agg [(V.int .i64 r14.1), (V.inl Zb r131.1), (V.inl Zb []), (V.int .i64 (IntKind.i64.wrap (1 + r140.1)))]), (Za r140.2))
          else some ((V.agg [(V.int .i64 r14.1), (V.inl Zb r131.1), (V.inl Zb []), (V.int .i64 (IntKind.i64.wrap (1 + r139.1)))]), (Za r139.2))
        else some ((V.agg [(V.int .i64 r14.1), (V.inl Zb r131.1), (V.inl Zb []), (V.int .i64 0)]), (Za r131.2))
      else bif (decide (r14.1 = 4)) then
        Option.bind (Zh (Za r14.2) 2) fun r141 =>
        some ((V.agg [(V.int .i64 r14.1), (V.inl Zb []), (V.inl Zb []), (V.int .i64 r141.1)]), (Za r141.2))
      else bif (decide (r14.1 = 2)) then
        Option.bind (Zh (Za r14.2) (IntKind.i64.wrap (index + 1))) fun r142 =>
        Option.bind (Zh (Za r142.2) 2) fun r143 =>
        some ((V.agg [(V.int .i64 r14.1), (V.inl Zb []), (V.inl Zb []), (V.int .i64 (IntKind.i64.wrap (r142.1 * r143.1)))]), (Za r143.2))
      else bif (decide (r14.1 = 5)) then
        Option.bind (Zh (Za r14.2) 4) fun r144 =>
        bif (decide ((0 : Int) < index)) then
          Option.bind (Zh (Za r144.2) index) fun r145 =>
          some ((V.agg [(V.int .i64 r14.1), (V.inl Zb []), (V.inl Zb []), (V.int .i64 (IntKind.i64.wrap (1 + r145.1)))]), (Za r145.2))
        else some ((V.agg [(V.int .i64 r14.1), (V.inl Zb []), (V.inl Zb []), (V.int .i64 (IntKind.i64.wrap (1 + r144.1)))]), (Za r144.2))
      else bif (decide (r14.1 = 6)) then
        Option.bind (Zh (Za r14.2) 4) fun r146 =>
        bif (decide ((0 : Int) < index)) then
          Option.bind (Zh (Za r146.2) index) fun r147 =>
          some ((V.agg [(V.int .i64 r14.1), (V.inl Zb []), (V.inl Zb []), (V.int .i64 (IntKind.i64.wrap (1 + r147.1)))]), (Za r147.2))
        else some ((V.agg [(V.int .i64 r14.1), (V.inl Zb []), (V.inl Zb []), (V.int .i64 (IntKind.i64.wrap (1 + r146.1)))]), (Za r146.2))
      else bif (decide (r14.1 = 7)) then
        Option.bind (Zh (Za r14.2) 4) fun r148 =>
        bif (decide ((0 : Int) < index)) then
          Option.bind (Zh (Za r148.2) index) fun r149 =>
          some ((V.agg [(V.int .i64 r14.1), (V.inl Zb []), (V.inl Zb []), (V.int .i64 (IntKind.i64.wrap (1 + r149.1)))]), (Za r149.2))
        else some ((V.agg [(V.int .i64 r14.1), (V.inl Zb []), (V.inl Zb []), (V.int .i64 (IntKind.i64.wrap (1 + r148.1)))]), (Za r148.2))
      else some ((V.agg [(V.int .i64 r14.1), (V.inl Zb []), (V.inl Zb []), (V.int .i64 0)]), (Za r14.2))
    else bif (decide (r14.1 = 4)) then
      Option.bind (Zh (Za r14.2) 2) fun r150 =>
      some ((V.agg [(V.int .i64 r14.1), (V.inl Zb []), (V.inl Zb []), (V.int .i64 r150.1)]), (Za r150.2))
    else bif (decide (r14.1 = 2)) then
      Option.bind (Zh (Za r14.2) (IntKind.i64.wrap (index + 1))) fun r151 =>
      Option.bind (Zh (Za r151.2) 2) fun r152 =>
      some ((V.agg [(V.int .i64 r14.1), (V.inl Zb []), (V.inl Zb []), (V.int .i64 (IntKind.i64.wrap (r151.1 * r152.1)))]), (Za r152.2))
    else bif (decide (r14.1 = 5)) then
      Option.bind (Zh (Za r14.2) 4) fun r153 =>
      bif (decide ((0 : Int) < index)) then
        Option.bind (Zh (Za r153.2) index) fun r154 =>
        some ((V.agg [(V.int .i64 r14.1), (V.inl Zb []), (V.inl Zb []), (V.int .i64 (IntKind.i64.wrap (1 + r154.1)))]), (Za r154.2))
      else some ((V.agg [(V.int .i64 r14.1), (V.inl Zb []), (V.inl Zb []), (V.int .i64 (IntKind.i64.wrap (1 + r153.1)))]), (Za r153.2))
    else bif (decide (r14.1 = 6)) then
      Option.bind (Zh (Za r14.2) 4) fun r155 =>
      bif (decide ((0 : Int) < index)) then
        Option.bind (Zh (Za r155.2) index) fun r156 =>
        some ((V.agg [(V.int .i64 r14.1), (V.inl Zb []), (V.inl Zb []), (V.int .i64 (IntKind.i64.wrap (1 + r156.1)))]), (Za r156.2))
      else some ((V.agg [(V.int .i64 r14.1), (V.inl Zb []), (V.inl Zb []), (V.int .i64 (IntKind.i64.wrap (1 + r155.1)))]), (Za r155.2))
    else bif (decide (r14.1 = 7)) then
      Option.bind (Zh (Za r14.2) 4) fun r157 =>
      bif (decide ((0 : Int) < index)) then
        Option.bind (Zh (Za r157.2) index) fun r158 =>
        some ((V.agg [(V.int .i64 r14.1), (V.inl Zb []), (V.inl Zb []), (V.int .i64 (IntKind.i64.wrap (1 + r158.1)))]), (Za r158.2))
      else some ((V.agg [(V.int .i64 r14.1), (V.inl Zb []), (V.inl Zb []), (V.int .i64 (IntKind.i64.wrap (1 + r157.1)))]), (Za r157.2))
    else some ((V.agg [(V.int .i64 r14.1), (V.inl Zb []), (V.inl Zb []), (V.int .i64 0)]), (Za r14.2))
  else bif (decide (r14.1 = 4)) then
    Option.bind (Zh (Za r14.2) 2) fun r159 =>
    some ((V.agg [(V.int .i64 r14.1), (V.inl Zb []), (V.inl Zb []), (V.int .i64 r159.1)]), (Za r159.2))
  else bif (decide (r14.1 = 2)) then
    Option.bind (Zh (Za r14.2) (IntKind.i64.wrap (index + 1))) fun r160 =>
    Option.bind (Zh (Za r160.2) 2) fun r161 =>
    some ((V.agg [(V.int .i64 r14.1), (V.inl Zb []), (V.inl Zb []), (V.int .i64 (IntKind.i64.wrap (r160.1 * r161.1)))]), (Za r161.2))
  else bif (decide (r14.1 = 5)) then
    Option.bind (Zh (Za r14.2) 4) fun r162 =>
    bif (decide ((0 : Int) < index)) then
      Option.bind (Zh (Za r162.2) index) fun r163 =>
      some ((V.agg [(V.int .i64 r14.1), (V.inl Zb []), (V.inl Zb []), (V.int .i64 (IntKind.i64.wrap (1 + r163.1)))]), (Za r163.2))
    else some ((V.agg [(V.int .i64 r14.1), (V.inl Zb []), (V.inl Zb []), (V.int .i64 (IntKind.i64.wrap (1 + r162.1)))]), (Za r162.2))
  else bif (decide (r14.1 = 6)) then
    Option.bind (Zh (Za r14.2) 4) fun r164 =>
    bif (decide ((0 : Int) < index)) then
      Option.bind (Zh (Za r164.2) index) fun r165 =>
      some ((V.agg [(V.int .i64 r14.1), (V.inl Zb []), (V.inl Zb []), (V.int .i64 (IntKind.i64.wrap (1 + r165.1)))]), (Za r165.2))
    else some ((V.agg [(V.int .i64 r14.1), (V.inl Zb []), (V.inl Zb []), (V.int .i64 (IntKind.i64.wrap (1 + r164.1)))]), (Za r164.2))
  else bif (decide (r14.1 = 7)) then
    Option.bind (Zh (Za r14.2) 4) fun r166 =>
    bif (decide ((0 : Int) < index)) then
      Option.bind (Zh (Za r166.2) index) fun r167 =>
      some ((V.agg [(V.int .i64 r14.1), (V.inl Zb []), (V.inl Zb []), (V.int .i64 (IntKind.i64.wrap (1 + r167.1)))]), (Za r167.2))
    else some ((V.agg [(V.int .i64 r14.1), (V.inl Zb []), (V.inl Zb []), (V.int .i64 (IntKind.i64.wrap (1 + r166.1)))]), (Za r166.2))
  else some ((V.agg [(V.int .i64 r14.1), (V.inl Zb []), (V.inl Zb []), (V.int .i64 0)]), (Za r14.2))
def ZaL (c : V) (n : Int) : Option (Bool × V) :=
  Option.bind (Zh (Za c) n) fun r169 =>
  some ((decide (r169.1 = 0)), (Za r169.2))
def ZdP (c : V) : Option (V × V) :=
  Option.bind (ZfL (Za c) 6) fun r168 =>
  Option.bind (ZaL (Za r168.2) 6) fun r170 =>
  bif r170.1 then
    Option.bind (Zh (Za r170.2) 4) fun r171 =>
    bif (decide (r171.1 = 0)) then
      Option.bind (ZQ (Za r171.2) [(V.int .i64 (-1)), (V.int .i64 8), (V.int .i64 0), (V.int .i64 2)]) fun r172 =>
      some ((V.agg [(V.int .i64 r172.1), (V.inl Zb (gl r168.1 1)), (V.inl Zb (gl r168.1 2)), (V.int .i64 (gi r168.1 3))]), (Za r172.2))
    else bif (decide (r171.1 = 1)) then
      bif ((Zah (((gl r168.1 1).length) + 1) 1) && true) then
        some ((V.agg [(V.int .i64 (gi r168.1 0)), (V.inl Zb ((gl r168.1 1) ++ [(V.int .u8 65)])), (V.inl Zb (gl r168.1 2)), (V.int .i64 (gi r168.1 3))]), (Za r171.2))
      else none
    else bif (decide (r171.1 = 2)) then
      Option.bind (Zh (Za r171.2) 2) fun r173 =>
      bif (((decide ((0 : Int) ≤ (IntKind.i64.wrap (20 + r173.1)))) && decide ((IntKind.i64.wrap (20 + r173.1)) = (IntKind.i64.wrap (20 + r173.1)))) && (Zah ((IntKind.i64.wrap (20 + r173.1)).toNat) 1)) then
        some ((V.agg [(V.int .i64 (gi r168.1 0)), (V.inl Zb (gl r168.1 1)), (V.inl Zb (List.replicate ((IntKind.i64.wrap (20 + r173.1)).toNat) (V.int .u8 0))), (V.int .i64 (gi r168.1 3))]), (Za r173.2))
      else none
    else Option.bind (ZQ (Za r171.2) [(V.int .i64 (-1)), (V.int .i64 0), (V.int .i64 1), (V.int .i64 2), (V.int .i64 1000000), (V.int .i64 1000001)]) fun r174 =>
    some ((V.agg [(V.int .i64 (gi r168.1 0)), (V.inl Zb (gl r168.1 1)), (V.inl Zb (gl r168.1 2)), (V.int .i64 r174.1)]), (Za r174.2))
  else some ((Zoj r168.1), (Za r170.2))
def ZdA (c : V) : Option (V × V) :=
  Option.bind (Zh (Za c) 4) fun r11 =>
  Option.bind (Zh (Za r11.2) 25) fun r12 =>
  Option.bind (ZdP (Za r12.2)) fun r175 =>
  Option.bind (ZaL (Za r175.2) 8) fun r176 =>
  bif r176.1 then
    Option.bind (ZaL (Za r176.2) 10) fun r177 =>
    bif r177.1 then
      Option.bind (ZQ (Za r177.2) [(V.int .i64 (-1)), (V.int .i64 0), (V.int .i64 1), (V.int .i64 1000000), (V.int .i64 1000001)]) fun r178 =>
      Option.bind (ZaL (Za r178.2) 20) fun r179 =>
      bif r179.1 then
        Option.bind (ZQ (Za r179.2) [(V.int .i64 (-2)), (V.int .i64 (-1)), (V.int .i64 3), (V.int .i64 4)]) fun r180 =>
        some ((V.agg [(V.int .i64 r180.1), (V.int .i64 r178.1), (V.int .i64 0), (V.inl Zb []), (V.inl Zb []), (V.int .i64 0)]), (Za r180.2))
      else some ((V.agg [(V.int .i64 (-1)), (V.int .i64 r178.1), (V.int .i64 0), (V.inl Zb []), (V.inl Zb []), (V.int .i64 0)]), (Za r179.2))
    else Option.bind (ZaL (Za r177.2) 20) fun r181 =>
    bif r181.1 then
      Option.bind (ZQ (Za r181.2) [(V.int .i64 (-2)), (V.int .i64 (-1)), (V.int .i64 3), (V.int .i64 4)]) fun r182 =>
      some ((V.agg [(V.int .i64 r182.1), (V.int .i64 0), (V.int .i64 0), (V.inl Zb []), (V.inl Zb []), (V.int .i64 0)]), (Za r182.2))
    else some ((V.agg [(V.int .i64 (-1)), (V.int .i64 0), (V.int .i64 0), (V.inl Zb []), (V.inl Zb []), (V.int .i64 0)]), (Za r181.2))
  else Option.bind (ZaL (Za r176.2) 10) fun r183 =>
  bif r183.1 then
    Option.bind (ZQ (Za r183.2) [(V.int .i64 (-1)), (V.int .i64 0), (V.int .i64 1), (V.int .i64 1000000), (V.int .i64 1000001)]) fun r184 =>
    Option.bind (ZaL (Za r184.2) 20) fun r185 =>
    bif r185.1 then
      Option.bind (ZQ (Za r185.2) [(V.int .i64 (-2)), (V.int .i64 (-1)), (V.int .i64 3), (V.int .i64 4)]) fun r186 =>
      some ((V.agg [(V.int .i64 r186.1), (V.int .i64 r184.1), (V.int .i64 (gi r175.1 0)), (V.inl Zb (gl r175.1 1)), (V.inl Zb (gl r175.1 2)), (V.int .i64 (gi r175.1 3))]), (Za r186.2))
    else some ((V.agg [(V.int .i64 r11.1), (V.int .i64 r184.1), (V.int .i64 (gi r175.1 0)), (V.inl Zb (gl r175.1 1)), (V.inl Zb (gl r175.1 2)), (V.int .i64 (gi r175.1 3))]), (Za r185.2))
  else Option.bind (ZaL (Za r183.2) 20) fun r187 =>
  bif r187.1 then
    Option.bind (ZQ (Za r187.2) [(V.int .i64 (-2)), (V.int .i64 (-1)), (V.int .i64 3), (V.int .i64 4)]) fun r188 =>
    some ((V.agg [(V.int .i64 r188.1), (V.int .i64 (IntKind.i64.wrap (1 + r12.1))), (V.int .i64 (gi r175.1 0)), (V.inl Zb (gl r175.1 1)), (V.inl Zb (gl r175.1 2)), (V.int .i64 (gi r175.1 3))]), (Za r188.2))
  else some ((V.agg [(V.int .i64 r11.1), (V.int .i64 (IntKind.i64.wrap (1 + r12.1))), (V.int .i64 (gi r175.1 0)), (V.inl Zb (gl r175.1 1)), (V.inl Zb (gl r175.1 2)), (V.int .i64 (gi r175.1 3))]), (Za r187.2))
def ZgS (b : List V) : Bool :=
  (decide (((b.length : Nat) : Int) ≤ 20))
def Zfv (n : Int) : Bool :=
  bif (decide ((0 : Int) ≤ n)) then
    (decide (n ≤ 1000000))
  else false
def Za8 : Nat → List V → Int → Option (Nat × Bool)
  | 0, _, _ => none
  | k_ + 1, b0, i3 =>
    bif (decide (i3 < ((b0.length : Nat) : Int))) then
      bif (Zm i3 b0.length) then
        bif (decide ((gi (rd b0 i3.toNat) 0) < 97)) then
          bif (Zm i3 b0.length) then
            bif (!(decide ((gi (rd b0 i3.toNat) 0) = 47))) then
              some (0, false)
            else Za8 k_ b0 (IntKind.i64.wrap (i3 + 1))
          else none
        else bif (Zm i3 b0.length) then
          bif (decide ((122 : Int) < (gi (rd b0 i3.toNat) 0))) then
            bif (Zm i3 b0.length) then
              bif (!(decide ((gi (rd b0 i3.toNat) 0) = 47))) then
                some (0, false)
              else Za8 k_ b0 (IntKind.i64.wrap (i3 + 1))
            else none
          else Za8 k_ b0 (IntKind.i64.wrap (i3 + 1))
        else none
      else none
    else some (1, false)
def Zcl (b : List V) : Option (Bool) :=
  bif (decide (((b.length : Nat) : Int) < 1)) then
    some false
  else bif (decide ((20 : Int) < ((b.length : Nat) : Int))) then
    some false
  else Option.bind (Za8 ((((b.length : Nat) : Int) - 0).toNat + 1) b 0) fun r190 =>
  bif (Nat.beq r190.1 0) then
    some r190.2
  else some true
def ZeP (o : V) : Option (Bool) :=
  bif (decide ((gi o 0) < 0)) then
    some false
  else bif (decide ((7 : Int) < (gi o 0))) then
    some false
  else bif (!(ZgS (gl o 2))) then
    some false
  else bif (!(Zfv (gi o 3))) then
    some false
  else bif (decide ((gi o 0) = 1)) then
    Option.bind (Zcl (gl o 1)) fun r191 =>
    bif (!r191) then
      some false
    else bif (decide ((gi o 0) = 1)) then
      bif (decide ((gi o 0) = 0)) then
        some (decide ((gi o 3) = 0))
      else bif (decide ((gi o 0) = 1)) then
        some (decide ((gi o 3) = 0))
      else bif (decide ((gi o 0) = 3)) then
        some (decide ((gi o 3) = 0))
      else bif (decide ((gi o 0) = 4)) then
        some (decide ((gi o 3) ≤ 1))
      else bif (decide ((gi o 0) = 2)) then
        some true
      else some (decide ((1 : Int) ≤ (gi o 3)))
    else bif (decide ((gi o 0) = 2)) then
      bif (decide ((gi o 0) = 0)) then
        some (decide ((gi o 3) = 0))
      else bif (decide ((gi o 0) = 1)) then
        some (decide ((gi o 3) = 0))
      else bif (decide ((gi o 0) = 3)) then
        some (decide ((gi o 3) = 0))
      else bif (decide ((gi o 0) = 4)) then
        some (decide ((gi o 3) ≤ 1))
      else bif (decide ((gi o 0) = 2)) then
        some true
      else some (decide ((1 : Int) ≤ (gi o 3)))
    else bif (!(decide ((gi o 0) = 6))) then
      bif (decide ((0 : Int) < (((gl o 2).length : Nat) : Int))) then
        some false
      else bif (decide ((gi o 0) = 0)) then
        some (decide ((gi o 3) = 0))
      else bif (decide ((gi o 0) = 1)) then
        some (decide ((gi o 3) = 0))
      else bif (decide ((gi o 0) = 3)) then
        some (decide ((gi o 3) = 0))
      else bif (decide ((gi o 0) = 4)) then
        some (decide ((gi o 3) ≤ 1))
      else bif (decide ((gi o 0) = 2)) then
        some true
      else some (decide ((1 : Int) ≤ (gi o 3)))
    else bif (decide ((gi o 0) = 0)) then
      some (decide ((gi o 3) = 0))
    else bif (decide ((gi o 0) = 1)) then
      some (decide ((gi o 3) = 0))
    else bif (decide ((gi o 0) = 3)) then
      some (decide ((gi o 3) = 0))
    else bif (decide ((gi o 0) = 4)) then
      some (decide ((gi o 3) ≤ 1))
    else bif (decide ((gi o 0) = 2)) then
      some true
    else some (decide ((1 : Int) ≤ (gi o 3)))
  else bif (decide ((gi o 0) = 2)) then
    Option.bind (Zcl (gl o 1)) fun r192 =>
    bif (!r192) then
      some false
    else bif (decide ((gi o 0) = 1)) then
      bif (decide ((gi o 0) = 0)) then
        some (decide ((gi o 3) = 0))
      else bif (decide ((gi o 0) = 1)) then
        some (decide ((gi o 3) = 0))
      else bif (decide ((gi o 0) = 3)) then
        some (decide ((gi o 3) = 0))
      else bif (decide ((gi o 0) = 4)) then
        some (decide ((gi o 3) ≤ 1))
      else bif (decide ((gi o 0) = 2)) then
        some true
      else some (decide ((1 : Int) ≤ (gi o 3)))
    else bif (decide ((gi o 0) = 2)) then
      bif (decide ((gi o 0) = 0)) then
        some (decide ((gi o 3) = 0))
      else bif (decide ((gi o 0) = 1)) then
        some (decide ((gi o 3) = 0))
      else bif (decide ((gi o 0) = 3)) then
        some (decide ((gi o 3) = 0))
      else bif (decide ((gi o 0) = 4)) then
        some (decide ((gi o 3) ≤ 1))
      else bif (decide ((gi o 0) = 2)) then
        some true
      else some (decide ((1 : Int) ≤ (gi o 3)))
    else bif (!(decide ((gi o 0) = 6))) then
      bif (decide ((0 : Int) < (((gl o 2).length : Nat) : Int))) then
        some false
      else bif (decide ((gi o 0) = 0)) then
        some (decide ((gi o 3) = 0))
      else bif (decide ((gi o 0) = 1)) then
        some (decide ((gi o 3) = 0))
      else bif (decide ((gi o 0) = 3)) then
        some (decide ((gi o 3) = 0))
      else bif (decide ((gi o 0) = 4)) then
        some (decide ((gi o 3) ≤ 1))
      else bif (decide ((gi o 0) = 2)) then
        some true
      else some (decide ((1 : Int) ≤ (gi o 3)))
    else bif (decide ((gi o 0) = 0)) then
      some (decide ((gi o 3) = 0))
    else bif (decide ((gi o 0) = 1)) then
      some (decide ((gi o 3) = 0))
    else bif (decide ((gi o 0) = 3)) then
      some (decide ((gi o 3) = 0))
    else bif (decide ((gi o 0) = 4)) then
      some (decide ((gi o 3) ≤ 1))
    else bif (decide ((gi o 0) = 2)) then
      some true
    else some (decide ((1 : Int) ≤ (gi o 3)))
  else bif (decide ((gi o 0) = 3)) then
    Option.bind (Zcl (gl o 1)) fun r193 =>
    bif (!r193) then
      some false
    else bif (decide ((gi o 0) = 1)) then
      bif (decide ((gi o 0) = 0)) then
        some (decide ((gi o 3) = 0))
      else bif (decide ((gi o 0) = 1)) then
        some (decide ((gi o 3) = 0))
      else bif (decide ((gi o 0) = 3)) then
        some (decide ((gi o 3) = 0))
      else bif (decide ((gi o 0) = 4)) then
        some (decide ((gi o 3) ≤ 1))
      else bif (decide ((gi o 0) = 2)) then
        some true
      else some (decide ((1 : Int) ≤ (gi o 3)))
    else bif (decide ((gi o 0) = 2)) then
      bif (decide ((gi o 0) = 0)) then
        some (decide ((gi o 3) = 0))
      else bif (decide ((gi o 0) = 1)) then
        some (decide ((gi o 3) = 0))
      else bif (decide ((gi o 0) = 3)) then
        some (decide ((gi o 3) = 0))
      else bif (decide ((gi o 0) = 4)) then
        some (decide ((gi o 3) ≤ 1))
      else bif (decide ((gi o 0) = 2)) then
        some true
      else some (decide ((1 : Int) ≤ (gi o 3)))
    else bif (!(decide ((gi o 0) = 6))) then
      bif (decide ((0 : Int) < (((gl o 2).length : Nat) : Int))) then
        some false
      else bif (decide ((gi o 0) = 0)) then
        some (decide ((gi o 3) = 0))
      else bif (decide ((gi o 0) = 1)) then
        some (decide ((gi o 3) = 0))
      else bif (decide ((gi o 0) = 3)) then
        some (decide ((gi o 3) = 0))
      else bif (decide ((gi o 0) = 4)) then
        some (decide ((gi o 3) ≤ 1))
      else bif (decide ((gi o 0) = 2)) then
        some true
      else some (decide ((1 : Int) ≤ (gi o 3)))
    else bif (decide ((gi o 0) = 0)) then
      some (decide ((gi o 3) = 0))
    else bif (decide ((gi o 0) = 1)) then
      some (decide ((gi o 3) = 0))
    else bif (decide ((gi o 0) = 3)) then
      some (decide ((gi o 3) = 0))
    else bif (decide ((gi o 0) = 4)) then
      some (decide ((gi o 3) ≤ 1))
    else bif (decide ((gi o 0) = 2)) then
      some true
    else some (decide ((1 : Int) ≤ (gi o 3)))
  else bif (decide ((gi o 0) = 6)) then
    Option.bind (Zcl (gl o 1)) fun r194 =>
    bif (!r194) then
      some false
    else bif (decide ((gi o 0) = 1)) then
      bif (decide ((gi o 0) = 0)) then
        some (decide ((gi o 3) = 0))
      else bif (decide ((gi o 0) = 1)) then
        some (decide ((gi o 3) = 0))
      else bif (decide ((gi o 0) = 3)) then
        some (decide ((gi o 3) = 0))
      else bif (decide ((gi o 0) = 4)) then
        some (decide ((gi o 3) ≤ 1))
      else bif (decide ((gi o 0) = 2)) then
        some true
      else some (decide ((1 : Int) ≤ (gi o 3)))
    else bif (decide ((gi o 0) = 2)) then
      bif (decide ((gi o 0) = 0)) then
        some (decide ((gi o 3) = 0))
      else bif (decide ((gi o 0) = 1)) then
        some (decide ((gi o 3) = 0))
      else bif (decide ((gi o 0) = 3)) then
        some (decide ((gi o 3) = 0))
      else bif (decide ((gi o 0) = 4)) then
        some (decide ((gi o 3) ≤ 1))
      else bif (decide ((gi o 0) = 2)) then
        some true
      else some (decide ((1 : Int) ≤ (gi o 3)))
    else bif (!(decide ((gi o 0) = 6))) then
      bif (decide ((0 : Int) < (((gl o 2).length : Nat) : Int))) then
        some false
      else bif (decide ((gi o 0) = 0)) then
        some (decide ((gi o 3) = 0))
      else bif (decide ((gi o 0) = 1)) then
        some (decide ((gi o 3) = 0))
      else bif (decide ((gi o 0) = 3)) then
        some (decide ((gi o 3) = 0))
      else bif (decide ((gi o 0) = 4)) then
        some (decide ((gi o 3) ≤ 1))
      else bif (decide ((gi o 0) = 2)) then
        some true
      else some (decide ((1 : Int) ≤ (gi o 3)))
    else bif (decide ((gi o 0) = 0)) then
      some (decide ((gi o 3) = 0))
    else bif (decide ((gi o 0) = 1)) then
      some (decide ((gi o 3) = 0))
    else bif (decide ((gi o 0) = 3)) then
      some (decide ((gi o 3) = 0))
    else bif (decide ((gi o 0) = 4)) then
      some (decide ((gi o 3) ≤ 1))
    else bif (decide ((gi o 0) = 2)) then
      some true
    else some (decide ((1 : Int) ≤ (gi o 3)))
  else bif (decide ((gi o 0) = 7)) then
    Option.bind (Zcl (gl o 1)) fun r195 =>
    bif (!r195) then
      some false
    else bif (!(decide ((gi o 0) = 7))) then
      bif (decide ((0 : Int) < (((gl o 1).length : Nat) : Int))) then
        some false
      else bif (decide ((gi o 0) = 1)) then
        bif (decide ((gi o 0) = 0)) then
          some (decide ((gi o 3) = 0))
        else bif (decide ((gi o 0) = 1)) then
          some (decide ((gi o 3) = 0))
        else bif (decide ((gi o 0) = 3)) then
          some (decide ((gi o 3) = 0))
        else bif (decide ((gi o 0) = 4)) then
          some (decide ((gi o 3) ≤ 1))
        else bif (decide ((gi o 0) = 2)) then
          some true
        else some (decide ((1 : Int) ≤ (gi o 3)))
      else bif (decide ((gi o 0) = 2)) then
        bif (decide ((gi o 0) = 0)) then
          some (decide ((gi o 3) = 0))
        else bif (decide ((gi o 0) = 1)) then
          some (decide ((gi o 3) = 0))
        else bif (decide ((gi o 0) = 3)) then
          some (decide ((gi o 3) = 0))
        else bif (decide ((gi o 0) = 4)) then
          some (decide ((gi o 3) ≤ 1))
        else bif (decide ((gi o 0) = 2)) then
          some true
        else some (decide ((1 : Int) ≤ (gi o 3)))
      else bif (!(decide ((gi o 0) = 6))) then
        bif (decide ((0 : Int) < (((gl o 2).length : Nat) : Int))) then
          some false
        else bif (decide ((gi o 0) = 0)) then
          some (decide ((gi o 3) = 0))
        else bif (decide ((gi o 0) = 1)) then
          some (decide ((gi o 3) = 0))
        else bif (decide ((gi o 0) = 3)) then
          some (decide ((gi o 3) = 0))
        else bif (decide ((gi o 0) = 4)) then
          some (decide ((gi o 3) ≤ 1))
        else bif (decide ((gi o 0) = 2)) then
          some true
        else some (decide ((1 : Int) ≤ (gi o 3)))
      else bif (decide ((gi o 0) = 0)) then
        some (decide ((gi o 3) = 0))
      else bif (decide ((gi o 0) = 1)) then
        some (decide ((gi o 3) = 0))
      else bif (decide ((gi o 0) = 3)) then
        some (decide ((gi o 3) = 0))
      else bif (decide ((gi o 0) = 4)) then
        some (decide ((gi o 3) ≤ 1))
      else bif (decide ((gi o 0) = 2)) then
        some true
      else some (decide ((1 : Int) ≤ (gi o 3)))
    else bif (decide ((gi o 0) = 1)) then
      bif (decide ((gi o 0) = 0)) then
        some (decide ((gi o 3) = 0))
      else bif (decide ((gi o 0) = 1)) then
        some (decide ((gi o 3) = 0))
      else bif (decide ((gi o 0) = 3)) then
        some (decide ((gi o 3) = 0))
      else bif (decide ((gi o 0) = 4)) then
        some (decide ((gi o 3) ≤ 1))
      else bif (decide ((gi o 0) = 2)) then
        some true
      else some (decide ((1 : Int) ≤ (gi o 3)))
    else bif (decide ((gi o 0) = 2)) then
      bif (decide ((gi o 0) = 0)) then
        some (decide ((gi o 3) = 0))
      else bif (decide ((gi o 0) = 1)) then
        some (decide ((gi o 3) = 0))
      else bif (decide ((gi o 0) = 3)) then
        some (decide ((gi o 3) = 0))
      else bif (decide ((gi o 0) = 4)) then
        some (decide ((gi o 3) ≤ 1))
      else bif (decide ((gi o 0) = 2)) then
        some true
      else some (decide ((1 : Int) ≤ (gi o 3)))
    else bif (!(decide ((gi o 0) = 6))) then
      bif (decide ((0 : Int) < (((gl o 2).length : Nat) : Int))) then
        some false
      else bif (decide ((gi o 0) = 0)) then
        some (decide ((gi o 3) = 0))
      else bif (decide ((gi o 0) = 1)) then
        some (decide ((gi o 3) = 0))
      else bif (decide ((gi o 0) = 3)) then
        some (decide ((gi o 3) = 0))
      else bif (decide ((gi o 0) = 4)) then
        some (decide ((gi o 3) ≤ 1))
      else bif (decide ((gi o 0) = 2)) then
        some true
      else some (decide ((1 : Int) ≤ (gi o 3)))
    else bif (decide ((gi o 0) = 0)) then
      some (decide ((gi o 3) = 0))
    else bif (decide ((gi o 0) = 1)) then
      some (decide ((gi o 3) = 0))
    else bif (decide ((gi o 0) = 3)) then
      some (decide ((gi o 3) = 0))
    else bif (decide ((gi o 0) = 4)) then
      some (decide ((gi o 3) ≤ 1))
    else bif (decide ((gi o 0) = 2)) then
      some true
    else some (decide ((1 : Int) ≤ (gi o 3)))
  else bif (!(decide ((gi o 0) = 7))) then
    bif (decide ((0 : Int) < (((gl o 1).length : Nat) : Int))) then
      some false
    else bif (decide ((gi o 0) = 1)) then
      bif (decide ((gi o 0) = 0)) then
        some (decide ((gi o 3) = 0))
      else bif (decide ((gi o 0) = 1)) then
        some (decide ((gi o 3) = 0))
      else bif (decide ((gi o 0) = 3)) then
        some (decide ((gi o 3) = 0))
      else bif (decide ((gi o 0) = 4)) then
        some (decide ((gi o 3) ≤ 1))
      else bif (decide ((gi o 0) = 2)) then
        some true
      else some (decide ((1 : Int) ≤ (gi o 3)))
    else bif (decide ((gi o 0) = 2)) then
      bif (decide ((gi o 0) = 0)) then
        some (decide ((gi o 3) = 0))
      else bif (decide ((gi o 0) = 1)) then
        some (decide ((gi o 3) = 0))
      else bif (decide ((gi o 0) = 3)) then
        some (decide ((gi o 3) = 0))
      else bif (decide ((gi o 0) = 4)) then
        some (decide ((gi o 3) ≤ 1))
      else bif (decide ((gi o 0) = 2)) then
        some true
      else some (decide ((1 : Int) ≤ (gi o 3)))
    else bif (!(decide ((gi o 0) = 6))) then
      bif (decide ((0 : Int) < (((gl o 2).length : Nat) : Int))) then
        some false
      else bif (decide ((gi o 0) = 0)) then
        some (decide ((gi o 3) = 0))
      else bif (decide ((gi o 0) = 1)) then
        some (decide ((gi o 3) = 0))
      else bif (decide ((gi o 0) = 3)) then
        some (decide ((gi o 3) = 0))
      else bif (decide ((gi o 0) = 4)) then
        some (decide ((gi o 3) ≤ 1))
      else bif (decide ((gi o 0) = 2)) then
        some true
      else some (decide ((1 : Int) ≤ (gi o 3)))
    else bif (decide ((gi o 0) = 0)) then
      some (decide ((gi o 3) = 0))
    else bif (decide ((gi o 0) = 1)) then
      some (decide ((gi o 3) = 0))
    else bif (decide ((gi o 0) = 3)) then
      some (decide ((gi o 3) = 0))
    else bif (decide ((gi o 0) = 4)) then
      some (decide ((gi o 3) ≤ 1))
    else bif (decide ((gi o 0) = 2)) then
      some true
    else some (decide ((1 : Int) ≤ (gi o 3)))
  else bif (decide ((gi o 0) = 1)) then
    bif (decide ((gi o 0) = 0)) then
      some (decide ((gi o 3) = 0))
    else bif (decide ((gi o 0) = 1)) then
      some (decide ((gi o 3) = 0))
    else bif (decide ((gi o 0) = 3)) then
      some (decide ((gi o 3) = 0))
    else bif (decide ((gi o 0) = 4)) then
      some (decide ((gi o 3) ≤ 1))
    else bif (decide ((gi o 0) = 2)) then
      some true
    else some (decide ((1 : Int) ≤ (gi o 3)))
  else bif (decide ((gi o 0) = 2)) then
    bif (decide ((gi o 0) = 0)) then
      some (decide ((gi o 3) = 0))
    else bif (decide ((gi o 0) = 1)) then
      some (decide ((gi o 3) = 0))
    else bif (decide ((gi o 0) = 3)) then
      some (decide ((gi o 3) = 0))
    else bif (decide ((gi o 0) = 4)) then
      some (decide ((gi o 3) ≤ 1))
    else bif (decide ((gi o 0) = 2)) then
      some true
    else some (decide ((1 : Int) ≤ (gi o 3)))
  else bif (!(decide ((gi o 0) = 6))) then
    bif (decide ((0 : Int) < (((gl o 2).length : Nat) : Int))) then
      some false
    else bif (decide ((gi o 0) = 0)) then
      some (decide ((gi o 3) = 0))
    else bif (decide ((gi o 0) = 1)) then
      some (decide ((gi o 3) = 0))
    else bif (decide ((gi o 0) = 3)) then
      some (decide ((gi o 3) = 0))
    else bif (decide ((gi o 0) = 4)) then
      some (decide ((gi o 3) ≤ 1))
    else bif (decide ((gi o 0) = 2)) then
      some true
    else some (decide ((1 : Int) ≤ (gi o 3)))
  else bif (decide ((gi o 0) = 0)) then
    some (decide ((gi o 3) = 0))
  else bif (decide ((gi o 0) = 1)) then
    some (decide ((gi o 3) = 0))
  else bif (decide ((gi o 0) = 3)) then
    some (decide ((gi o 3) = 0))
  else bif (decide ((gi o 0) = 4)) then
    some (decide ((gi o 3) ≤ 1))
  else bif (decide ((gi o 0) = 2)) then
    some true
  else some (decide ((1 : Int) ≤ (gi o 3)))
def Zcm (c : V) : Option (Bool) :=
  bif (decide ((gi c 0) = (-1))) then
    bif (decide ((gi c 1) = 0)) then
      bif (decide ((gi c 2) = 0)) then
        Option.bind (ZeP (V.agg [(V.int .i64 (gi c 2)), (V.inl Zb (gl c 3)), (V.inl Zb (gl c 4)), (V.int .i64 (gi c 5))])) fun r196 =>
        some r196
      else some false
    else some false
  else bif (decide ((0 : Int) ≤ (gi c 0))) then
    bif (decide ((gi c 0) < 4)) then
      bif (decide ((1 : Int) ≤ (gi c 1))) then
        bif (decide ((gi c 1) ≤ 1000000)) then
          Option.bind (ZeP (V.agg [(V.int .i64 (gi c 2)), (V.inl Zb (gl c 3)), (V.inl Zb (gl c 4)), (V.int .i64 (gi c 5))])) fun r197 =>
          some r197
        else some false
      else some false
    else some false
  else some false
def Zam : Nat → Int → Int → V → List V → Option (List V)
  | 0, _, _, _, _ => none
  | k_ + 1, n5, i6, b0, r1 =>
    bif (decide (i6 < n5)) then
      Option.bind (ZdA (Za b0)) fun r201 =>
      Option.bind (Zcm (ZY r201.1)) fun r202 =>
      bif r202 then
        bif ((Zah (r1.length + 1) 88) && true) then
          Zam k_ n5 (IntKind.i64.wrap (i6 + 1)) (Za r201.2) (r1 ++ [(V.agg [(V.int .i64 i6), (V.int .i64 (gi r201.1 0)), (V.int .i64 (gi r201.1 1)), (V.int .i64 (gi r201.1 2)), (V.inl Zb (gl r201.1 3)), (V.inl Zb (gl r201.1 4)), (V.int .i64 (gi r201.1 5))])])
        else none
      else Option.bind (ZaL (Za r201.2) 12) fun r203 =>
      bif r203.1 then
        bif ((Zah (r1.length + 1) 88) && true) then
          Zam k_ n5 (IntKind.i64.wrap (i6 + 1)) (Za r203.2) (r1 ++ [(V.agg [(V.int .i64 i6), (V.int .i64 (gi r201.1 0)), (V.int .i64 (gi r201.1 1)), (V.int .i64 (gi r201.1 2)), (V.inl Zb (gl r201.1 3)), (V.inl Zb (gl r201.1 4)), (V.int .i64 (gi r201.1 5))])])
        else none
      else Zam k_ n5 (IntKind.i64.wrap (i6 + 1)) (Za r203.2) r1
    else some r1
def Zdf (code : List V) : Option (List V) :=
  Option.bind (Zek code) fun r199 =>
  Option.bind (Zh (Za r199) 20) fun r200 =>
  Option.bind (Zam ((r200.1 - 0).toNat + 1) r200.1 0 (Za r200.2) []) fun r204 =>
  some r204
def ZfM : V :=
  (V.agg [(V.int .i64 (-1)), (V.int .i64 0), (V.int .i64 0), (V.inl Zb []), (V.inl Zb []), (V.int .i64 0)])
def ZdH (a : List V) (b : List V) : Bool :=
  (Zbd (a.map Za5) (b.map Za5))
def Zfw (o : V) (p : V) : Bool :=
  bif (decide ((gi o 0) = (gi p 0))) then
    bif ZdH (gl o 1) (gl p 1) then
      bif ZdH (gl o 2) (gl p 2) then
        (decide ((gi o 3) = (gi p 3)))
      else false
    else false
  else false
def ZdQ (c : V) (d : V) : Bool :=
  bif (decide ((gi c 0) = (gi d 0))) then
    bif (decide ((gi c 1) = (gi d 1))) then
      (Zfw (V.agg [(V.int .i64 (gi c 2)), (V.inl Zb (gl c 3)), (V.inl Zb (gl c 4)), (V.int .i64 (gi c 5))]) (V.agg [(V.int .i64 (gi d 2)), (V.inl Zb (gl d 3)), (V.inl Zb (gl d 4)), (V.int .i64 (gi d 5))]))
    else false
  else false
def ZC (n : Int) (low : Int) (high : Int) : Bool :=
  bif (decide (low ≤ n)) then
    (decide (n ≤ high))
  else false
def Za9 : Nat → List V → List V → Int → Int → Option (Nat × List V × Bool)
  | 0, _, _, _, _ => none
  | k_ + 1, b0, v5, v6, v7 =>
    bif (decide (v7 < v6)) then
      bif (Zm v7 v5.length) then
        bif (decide ((gi (rd v5 v7.toNat) 0) < 97)) then
          bif (!(decide ((gi (rd v5 v7.toNat) 0) = 47))) then
            some (0, b0, false)
          else Za9 k_ b0 v5 v6 (IntKind.i64.wrap (v7 + 1))
        else bif (decide ((122 : Int) < (gi (rd v5 v7.toNat) 0))) then
          bif (!(decide ((gi (rd v5 v7.toNat) 0) = 47))) then
            some (0, b0, false)
          else Za9 k_ b0 v5 v6 (IntKind.i64.wrap (v7 + 1))
        else Za9 k_ b0 v5 v6 (IntKind.i64.wrap (v7 + 1))
      else none
    else some (1, b0, false)
def Zbz (b : List V) : Option (Bool) :=
  Option.bind (Za9 ((((b.length : Nat) : Int) - 0).toNat + 1) b b ((b.length : Nat) : Int) 0) fun r206 =>
  bif (Nat.beq r206.1 0) then
    some r206.2.2
  else some (ZC ((r206.2.1.length : Nat) : Int) 1 20)
def Zb2 (b : List V) : Bool :=
  (decide (((b.length : Nat) : Int) ≤ 20))
def ZfN (o : V) : Option (Bool) :=
  bif (decide ((gi o 0) = 0)) then
    bif ZC (gi o 3) 0 0 then
      bif (decide ((((gl o 1).length : Nat) : Int) = 0)) then
        some (decide ((((gl o 2).length : Nat) : Int) = 0))
      else some false
    else some false
  else bif (decide ((gi o 0) = 1)) then
    bif ZC (gi o 3) 0 0 then
      Option.bind (Zbz (gl o 1)) fun r207 =>
      bif r207 then
        bif Zb2 (gl o 2) then
          some true
        else some false
      else some false
    else some false
  else bif (decide ((gi o 0) = 2)) then
    bif ZC (gi o 3) 0 1000000 then
      Option.bind (Zbz (gl o 1)) fun r208 =>
      bif r208 then
        bif Zb2 (gl o 2) then
          some true
        else some false
      else some false
    else some false
  else bif (decide ((gi o 0) = 3)) then
    bif ZC (gi o 3) 0 0 then
      Option.bind (Zbz (gl o 1)) fun r209 =>
      bif r209 then
        some (decide ((((gl o 2).length : Nat) : Int) = 0))
      else some false
    else some false
  else bif (decide ((gi o 0) = 4)) then
    bif ZC (gi o 3) 0 1 then
      bif (decide ((((gl o 1).length : Nat) : Int) = 0)) then
        some (decide ((((gl o 2).length : Nat) : Int) = 0))
      else some false
    else some false
  else bif (decide ((gi o 0) = 5)) then
    bif ZC (gi o 3) 1 1000000 then
      bif (decide ((((gl o 1).length : Nat) : Int) = 0)) then
        some (decide ((((gl o 2).length : Nat) : Int) = 0))
      else some false
    else some false
  else bif (decide ((gi o 0) = 6)) then
    bif ZC (gi o 3) 1 1000000 then
      Option.bind (Zbz (gl o 1)) fun r210 =>
      bif r210 then
        bif Zb2 (gl o 2) then
          some true
        else some false
      else some false
    else some false
  else bif (decide ((gi o 0) = 7)) then
    bif ZC (gi o 3) 1 1000000 then
      Option.bind (Zbz (gl o 1)) fun r211 =>
      bif r211 then
        some (decide ((((gl o 2).length : Nat) : Int) = 0))
      else some false
    else some false
  else some false
def ZcU (c : V) : Option (Bool) :=
  bif ZdQ (ZY c) (ZY ZfM) then
    some true
  else bif ZC (gi c 0) 0 3 then
    bif ZC (gi c 1) 1 1000000 then
      Option.bind (ZfN (V.agg [(V.int .i64 (gi c 2)), (V.inl Zb (gl c 3)), (V.inl Zb (gl c 4)), (V.int .i64 (gi c 5))])) fun r212 =>
      some r212
    else some false
  else some false
def ZbJ (l : V) (client : Int) : Int :=
  (IntKind.i64.wrap ((gi l 0) - client))
def ZG : Nat → List V → Int → Int → Int → Int → Option (List V × Int × Int × Int)
  | 0, _, _, _, _, _ => none
  | k_ + 1, x0, target1, n8, i9, j10 =>
    bif (decide (i9 < j10)) then
      bif (Zm (IntKind.i64.wrap (ZdX .u64 (IntKind.u64.wrap (IntKind.i64.wrap (i9 + j10))) 1)) x0.length) then
        bif (decide ((ZbJ (ZeG (rd x0 ((IntKind.i64.wrap (ZdX .u64 (IntKind.u64.wrap (IntKind.i64.wrap (i9 + j10))) 1)).toNat))) target1) < 0)) then
          ZG k_ x0 target1 n8 (IntKind.i64.wrap ((IntKind.i64.wrap (ZdX .u64 (IntKind.u64.wrap (IntKind.i64.wrap (i9 + j10))) 1)) + 1)) j10
        else ZG k_ x0 target1 n8 i9 (IntKind.i64.wrap (ZdX .u64 (IntKind.u64.wrap (IntKind.i64.wrap (i9 + j10))) 1))
      else none
    else some (x0, target1, n8, i9)
def ZaE (x : List V) (target : Int) : Option (Int × Bool) :=
  Option.bind (ZG ((((x.length : Nat) : Int) - 0).toNat + 1) x target ((x.length : Nat) : Int) 0 ((x.length : Nat) : Int)) fun r214 =>
  bif (decide (r214.2.2.2 < r214.2.2.1)) then
    bif (Zm r214.2.2.2 r214.1.length) then
      some (r214.2.2.2, (decide ((ZbJ (ZeG (rd r214.1 r214.2.2.2.toNat)) r214.2.1) = 0)))
    else none
  else some (r214.2.2.2, false)
def Zcn (s : V) (client : Int) : Option (Int × Bool) :=
  Option.bind (ZaE (gl s 5) client) fun r215 =>
  some (r215.1, r215.2)
def ZcV (r : V) (key : List V) : Int :=
  (Zft (gl r 0) key)
def ZA : Nat → List V → List V → Int → Int → Int → Option (List V × List V × Int × Int)
  | 0, _, _, _, _, _ => none
  | k_ + 1, x0, target1, n8, i9, j10 =>
    bif (decide (i9 < j10)) then
      bif (Zm (IntKind.i64.wrap (ZdX .u64 (IntKind.u64.wrap (IntKind.i64.wrap (i9 + j10))) 1)) x0.length) then
        bif (decide ((ZcV (ZgR (rd x0 ((IntKind.i64.wrap (ZdX .u64 (IntKind.u64.wrap (IntKind.i64.wrap (i9 + j10))) 1)).toNat))) target1) < 0)) then
          ZA k_ x0 target1 n8 (IntKind.i64.wrap ((IntKind.i64.wrap (ZdX .u64 (IntKind.u64.wrap (IntKind.i64.wrap (i9 + j10))) 1)) + 1)) j10
        else ZA k_ x0 target1 n8 i9 (IntKind.i64.wrap (ZdX .u64 (IntKind.u64.wrap (IntKind.i64.wrap (i9 + j10))) 1))
      else none
    else some (x0, target1, n8, i9)
def ZaZ (x : List V) (target : List V) : Option (Int × Bool) :=
  Option.bind (ZA ((((x.length : Nat) : Int) - 0).toNat + 1) x target ((x.length : Nat) : Int) 0 ((x.length : Nat) : Int)) fun r217 =>
  bif (decide (r217.2.2.2 < r217.2.2.1)) then
    bif (Zm r217.2.2.2 r217.1.length) then
      some (r217.2.2.2, (decide ((ZcV (ZgR (rd r217.1 r217.2.2.2.toNat)) r217.2.1) = 0)))
    else none
  else some (r217.2.2.2, false)
def Za0 (s : V) (key : List V) : Option (Int × Bool) :=
  Option.bind (ZaZ (gl s 1) key) fun r218 =>
  some (r218.1, r218.2)
def ZF (s : List V) : Option (List V) :=
  bif ((Zah (0 + s.length) 1) && true) then
    some s
  else none
def Ze0 (t : V) (a1 : V) : Bool :=
  (ZdH (gl t 0) (gl a1 0))
def Zaa : Nat → List V → V → Int → Int → Option (Nat × Int)
  | 0, _, _, _, _ => none
  | k_ + 1, s0, f1_0, v7, v8 =>
    bif (decide (v8 < v7)) then
      bif (Zm v8 s0.length) then
        bif Ze0 (ZmD (rd s0 v8.toNat)) (V.agg [(V.inl Zb (gl f1_0 0))]) then
          some (0, v8)
        else Zaa k_ s0 (V.agg [(V.inl Zb (gl f1_0 0))]) v7 (IntKind.i64.wrap (v8 + 1))
      else none
    else some (1, 0)
def ZcI (s : List V) (f_0 : V) : Option (Int) :=
  Option.bind (Zaa ((((s.length : Nat) : Int) - 0).toNat + 1) s (V.agg [(V.inl Zb (gl f_0 0))]) ((s.length : Nat) : Int) 0) fun r223 =>
  bif (Nat.beq r223.1 0) then
    some r223.2
  else some (-1)
def Zbf (s : V) (key : List V) : Option (Int) :=
  Option.bind (ZcI (gl s 2) (V.agg [(V.inl Zb key)])) fun r224 =>
  some r224
def Zel (x : V) (a1 : V) : Bool :=
  (decide ((gi x 0) = (gi a1 0)))
def Z1 : Nat → List V → V → Int → Int → Option (Nat × Int)
  | 0, _, _, _, _ => none
  | k_ + 1, s0, f1_0, v7, v8 =>
    bif (decide (v8 < v7)) then
      bif (Zm v8 s0.length) then
        bif Zel (Zkh (rd s0 v8.toNat)) (V.agg [(V.int .i64 (gi f1_0 0))]) then
          some (0, v8)
        else Z1 k_ s0 (V.agg [(V.int .i64 (gi f1_0 0))]) v7 (IntKind.i64.wrap (v8 + 1))
      else none
    else some (1, 0)
def Zb3 (s : List V) (f_0 : V) : Option (Int) :=
  Option.bind (Z1 ((((s.length : Nat) : Int) - 0).toNat + 1) s (V.agg [(V.int .i64 (gi f_0 0))]) ((s.length : Nat) : Int) 0) fun r242 =>
  bif (Nat.beq r242.1 0) then
    some r242.2
  else some (-1)
def Zan (s : V) (id : Int) : Option (Int) :=
  Option.bind (Zb3 (gl s 4) (V.agg [(V.int .i64 id)])) fun r243 =>
  some r243
def Zbn : Nat → V → List V → List V → List V → List V → Option (V × List V × List V × List V × List V)
  | 0, _, _, _, _, _ => none
  | k_ + 1, b0, r1, r2, r3, r4 =>
    bif (decide ((10 : Int) < ((r2.length : Nat) : Int))) then
      bif (Zm 0 r2.length) then
        Option.bind (Zdq r2 0 1) fun r250 =>
        Zbn k_ (V.agg [(V.int .i64 (gi b0 0)), (V.sl 1 Zg 0 none), (V.sl 2 Zf 0 none), (V.int .i64 (gi (rd r2 0) 1)), (V.sl 3 Zd 0 none), (V.sl 4 Ze 0 none)]) r1 r250 r3 r4
      else none
    else some ((V.agg [(V.int .i64 (gi b0 0)), (V.sl 1 Zg 0 none), (V.sl 2 Zf 0 none), (V.int .i64 (gi b0 3)), (V.sl 3 Zd 0 none), (V.sl 4 Ze 0 none)]), r1, r2, r3, r4)
def ZcW (s : V) (k : Int) : Option (V) :=
  bif (Zm k ((gl s 1).length)) then
    bif ((Zah (((gl s 2).length) + 1) 32) && true) then
      Option.bind (Zdq (gl s 1) k (IntKind.i64.wrap (k + 1))) fun r249 =>
      Option.bind (Zbn ((((((gl s 2) ++ [(V.agg [(V.inl Zb (gl (rd (gl s 1) (0 + k.toNat)) 0)), (V.int .i64 (gi s 0))])]).length : Nat) : Int) - 10).toNat + 1) (V.agg [(V.int .i64 (gi s 0)), (V.sl 1 Zg 0 none), (V.sl 2 Zf 0 none), (V.int .i64 (gi s 3)), (V.sl 3 Zd 0 none), (V.sl 4 Ze 0 none)]) r249 ((gl s 2) ++ [(V.agg [(V.inl Zb (gl (rd (gl s 1) (0 + k.toNat)) 0)), (V.int .i64 (gi s 0))])]) (gl s 4) (gl s 5)) fun r251 =>
      some (V.agg [(V.int .i64 (gi r251.1 0)), (V.inl Zg r251.2.1), (V.inl Zf r251.2.2.1), (V.int .i64 (gi r251.1 3)), (V.inl Zd r251.2.2.2.1), (V.inl Ze r251.2.2.2.2)])
    else none
  else none
def ZW (s : V) (key : List V) (val : List V) : Option (Bool × V) :=
  Option.bind (Za0 (Zc s) key) fun r271 =>
  bif (!r271.2) then
    bif (decide ((((gl s 1).length : Nat) : Int) = 20)) then
      some (false, (Zc s))
    else Option.bind (ZF key) fun r272 =>
    Option.bind (ZcT 64 (gl s 1) r271.1 [(V.agg [(V.inl Zb r272), (V.inl Zb []), (V.int .i64 0), (V.int .i64 0)])]) fun r273 =>
    Option.bind (Zbf (V.agg [(V.int .i64 (gi s 0)), (V.inl Zg r273), (V.inl Zf (gl s 2)), (V.int .i64 (gi s 3)), (V.inl Zd (gl s 4)), (V.inl Ze (gl s 5))]) key) fun r274 =>
    bif (decide ((0 : Int) ≤ r274)) then
      Option.bind (Zdq (gl s 2) r274 (IntKind.i64.wrap (r274 + 1))) fun r275 =>
      Option.bind (ZF val) fun r276 =>
      bif (Zm r271.1 r273.length) then
        bif (Zm r271.1 ((r273.set (0 + r271.1.toNat) (V.agg [(V.inl Zb (gl (rd r273 (0 + r271.1.toNat)) 0)), (V.inl Zb r276), (V.int .i64 (gi (rd r273 (0 + r271.1.toNat)) 2)), (V.int .i64 (gi (rd r273 (0 + r271.1.toNat)) 3))])).length)) then
          some (true, (V.agg [(V.int .i64 (gi s 0)), (V.inl Zg ((r273.set (0 + r271.1.toNat) (V.agg [(V.inl Zb (gl (rd r273 (0 + r271.1.toNat)) 0)), (V.inl Zb r276), (V.int .i64 (gi (rd r273 (0 + r271.1.toNat)) 2)), (V.int .i64 (gi (rd r273 (0 + r271.1.toNat)) 3))])).set (0 + r271.1.toNat) (V.agg [(V.inl Zb (gl (rd (r273.set (0 + r271.1.toNat) (V.agg [(V.inl Zb (gl (rd r273 (0 + r271.1.toNat)) 0)), (V.inl Zb r276), (V.int .i64 (gi (rd r273 (0 + r271.1.toNat)) 2)), (V.int .i64 (gi (rd r273 (0 + r271.1.toNat)) 3))])) (0 + r271.1.toNat)) 0)), (V.inl Zb (gl (rd (r273.set (0 + r271.1.toNat) (V.agg [(V.inl Zb (gl (rd r273 (0 + r271.1.toNat)) 0)), (V.inl Zb r276), (V.int .i64 (gi (rd r273 (0 + r271.1.toNat)) 2)), (V.int .i64 (gi (rd r273 (0 + r271.1.toNat)) 3))])) (0 + r271.1.toNat)) 1)), (V.int .i64 (gi s 0)), (V.int .i64 (gi (rd (r273.set (0 + r271.1.toNat) (V.agg [(V.inl Zb (gl (rd r273 (0 + r271.1.toNat)) 0)), (V.inl Zb r276), (V.int .i64 (gi (rd r273 (0 + r271.1.toNat)) 2)), (V.int .i64 (gi (rd r273 (0 + r271.1.toNat)) 3))])) (0 + r271.1.toNat)) 3))]))), (V.inl Zf r275), (V.int .i64 (gi s 3)), (V.inl Zd (gl s 4)), (V.inl Ze (gl s 5))]))
        else none
      else none
    else Option.bind (ZF val) fun r277 =>
    bif (Zm r271.1 r273.length) then
      bif (Zm r271.1 ((r273.set (0 + r271.1.toNat) (V.agg [(V.inl Zb (gl (rd r273 (0 + r271.1.toNat)) 0)), (V.inl Zb r277), (V.int .i64 (gi (rd r273 (0 + r271.1.toNat)) 2)), (V.int .i64 (gi (rd r273 (0 + r271.1.toNat)) 3))])).length)) then
        some (true, (V.agg [(V.int .i64 (gi s 0)), (V.inl Zg ((r273.set (0 + r271.1.toNat) (V.agg [(V.inl Zb (gl (rd r273 (0 + r271.1.toNat)) 0)), (V.inl Zb r277), (V.int .i64 (gi (rd r273 (0 + r271.1.toNat)) 2)), (V.int .i64 (gi (rd r273 (0 + r271.1.toNat)) 3))])).set (0 + r271.1.toNat) (V.agg [(V.inl Zb (gl (rd (r273.set (0 + r271.1.toNat) (V.agg [(V.inl Zb (gl (rd r273 (0 + r271.1.toNat)) 0)), (V.inl Zb r277), (V.int .i64 (gi (rd r273 (0 + r271.1.toNat)) 2)), (V.int .i64 (gi (rd r273 (0 + r271.1.toNat)) 3))])) (0 + r271.1.toNat)) 0)), (V.inl Zb (gl (rd (r273.set (0 + r271.1.toNat) (V.agg [(V.inl Zb (gl (rd r273 (0 + r271.1.toNat)) 0)), (V.inl Zb r277), (V.int .i64 (gi (rd r273 (0 + r271.1.toNat)) 2)), (V.int .i64 (gi (rd r273 (0 + r271.1.toNat)) 3))])) (0 + r271.1.toNat)) 1)), (V.int .i64 (gi s 0)), (V.int .i64 (gi (rd (r273.set (0 + r271.1.toNat) (V.agg [(V.inl Zb (gl (rd r273 (0 + r271.1.toNat)) 0)), (V.inl Zb r277), (V.int .i64 (gi (rd r273 (0 + r271.1.toNat)) 2)), (V.int .i64 (gi (rd r273 (0 + r271.1.toNat)) 3))])) (0 + r271.1.toNat)) 3))]))), (V.inl Zf (gl s 2)), (V.int .i64 (gi s 3)), (V.inl Zd (gl s 4)), (V.inl Ze (gl s 5))]))
      else none
    else none
  else Option.bind (ZF val) fun r278 =>
  bif (Zm r271.1 ((gl s 1).length)) then
    bif (Zm r271.1 (((gl s 1).set (0 + r271.1.toNat) (V.agg [(V.inl Zb (gl (rd (gl s 1) (0 + r271.1.toNat)) 0)), (V.inl Zb r278), (V.int .i64 (gi (rd (gl s 1) (0 + r271.1.toNat)) 2)), (V.int .i64 (gi (rd (gl s 1) (0 + r271.1.toNat)) 3))])).length)) then
      some (true, (V.agg [(V.int .i64 (gi s 0)), (V.inl Zg (((gl s 1).set (0 + r271.1.toNat) (V.agg [(V.inl Zb (gl (rd (gl s 1) (0 + r271.1.toNat)) 0)), (V.inl Zb r278), (V.int .i64 (gi (rd (gl s 1) (0 + r271.1.toNat)) 2)), (V.int .i64 (gi (rd (gl s 1) (0 + r271.1.toNat)) 3))])).set (0 + r271.1.toNat) (V.agg [(V.inl Zb (gl (rd ((gl s 1).set (0 + r271.1.toNat) (V.agg [(V.inl Zb (gl (rd (gl s 1) (0 + r271.1.toNat)) 0)), (V.inl Zb r278), (V.int .i64 (gi (rd (gl s 1) (0 + r271.1.toNat)) 2)), (V.int .i64 (gi (rd (gl s 1) (0 + r271.1.toNat)) 3))])) (0 + r271.1.toNat)) 0)), (V.inl Zb (gl (rd ((gl s 1).set (0 + r271.1.toNat) (V.agg [(V.inl Zb (gl (rd (gl s 1) (0 + r271.1.toNat)) 0)), (V.inl Zb r278), (V.int .i64 (gi (rd (gl s 1) (0 + r271.1.toNat)) 2)), (V.int .i64 (gi (rd (gl s 1) (0 + r271.1.toNat)) 3))])) (0 + r271.1.toNat)) 1)), (V.int .i64 (gi s 0)), (V.int .i64 (gi (rd ((gl s 1).set (0 + r271.1.toNat) (V.agg [(V.inl Zb (gl (rd (gl s 1) (0 + r271.1.toNat)) 0)), (V.inl Zb r278), (V.int .i64 (gi (rd (gl s 1) (0 + r271.1.toNat)) 2)), (V.int .i64 (gi (rd (gl s 1) (0 + r271.1.toNat)) 3))])) (0 + r271.1.toNat)) 3))]))), (V.inl Zf (gl s 2)), (V.int .i64 (gi s 3)), (V.inl Zd (gl s 4)), (V.inl Ze (gl s 5))]))
    else none
  else none
def ZaR : Nat → Int → Bool → Int → V → List V → List V → List V → List V → Option (V × List V × List V × List V × List V)
  | 0, _, _, _, _, _, _, _, _ => none
  | k_ + 1, id1, remove6, k7, b0, r1, r2, r3, r4 =>
    bif (decide (k7 < ((r1.length : Nat) : Int))) then
      bif (Zm k7 r1.length) then
        bif (!(decide ((gi (rd r1 (0 + k7.toNat)) 3) = id1))) then
          ZaR k_ id1 remove6 (IntKind.i64.wrap (k7 + 1)) (V.agg [(V.int .i64 (gi b0 0)), (V.sl 1 Zg 0 none), (V.sl 2 Zf 0 none), (V.int .i64 (gi b0 3)), (V.sl 3 Zd 0 none), (V.sl 4 Ze 0 none)]) r1 r2 r3 r4
        else bif remove6 then
          Option.bind (ZcW (V.agg [(V.int .i64 (gi b0 0)), (V.inl Zg r1), (V.inl Zf r2), (V.int .i64 (gi b0 3)), (V.inl Zd r3), (V.inl Ze r4)]) k7) fun r290 =>
          ZaR k_ id1 remove6 (IntKind.i64.wrap ((IntKind.i64.wrap (k7 - 1)) + 1)) (V.agg [(V.int .i64 (gi r290 0)), (V.sl 1 Zg 0 none), (V.sl 2 Zf 0 none), (V.int .i64 (gi r290 3)), (V.sl 3 Zd 0 none), (V.sl 4 Ze 0 none)]) (gl r290 1) (gl r290 2) (gl r290 4) (gl r290 5)
        else bif (Zm k7 r1.length) then
          bif (Zm k7 ((r1.set (0 + k7.toNat) (V.agg [(V.inl Zb (gl (rd r1 (0 + k7.toNat)) 0)), (V.inl Zb (gl (rd r1 (0 + k7.toNat)) 1)), (V.int .i64 (gi (rd r1 (0 + k7.toNat)) 2)), (V.int .i64 0)])).length)) then
            ZaR k_ id1 remove6 (IntKind.i64.wrap (k7 + 1)) (V.agg [(V.int .i64 (gi b0 0)), (V.sl 1 Zg 0 none), (V.sl 2 Zf 0 none), (V.int .i64 (gi b0 3)), (V.sl 3 Zd 0 none), (V.sl 4 Ze 0 none)]) ((r1.set (0 + k7.toNat) (V.agg [(V.inl Zb (gl (rd r1 (0 + k7.toNat)) 0)), (V.inl Zb (gl (rd r1 (0 + k7.toNat)) 1)), (V.int .i64 (gi (rd r1 (0 + k7.toNat)) 2)), (V.int .i64 0)])).set (0 + k7.toNat) (V.agg [(V.inl Zb (gl (rd (r1.set (0 + k7.toNat) (V.agg [(V.inl Zb (gl (rd r1 (0 + k7.toNat)) 0)), (V.inl Zb (gl (rd r1 (0 + k7.toNat)) 1)), (V.int .i64 (gi (rd r1 (0 + k7.toNat)) 2)), (V.int .i64 0)])) (0 + k7.toNat)) 0)), (V.inl Zb (gl (rd (r1.set (0 + k7.toNat) (V.agg [(V.inl Zb (gl (rd r1 (0 + k7.toNat)) 0)), (V.inl Zb (gl (rd r1 (0 + k7.toNat)) 1)), (V.int .i64 (gi (rd r1 (0 + k7.toNat)) 2)), (V.int .i64 0)])) (0 + k7.toNat)) 1)), (V.int .i64 (gi b0 0)), (V.int .i64 (gi (rd (r1.set (0 + k7.toNat) (V.agg [(V.inl Zb (gl (rd r1 (0 + k7.toNat)) 0)), (V.inl Zb (gl (rd r1 (0 + k7.toNat)) 1)), (V.int .i64 (gi (rd r1 (0 + k7.toNat)) 2)), (V.int .i64 0)])) (0 + k7.toNat)) 3))])) r2 r3 r4
          else none
        else none
      else none
    else some ((V.agg [(V.int .i64 (gi b0 0)), (V.sl 1 Zg 0 none), (V.sl 2 Zf 0 none), (V.int .i64 (gi b0 3)), (V.sl 3 Zd 0 none), (V.sl 4 Ze 0 none)]), r1, r2, r3, r4)
def ZeQ (s : V) (id : Int) : Option (Int × V) :=
  Option.bind (Zan (Zc s) id) fun r288 =>
  bif (decide (r288 < 0)) then
    some (1, (Zc s))
  else bif (Zm r288 ((gl s 4).length)) then
    Option.bind (Zdq (gl s 4) r288 (IntKind.i64.wrap (r288 + 1))) fun r289 =>
    Option.bind (ZaR (((((gl s 1).length : Nat) : Int) - 0).toNat + 1) id (gb (rd (gl s 4) (0 + r288.toNat)) 1) 0 (V.agg [(V.int .i64 (gi s 0)), (V.sl 1 Zg 0 none), (V.sl 2 Zf 0 none), (V.int .i64 (gi s 3)), (V.sl 3 Zd 0 none), (V.sl 4 Ze 0 none)]) (gl s 1) (gl s 2) r289 (gl s 5)) fun r291 =>
    some (0, (V.agg [(V.int .i64 (gi r291.1 0)), (V.inl Zg r291.2.1), (V.inl Zf r291.2.2.1), (V.int .i64 (gi r291.1 3)), (V.inl Zd r291.2.2.2.1), (V.inl Ze r291.2.2.2.2)]))
  else none
def Zb4 (s : V) (o : V) : Option (Int × V) :=
  Option.bind (Za0 (Zc s) (gl o 1)) fun r270 =>
  bif (decide ((gi o 0) = 1)) then
    bif r270.2 then
      bif (Zm r270.1 ((gl s 1).length)) then
        bif (decide ((gi o 0) = 2)) then
          bif (!(decide ((gi (rd (gl s 1) (0 + r270.1.toNat)) 2) = (gi o 3)))) then
            some (3, (Zc s))
          else Option.bind (ZW (Zc s) (gl o 1) (gl o 2)) fun r279 =>
          bif (!r279.1) then
            some (4, (Zc r279.2))
          else some (0, (Zc r279.2))
        else Option.bind (ZW (Zc s) (gl o 1) (gl o 2)) fun r280 =>
        bif (!r280.1) then
          some (4, (Zc r280.2))
        else some (0, (Zc r280.2))
      else none
    else bif (decide ((gi o 0) = 2)) then
      bif (!(decide ((0 : Int) = (gi o 3)))) then
        some (3, (Zc s))
      else Option.bind (ZW (Zc s) (gl o 1) (gl o 2)) fun r281 =>
      bif (!r281.1) then
        some (4, (Zc r281.2))
      else some (0, (Zc r281.2))
    else Option.bind (ZW (Zc s) (gl o 1) (gl o 2)) fun r282 =>
    bif (!r282.1) then
      some (4, (Zc r282.2))
    else some (0, (Zc r282.2))
  else bif (decide ((gi o 0) = 2)) then
    bif r270.2 then
      bif (Zm r270.1 ((gl s 1).length)) then
        bif (decide ((gi o 0) = 2)) then
          bif (!(decide ((gi (rd (gl s 1) (0 + r270.1.toNat)) 2) = (gi o 3)))) then
            some (3, (Zc s))
          else Option.bind (ZW (Zc s) (gl o 1) (gl o 2)) fun r283 =>
          bif (!r283.1) then
            some (4, (Zc r283.2))
          else some (0, (Zc r283.2))
        else Option.bind (ZW (Zc s) (gl o 1) (gl o 2)) fun r284 =>
        bif (!r284.1) then
          some (4, (Zc r284.2))
        else some (0, (Zc r284.2))
      else none
    else bif (decide ((gi o 0) = 2)) then
      bif (!(decide ((0 : Int) = (gi o 3)))) then
        some (3, (Zc s))
      else Option.bind (ZW (Zc s) (gl o 1) (gl o 2)) fun r285 =>
      bif (!r285.1) then
        some (4, (Zc r285.2))
      else some (0, (Zc r285.2))
    else Option.bind (ZW (Zc s) (gl o 1) (gl o 2)) fun r286 =>
    bif (!r286.1) then
      some (4, (Zc r286.2))
    else some (0, (Zc r286.2))
  else bif (decide ((gi o 0) = 3)) then
    bif (!r270.2) then
      some (1, (Zc s))
    else Option.bind (ZcW (Zc s) r270.1) fun r287 =>
    some (0, (Zc r287))
  else bif (decide ((gi o 0) = 4)) then
    bif (decide ((((gl s 4).length : Nat) : Int) = 8)) then
      some (4, (Zc s))
    else bif ((Zah (((gl s 4).length) + 1) 16) && true) then
      some (0, (V.agg [(V.int .i64 (gi s 0)), (V.inl Zg (gl s 1)), (V.inl Zf (gl s 2)), (V.int .i64 (gi s 3)), (V.inl Zd ((gl s 4) ++ [(V.agg [(V.int .i64 (gi s 0)), (V.bool (decide ((gi o 3) = 1)))])])), (V.inl Ze (gl s 5))]))
    else none
  else bif (decide ((gi o 0) = 5)) then
    Option.bind (ZeQ (Zc s) (gi o 3)) fun r292 =>
    some (r292.1, (Zc r292.2))
  else bif (decide ((gi o 0) = 6)) then
    Option.bind (Zan (Zc s) (gi o 3)) fun r293 =>
    bif (decide (r293 < 0)) then
      some (1, (Zc s))
    else bif r270.2 then
      bif (Zm r270.1 ((gl s 1).length)) then
        bif (!(decide ((gi (rd (gl s 1) (0 + r270.1.toNat)) 3) = 0))) then
          bif (Zm r270.1 ((gl s 1).length)) then
            bif (!(decide ((gi (rd (gl s 1) (0 + r270.1.toNat)) 3) = (gi o 3)))) then
              some (2, (Zc s))
            else Option.bind (ZW (Zc s) (gl o 1) (gl o 2)) fun r294 =>
            bif (!r294.1) then
              some (4, (Zc r294.2))
            else bif (Zm r270.1 ((gl r294.2 1).length)) then
              some (0, (V.agg [(V.int .i64 (gi r294.2 0)), (V.inl Zg ((gl r294.2 1).set (0 + r270.1.toNat) (V.agg [(V.inl Zb (gl (rd (gl r294.2 1) (0 + r270.1.toNat)) 0)), (V.inl Zb (gl (rd (gl r294.2 1) (0 + r270.1.toNat)) 1)), (V.int .i64 (gi (rd (gl r294.2 1) (0 + r270.1.toNat)) 2)), (V.int .i64 (gi o 3))]))), (V.inl Zf (gl r294.2 2)), (V.int .i64 (gi r294.2 3)), (V.inl Zd (gl r294.2 4)), (V.inl Ze (gl r294.2 5))]))
            else none
          else none
        else Option.bind (ZW (Zc s) (gl o 1) (gl o 2)) fun r295 =>
        bif (!r295.1) then
          some (4, (Zc r295.2))
        else bif (Zm r270.1 ((gl r295.2 1).length)) then
          some (0, (V.agg [(V.int .i64 (gi r295.2 0)), (V.inl Zg ((gl r295.2 1).set (0 + r270.1.toNat) (V.agg [(V.inl Zb (gl (rd (gl r295.2 1) (0 + r270.1.toNat)) 0)), (V.inl Zb (gl (rd (gl r295.2 1) (0 + r270.1.toNat)) 1)), (V.int .i64 (gi (rd (gl r295.2 1) (0 + r270.1.toNat)) 2)), (V.int .i64 (gi o 3))]))), (V.inl Zf (gl r295.2 2)), (V.int .i64 (gi r295.2 3)), (V.inl Zd (gl r295.2 4)), (V.inl Ze (gl r295.2 5))]))
        else none
      else none
    else Option.bind (ZW (Zc s) (gl o 1) (gl o 2)) fun r296 =>
    bif (!r296.1) then
      some (4, (Zc r296.2))
    else bif (Zm r270.1 ((gl r296.2 1).length)) then
      some (0, (V.agg [(V.int .i64 (gi r296.2 0)), (V.inl Zg ((gl r296.2 1).set (0 + r270.1.toNat) (V.agg [(V.inl Zb (gl (rd (gl r296.2 1) (0 + r270.1.toNat)) 0)), (V.inl Zb (gl (rd (gl r296.2 1) (0 + r270.1.toNat)) 1)), (V.int .i64 (gi (rd (gl r296.2 1) (0 + r270.1.toNat)) 2)), (V.int .i64 (gi o 3))]))), (V.inl Zf (gl r296.2 2)), (V.int .i64 (gi r296.2 3)), (V.inl Zd (gl r296.2 4)), (V.inl Ze (gl r296.2 5))]))
    else none
  else bif (decide ((gi o 0) = 7)) then
    bif (!r270.2) then
      some (1, (Zc s))
    else bif (Zm r270.1 ((gl s 1).length)) then
      bif (!(decide ((gi (rd (gl s 1) (0 + r270.1.toNat)) 3) = (gi o 3)))) then
        some (1, (Zc s))
      else bif (Zm r270.1 ((gl s 1).length)) then
        bif (Zm r270.1 (((gl s 1).set (0 + r270.1.toNat) (V.agg [(V.inl Zb (gl (rd (gl s 1) (0 + r270.1.toNat)) 0)), (V.inl Zb (gl (rd (gl s 1) (0 + r270.1.toNat)) 1)), (V.int .i64 (gi (rd (gl s 1) (0 + r270.1.toNat)) 2)), (V.int .i64 0)])).length)) then
          some (0, (V.agg [(V.int .i64 (gi s 0)), (V.inl Zg (((gl s 1).set (0 + r270.1.toNat) (V.agg [(V.inl Zb (gl (rd (gl s 1) (0 + r270.1.toNat)) 0)), (V.inl Zb (gl (rd (gl s 1) (0 + r270.1.toNat)) 1)), (V.int .i64 (gi (rd (gl s 1) (0 + r270.1.toNat)) 2)), (V.int .i64 0)])).set (0 + r270.1.toNat) (V.agg [(V.inl Zb (gl (rd ((gl s 1).set (0 + r270.1.toNat) (V.agg [(V.inl Zb (gl (rd (gl s 1) (0 + r270.1.toNat)) 0)), (V.inl Zb (gl (rd (gl s 1) (0 + r270.1.toNat)) 1)), (V.int .i64 (gi (rd (gl s 1) (0 + r270.1.toNat)) 2)), (V.int .i64 0)])) (0 + r270.1.toNat)) 0)), (V.inl Zb (gl (rd ((gl s 1).set (0 + r270.1.toNat) (V.agg [(V.inl Zb (gl (rd (gl s 1) (0 + r270.1.toNat)) 0)), (V.inl Zb (gl (rd (gl s 1) (0 + r270.1.toNat)) 1)), (V.int .i64 (gi (rd (gl s 1) (0 + r270.1.toNat)) 2)), (V.int .i64 0)])) (0 + r270.1.toNat)) 1)), (V.int .i64 (gi s 0)), (V.int .i64 (gi (rd ((gl s 1).set (0 + r270.1.toNat) (V.agg [(V.inl Zb (gl (rd (gl s 1) (0 + r270.1.toNat)) 0)), (V.inl Zb (gl (rd (gl s 1) (0 + r270.1.toNat)) 1)), (V.int .i64 (gi (rd (gl s 1) (0 + r270.1.toNat)) 2)), (V.int .i64 0)])) (0 + r270.1.toNat)) 3))]))), (V.inl Zf (gl s 2)), (V.int .i64 (gi s 3)), (V.inl Zd (gl s 4)), (V.inl Ze (gl s 5))]))
        else none
      else none
    else none
  else some (0, (Zc s))
def Zdc (s : V) (c : V) : Option (V × V) :=
  bif (decide ((gi c 0) < 0)) then
    some ((V.agg [(V.int .i64 0), (V.int .i64 (IntKind.i64.wrap ((gi s 0) + 1)))]), (V.agg [(V.int .i64 (IntKind.i64.wrap ((gi s 0) + 1))), (V.inl Zg (gl s 1)), (V.inl Zf (gl s 2)), (V.int .i64 (gi s 3)), (V.inl Zd (gl s 4)), (V.inl Ze (gl s 5))]))
  else Option.bind (Zcn (V.agg [(V.int .i64 (IntKind.i64.wrap ((gi s 0) + 1))), (V.inl Zg (gl s 1)), (V.inl Zf (gl s 2)), (V.int .i64 (gi s 3)), (V.inl Zd (gl s 4)), (V.inl Ze (gl s 5))]) (gi c 0)) fun r269 =>
  bif r269.2 then
    bif (Zm r269.1 ((gl s 5).length)) then
      bif (decide ((gi (rd (gl s 5) (0 + r269.1.toNat)) 1) = (gi c 1))) then
        bif (Zm r269.1 ((gl s 5).length)) then
          some ((V.agg [(V.int .i64 (gi (rd (gl s 5) (0 + r269.1.toNat)) 2)), (V.int .i64 (gi (rd (gl s 5) (0 + r269.1.toNat)) 3))]), (V.agg [(V.int .i64 (IntKind.i64.wrap ((gi s 0) + 1))), (V.inl Zg (gl s 1)), (V.inl Zf (gl s 2)), (V.int .i64 (gi s 3)), (V.inl Zd (gl s 4)), (V.inl Ze (gl s 5))]))
        else none
      else bif r269.2 then
        bif (Zm r269.1 ((gl s 5).length)) then
          bif (decide ((gi c 1) < (gi (rd (gl s 5) (0 + r269.1.toNat)) 1))) then
            some ((V.agg [(V.int .i64 5), (V.int .i64 (IntKind.i64.wrap ((gi s 0) + 1)))]), (V.agg [(V.int .i64 (IntKind.i64.wrap ((gi s 0) + 1))), (V.inl Zg (gl s 1)), (V.inl Zf (gl s 2)), (V.int .i64 (gi s 3)), (V.inl Zd (gl s 4)), (V.inl Ze (gl s 5))]))
          else Option.bind (Zb4 (V.agg [(V.int .i64 (IntKind.i64.wrap ((gi s 0) + 1))), (V.inl Zg (gl s 1)), (V.inl Zf (gl s 2)), (V.int .i64 (gi s 3)), (V.inl Zd (gl s 4)), (V.inl Ze (gl s 5))]) (V.agg [(V.int .i64 (gi c 2)), (V.inl Zb (gl c 3)), (V.inl Zb (gl c 4)), (V.int .i64 (gi c 5))])) fun r297 =>
          bif r269.2 then
            bif (Zm r269.1 ((gl r297.2 5).length)) then
              some ((V.agg [(V.int .i64 r297.1), (V.int .i64 (IntKind.i64.wrap ((gi s 0) + 1)))]), (V.agg [(V.int .i64 (gi r297.2 0)), (V.inl Zg (gl r297.2 1)), (V.inl Zf (gl r297.2 2)), (V.int .i64 (gi r297.2 3)), (V.inl Zd (gl r297.2 4)), (V.inl Ze ((gl r297.2 5).set (0 + r269.1.toNat) (V.agg [(V.int .i64 (gi c 0)), (V.int .i64 (gi c 1)), (V.int .i64 r297.1), (V.int .i64 (IntKind.i64.wrap ((gi s 0) + 1)))])))]))
            else none
          else Option.bind (ZcT 32 (gl r297.2 5) r269.1 [(V.agg [(V.int .i64 (gi c 0)), (V.int .i64 (gi c 1)), (V.int .i64 r297.1), (V.int .i64 (IntKind.i64.wrap ((gi s 0) + 1)))])]) fun r298 =>
          some ((V.agg [(V.int .i64 r297.1), (V.int .i64 (IntKind.i64.wrap ((gi s 0) + 1)))]), (V.agg [(V.int .i64 (gi r297.2 0)), (V.inl Zg (gl r297.2 1)), (V.inl Zf (gl r297.2 2)), (V.int .i64 (gi r297.2 3)), (V.inl Zd (gl r297.2 4)), (V.inl Ze r298)]))
        else none
      else Option.bind (Zb4 (V.agg [(V.int .i64 (IntKind.i64.wrap ((gi s 0) + 1))), (V.inl Zg (gl s 1)), (V.inl Zf (gl s 2)), (V.int .i64 (gi s 3)), (V.inl Zd (gl s 4)), (V.inl Ze (gl s 5))]) (V.agg [(V.int .i64 (gi c 2)), (V.inl Zb (gl c 3)), (V.inl Zb (gl c 4)), (V.int .i64 (gi c 5))])) fun r299 =>
      bif r269.2 then
        bif (Zm r269.1 ((gl r299.2 5).length)) then
          some ((V.agg [(V.int .i64 r299.1), (V.int .i64 (IntKind.i64.wrap ((gi s 0) + 1)))]), (V.agg [(V.int .i64 (gi r299.2 0)), (V.inl Zg (gl r299.2 1)), (V.inl Zf (gl r299.2 2)), (V.int .i64 (gi r299.2 3)), (V.inl Zd (gl r299.2 4)), (V.inl Ze ((gl r299.2 5).set (0 + r269.1.toNat) (V.agg [(V.int .i64 (gi c 0)), (V.int .i64 (gi c 1)), (V.int .i64 r299.1), (V.int .i64 (IntKind.i64.wrap ((gi s 0) + 1)))])))]))
        else none
      else Option.bind (ZcT 32 (gl r299.2 5) r269.1 [(V.agg [(V.int .i64 (gi c 0)), (V.int .i64 (gi c 1)), (V.int .i64 r299.1), (V.int .i64 (IntKind.i64.wrap ((gi s 0) + 1)))])]) fun r300 =>
      some ((V.agg [(V.int .i64 r299.1), (V.int .i64 (IntKind.i64.wrap ((gi s 0) + 1)))]), (V.agg [(V.int .i64 (gi r299.2 0)), (V.inl Zg (gl r299.2 1)), (V.inl Zf (gl r299.2 2)), (V.int .i64 (gi r299.2 3)), (V.inl Zd (gl r299.2 4)), (V.inl Ze r300)]))
    else none
  else bif r269.2 then
    bif (Zm r269.1 ((gl s 5).length)) then
      bif (decide ((gi c 1) < (gi (rd (gl s 5) (0 + r269.1.toNat)) 1))) then
        some ((V.agg [(V.int .i64 5), (V.int .i64 (IntKind.i64.wrap ((gi s 0) + 1)))]), (V.agg [(V.int .i64 (IntKind.i64.wrap ((gi s 0) + 1))), (V.inl Zg (gl s 1)), (V.inl Zf (gl s 2)), (V.int .i64 (gi s 3)), (V.inl Zd (gl s 4)), (V.inl Ze (gl s 5))]))
      else Option.bind (Zb4 (V.agg [(V.int .i64 (IntKind.i64.wrap ((gi s 0) + 1))), (V.inl Zg (gl s 1)), (V.inl Zf (gl s 2)), (V.int .i64 (gi s 3)), (V.inl Zd (gl s 4)), (V.inl Ze (gl s 5))]) (V.agg [(V.int .i64 (gi c 2)), (V.inl Zb (gl c 3)), (V.inl Zb (gl c 4)), (V.int .i64 (gi c 5))])) fun r301 =>
      bif r269.2 then
        bif (Zm r269.1 ((gl r301.2 5).length)) then
          some ((V.agg [(V.int .i64 r301.1), (V.int .i64 (IntKind.i64.wrap ((gi s 0) + 1)))]), (V.agg [(V.int .i64 (gi r301.2 0)), (V.inl Zg (gl r301.2 1)), (V.inl Zf (gl r301.2 2)), (V.int .i64 (gi r301.2 3)), (V.inl Zd (gl r301.2 4)), (V.inl Ze ((gl r301.2 5).set (0 + r269.1.toNat) (V.agg [(V.int .i64 (gi c 0)), (V.int .i64 (gi c 1)), (V.int .i64 r301.1), (V.int .i64 (IntKind.i64.wrap ((gi s 0) + 1)))])))]))
        else none
      else Option.bind (ZcT 32 (gl r301.2 5) r269.1 [(V.agg [(V.int .i64 (gi c 0)), (V.int .i64 (gi c 1)), (V.int .i64 r301.1), (V.int .i64 (IntKind.i64.wrap ((gi s 0) + 1)))])]) fun r302 =>
      some ((V.agg [(V.int .i64 r301.1), (V.int .i64 (IntKind.i64.wrap ((gi s 0) + 1)))]), (V.agg [(V.int .i64 (gi r301.2 0)), (V.inl Zg (gl r301.2 1)), (V.inl Zf (gl r301.2 2)), (V.int .i64 (gi r301.2 3)), (V.inl Zd (gl r301.2 4)), (V.inl Ze r302)]))
    else none
  else Option.bind (Zb4 (V.agg [(V.int .i64 (IntKind.i64.wrap ((gi s 0) + 1))), (V.inl Zg (gl s 1)), (V.inl Zf (gl s 2)), (V.int .i64 (gi s 3)), (V.inl Zd (gl s 4)), (V.inl Ze (gl s 5))]) (V.agg [(V.int .i64 (gi c 2)), (V.inl Zb (gl c 3)), (V.inl Zb (gl c 4)), (V.int .i64 (gi c 5))])) fun r303 =>
  bif r269.2 then
    bif (Zm r269.1 ((gl r303.2 5).length)) then
      some ((V.agg [(V.int .i64 r303.1), (V.int .i64 (IntKind.i64.wrap ((gi s 0) + 1)))]), (V.agg [(V.int .i64 (gi r303.2 0)), (V.inl Zg (gl r303.2 1)), (V.inl Zf (gl r303.2 2)), (V.int .i64 (gi r303.2 3)), (V.inl Zd (gl r303.2 4)), (V.inl Ze ((gl r303.2 5).set (0 + r269.1.toNat) (V.agg [(V.int .i64 (gi c 0)), (V.int .i64 (gi c 1)), (V.int .i64 r303.1), (V.int .i64 (IntKind.i64.wrap ((gi s 0) + 1)))])))]))
    else none
  else Option.bind (ZcT 32 (gl r303.2 5) r269.1 [(V.agg [(V.int .i64 (gi c 0)), (V.int .i64 (gi c 1)), (V.int .i64 r303.1), (V.int .i64 (IntKind.i64.wrap ((gi s 0) + 1)))])]) fun r304 =>
  some ((V.agg [(V.int .i64 r303.1), (V.int .i64 (IntKind.i64.wrap ((gi s 0) + 1)))]), (V.agg [(V.int .i64 (gi r303.2 0)), (V.inl Zg (gl r303.2 1)), (V.inl Zf (gl r303.2 2)), (V.int .i64 (gi r303.2 3)), (V.inl Zd (gl r303.2 4)), (V.inl Ze r304)]))
def Zaf : Nat → List V → Int → Int → V → V → List V → List V → List V → List V → List V → List V → List V → List V → List V → Option (V × V × List V × List V × List V × List V × List V × List V × List V × List V × List V)
  | 0, _, _, _, _, _, _, _, _, _, _, _, _, _, _ => none
  | k_ + 1, v12, v13, v14, b0, b1, r2, r3, r4, r5, r6, r7, r8, r9, r10 =>
    bif (decide (v14 < v13)) then
      bif (Zm v14 v12.length) then
        Option.bind (ZcU (V.agg [(V.int .i64 (gi (rd v12 v14.toNat) 1)), (V.int .i64 (gi (rd v12 v14.toNat) 2)), (V.int .i64 (gi (rd v12 v14.toNat) 3)), (V.inl Zb (gl (rd v12 v14.toNat) 4)), (V.inl Zb (gl (rd v12 v14.toNat) 5)), (V.int .i64 (gi (rd v12 v14.toNat) 6))])) fun r268 =>
        bif (!r268) then
          some ((V.agg [(V.int .i64 (gi b0 0)), (V.sl 3 Zg 0 none), (V.sl 4 Zf 0 none), (V.int .i64 (gi b0 3)), (V.sl 5 Zd 0 none), (V.sl 6 Ze 0 none)]), (V.agg [(V.int .i64 (gi b1 0)), (V.sl 7 Zg 0 none), (V.sl 8 Zf 0 none), (V.int .i64 (gi b1 3)), (V.sl 9 Zd 0 none), (V.sl 10 Ze 0 none)]), r2, r3, r4, r5, r6, r7, r8, r9, r10)
        else Option.bind (Zdc (V.agg [(V.int .i64 (gi b1 0)), (V.inl Zg r7), (V.inl Zf r8), (V.int .i64 (gi b1 3)), (V.inl Zd r9), (V.inl Ze r10)]) (V.agg [(V.int .i64 (gi (rd v12 v14.toNat) 1)), (V.int .i64 (gi (rd v12 v14.toNat) 2)), (V.int .i64 (gi (rd v12 v14.toNat) 3)), (V.inl Zb (gl (rd v12 v14.toNat) 4)), (V.inl Zb (gl (rd v12 v14.toNat) 5)), (V.int .i64 (gi (rd v12 v14.toNat) 6))])) fun r305 =>
        bif ((Zah (r2.length + 1) 16) && true) then
          Zaf k_ v12 v13 (IntKind.i64.wrap (v14 + 1)) (V.agg [(V.int .i64 (gi b0 0)), (V.sl 3 Zg 0 none), (V.sl 4 Zf 0 none), (V.int .i64 (gi b0 3)), (V.sl 5 Zd 0 none), (V.sl 6 Ze 0 none)]) (V.agg [(V.int .i64 (gi r305.2 0)), (V.sl 7 Zg 0 none), (V.sl 8 Zf 0 none), (V.int .i64 (gi r305.2 3)), (V.sl 9 Zd 0 none), (V.sl 10 Ze 0 none)]) (r2 ++ [(Zdr r305.1)]) r3 r4 r5 r6 (gl r305.2 1) (gl r305.2 2) (gl r305.2 4) (gl r305.2 5)
        else none
      else none
    else some ((V.agg [(V.int .i64 (gi b0 0)), (V.sl 3 Zg 0 none), (V.sl 4 Zf 0 none), (V.int .i64 (gi b0 3)), (V.sl 5 Zd 0 none), (V.sl 6 Ze 0 none)]), (V.agg [(V.int .i64 (gi b1 0)), (V.sl 7 Zg 0 none), (V.sl 8 Zf 0 none), (V.int .i64 (gi b1 3)), (V.sl 9 Zd 0 none), (V.sl 10 Ze 0 none)]), r2, r3, r4, r5, r6, r7, r8, r9, r10)
def Zcy (l : List V) : Option (V × List V) :=
  bif (decide ((400 : Int) < ((l.length : Nat) : Int))) then
    some ((V.agg [(V.int .i64 0), (V.inl Zg []), (V.inl Zf []), (V.int .i64 0), (V.inl Zd []), (V.inl Ze [])]), [])
  else Option.bind (Zaf ((((l.length : Nat) : Int) - 0).toNat + 1) l ((l.length : Nat) : Int) 0 (V.agg [(V.int .i64 0), (V.sl 3 Zg 0 none), (V.sl 4 Zf 0 none), (V.int .i64 0), (V.sl 5 Zd 0 none), (V.sl 6 Ze 0 none)]) (V.agg [(V.int .i64 0), (V.sl 7 Zg 0 none), (V.sl 8 Zf 0 none), (V.int .i64 0), (V.sl 9 Zd 0 none), (V.sl 10 Ze 0 none)]) [] [] [] [] [] [] [] [] []) fun r306 =>
  some ((V.agg [(V.int .i64 (gi r306.2.1 0)), (V.inl Zg r306.2.2.2.2.2.2.2.1), (V.inl Zf r306.2.2.2.2.2.2.2.2.1), (V.int .i64 (gi r306.2.1 3)), (V.inl Zd r306.2.2.2.2.2.2.2.2.2.1), (V.inl Ze r306.2.2.2.2.2.2.2.2.2.2)]), r306.2.2.1)
def Zao : Nat → List V → Int → Int → V → Option (Nat × Bool × V)
  | 0, _, _, _, _ => none
  | k_ + 1, v51, v52, v53, b0 =>
    bif (decide (v53 < v52)) then
      bif (Zm v53 v51.length) then
        Option.bind (Zbz (gl (rd v51 v53.toNat) 0)) fun r310 =>
        bif (!r310) then
          some (0, false, (Zc b0))
        else bif (!(Zb2 (gl (rd v51 v53.toNat) 1))) then
          some (0, false, (Zc b0))
        else bif (!(ZC (gi (rd v51 v53.toNat) 2) 1 (gi b0 0))) then
          some (0, false, (Zc b0))
        else bif (!(decide ((gi (rd v51 v53.toNat) 3) = 0))) then
          Option.bind (Zan (Zc b0) (gi (rd v51 v53.toNat) 3)) fun r311 =>
          bif (decide (r311 < 0)) then
            some (0, false, (Zc b0))
          else bif (decide ((0 : Int) < v53)) then
            bif (Zm (IntKind.i64.wrap (v53 - 1)) ((gl b0 1).length)) then
              bif (decide ((0 : Int) ≤ (Zft (gl (rd (gl b0 1) ((IntKind.i64.wrap (v53 - 1)).toNat)) 0) (gl (rd v51 v53.toNat) 0)))) then
                some (0, false, (Zc b0))
              else Zao k_ v51 v52 (IntKind.i64.wrap (v53 + 1)) (Zc b0)
            else none
          else Zao k_ v51 v52 (IntKind.i64.wrap (v53 + 1)) (Zc b0)
        else bif (decide ((0 : Int) < v53)) then
          bif (Zm (IntKind.i64.wrap (v53 - 1)) ((gl b0 1).length)) then
            bif (decide ((0 : Int) ≤ (Zft (gl (rd (gl b0 1) ((IntKind.i64.wrap (v53 - 1)).toNat)) 0) (gl (rd v51 v53.toNat) 0)))) then
              some (0, false, (Zc b0))
            else Zao k_ v51 v52 (IntKind.i64.wrap (v53 + 1)) (Zc b0)
          else none
        else Zao k_ v51 v52 (IntKind.i64.wrap (v53 + 1)) (Zc b0)
      else none
    else some (1, false, (Zc b0))
def ZaF : Nat → Int → List V → Int → Int → V → Option (Nat × Bool × V)
  | 0, _, _, _, _, _ => none
  | k_ + 1, before5, v110, v111, v112, b0 =>
    bif (decide (v112 < v111)) then
      bif (Zm v112 v110.length) then
        Option.bind (Za0 (Zc b0) (gl (rd v110 v112.toNat) 0)) fun r313 =>
        bif r313.2 then
          some (0, false, (Zc b0))
        else Option.bind (Zbz (gl (rd v110 v112.toNat) 0)) fun r314 =>
        bif (!r314) then
          some (0, false, (Zc b0))
        else Option.bind (Zbf (Zc b0) (gl (rd v110 v112.toNat) 0)) fun r315 =>
        bif (!(decide (r315 = v112))) then
          some (0, false, (Zc b0))
        else bif (!(ZC (gi (rd v110 v112.toNat) 1) before5 (gi b0 0))) then
          some (0, false, (Zc b0))
        else ZaF k_ (gi (rd v110 v112.toNat) 1) v110 v111 (IntKind.i64.wrap (v112 + 1)) (Zc b0)
      else none
    else some (1, false, (Zc b0))
def ZaG : Nat → List V → Int → Int → V → Option (Nat × Bool × V)
  | 0, _, _, _, _ => none
  | k_ + 1, v152, v153, v154, b0 =>
    bif (decide (v154 < v153)) then
      bif (Zm v154 v152.length) then
        bif (!(ZC (gi (rd v152 v154.toNat) 0) 1 (gi b0 0))) then
          some (0, false, (Zc b0))
        else bif (decide ((0 : Int) < v154)) then
          bif (Zm (IntKind.i64.wrap (v154 - 1)) ((gl b0 4).length)) then
            bif (decide ((gi (rd v152 v154.toNat) 0) ≤ (gi (rd (gl b0 4) ((IntKind.i64.wrap (v154 - 1)).toNat)) 0))) then
              some (0, false, (Zc b0))
            else ZaG k_ v152 v153 (IntKind.i64.wrap (v154 + 1)) (Zc b0)
          else none
        else ZaG k_ v152 v153 (IntKind.i64.wrap (v154 + 1)) (Zc b0)
      else none
    else some (1, false, (Zc b0))
def ZaH : Nat → List V → Int → Int → V → Option (Nat × Bool)
  | 0, _, _, _, _ => none
  | k_ + 1, v183, v184, v185, b0 =>
    bif (decide (v185 < v184)) then
      bif (Zm v185 v183.length) then
        bif (!(ZC (gi (rd v183 v185.toNat) 0) 0 3)) then
          some (0, false)
        else bif (!(ZC (gi (rd v183 v185.toNat) 1) 1 1000000)) then
          some (0, false)
        else bif (!(ZC (gi (rd v183 v185.toNat) 2) 0 5)) then
          some (0, false)
        else bif (!(ZC (gi (rd v183 v185.toNat) 3) 1 (gi b0 0))) then
          some (0, false)
        else bif (decide ((0 : Int) < v185)) then
          bif (Zm (IntKind.i64.wrap (v185 - 1)) ((gl b0 5).length)) then
            bif (decide ((gi (rd v183 v185.toNat) 0) ≤ (gi (rd (gl b0 5) ((IntKind.i64.wrap (v185 - 1)).toNat)) 0))) then
              some (0, false)
            else ZaH k_ v183 v184 (IntKind.i64.wrap (v185 + 1)) (Zc b0)
          else none
        else ZaH k_ v183 v184 (IntKind.i64.wrap (v185 + 1)) (Zc b0)
      else none
    else some (1, false)
def Zds (s : V) : Option (Bool) :=
  bif (!(ZC (gi s 0) 0 1000000)) then
    some false
  else bif (!(ZC (gi s 3) 0 (gi s 0))) then
    some false
  else bif (decide ((20 : Int) < (((gl s 1).length : Nat) : Int))) then
    some false
  else bif (decide ((10 : Int) < (((gl s 2).length : Nat) : Int))) then
    some false
  else bif (decide ((8 : Int) < (((gl s 4).length : Nat) : Int))) then
    some false
  else bif (decide ((4 : Int) < (((gl s 5).length : Nat) : Int))) then
    some false
  else Option.bind (Zao (((((gl s 1).length : Nat) : Int) - 0).toNat + 1) (gl s 1) (((gl s 1).length : Nat) : Int) 0 (Zc s)) fun r312 =>
  bif (Nat.beq r312.1 0) then
    some r312.2.1
  else Option.bind (ZaF (((((gl r312.2.2 2).length : Nat) : Int) - 0).toNat + 1) (mxI 1 (gi r312.2.2 3)) (gl r312.2.2 2) (((gl r312.2.2 2).length : Nat) : Int) 0 (Zc r312.2.2)) fun r316 =>
  bif (Nat.beq r316.1 0) then
    some r316.2.1
  else Option.bind (ZaG (((((gl r316.2.2 4).length : Nat) : Int) - 0).toNat + 1) (gl r316.2.2 4) (((gl r316.2.2 4).length : Nat) : Int) 0 (Zc r316.2.2)) fun r317 =>
  bif (Nat.beq r317.1 0) then
    some r317.2.1
  else Option.bind (ZaH (((((gl r317.2.2 5).length : Nat) : Int) - 0).toNat + 1) (gl r317.2.2 5) (((gl r317.2.2 5).length : Nat) : Int) 0 (Zc r317.2.2)) fun r318 =>
  bif (Nat.beq r318.1 0) then
    some r318.2
  else some true
def Zh2 (code : List V) (i : Int) : Option (Int) :=
  bif (decide (((code.length : Nat) : Int) = 0)) then
    some 0
  else bif (!(decide (((code.length : Nat) : Int) = 0))) then
    bif (Zm (i.tmod ((code.length : Nat) : Int)) code.length) then
      some (IntKind.i64.wrap (gi (rd code ((i.tmod ((code.length : Nat) : Int)).toNat)) 0))
    else none
  else none
def Zb5 (s : List V) : Option (List V) :=
  bif ((Zah (0 + s.length) 64) && true) then
    some s
  else none
def ZbK (s : List V) : Option (List V) :=
  bif ((Zah (0 + s.length) 32) && true) then
    some s
  else none
def Zbg (s : List V) : Option (List V) :=
  bif ((Zah (0 + s.length) 16) && true) then
    some s
  else none
def ZbL (s : List V) : Option (List V) :=
  bif ((Zah (0 + s.length) 32) && true) then
    some s
  else none
def ZaN : Nat → Int → Int → V → V → List V → List V → List V → List V → List V → List V → List V → List V → Option (V × V × List V × List V × List V × List V × List V × List V × List V × List V)
  | 0, _, _, _, _, _, _, _, _, _, _, _, _ => none
  | k_ + 1, v25, v26, b0, b1, r2, r3, r4, r5, r6, r7, r8, r9 =>
    bif (decide (v26 < v25)) then
      bif (Zm v26 r2.length) then
        Option.bind (ZF (gl (rd r2 (0 + v26.toNat)) 0)) fun r333 =>
        Option.bind (ZF (gl (rd r2 (0 + v26.toNat)) 1)) fun r334 =>
        bif (Zm v26 r2.length) then
          bif (Zm v26 ((r2.set (0 + v26.toNat) (V.agg [(V.inl Zb r333), (V.inl Zb (gl (rd r2 (0 + v26.toNat)) 1)), (V.int .i64 (gi (rd r2 (0 + v26.toNat)) 2)), (V.int .i64 (gi (rd r2 (0 + v26.toNat)) 3))])).length)) then
            ZaN k_ v25 (IntKind.i64.wrap (v26 + 1)) (V.agg [(V.int .i64 (gi b0 0)), (V.sl 2 Zg 0 none), (V.sl 3 Zf 0 none), (V.int .i64 (gi b0 3)), (V.sl 4 Zd 0 none), (V.sl 5 Ze 0 none)]) (V.agg [(V.int .i64 (gi b1 0)), (V.sl 6 Zg 0 none), (V.sl 7 Zf 0 none), (V.int .i64 (gi b1 3)), (V.sl 8 Zd 0 none), (V.sl 9 Ze 0 none)]) ((r2.set (0 + v26.toNat) (V.agg [(V.inl Zb r333), (V.inl Zb (gl (rd r2 (0 + v26.toNat)) 1)), (V.int .i64 (gi (rd r2 (0 + v26.toNat)) 2)), (V.int .i64 (gi (rd r2 (0 + v26.toNat)) 3))])).set (0 + v26.toNat) (V.agg [(V.inl Zb (gl (rd (r2.set (0 + v26.toNat) (V.agg [(V.inl Zb r333), (V.inl Zb (gl (rd r2 (0 + v26.toNat)) 1)), (V.int .i64 (gi (rd r2 (0 + v26.toNat)) 2)), (V.int .i64 (gi (rd r2 (0 + v26.toNat)) 3))])) (0 + v26.toNat)) 0)), (V.inl Zb r334), (V.int .i64 (gi (rd (r2.set (0 + v26.toNat) (V.agg [(V.inl Zb r333), (V.inl Zb (gl (rd r2 (0 + v26.toNat)) 1)), (V.int .i64 (gi (rd r2 (0 + v26.toNat)) 2)), (V.int .i64 (gi (rd r2 (0 + v26.toNat)) 3))])) (0 + v26.toNat)) 2)), (V.int .i64 (gi (rd (r2.set (0 + v26.toNat) (V.agg [(V.inl Zb r333), (V.inl Zb (gl (rd r2 (0 + v26.toNat)) 1)), (V.int .i64 (gi (rd r2 (0 + v26.toNat)) 2)), (V.int .i64 (gi (rd r2 (0 + v26.toNat)) 3))])) (0 + v26.toNat)) 3))])) r3 r4 r5 r6 r7 r8 r9
          else none
        else none
      else none
    else some ((V.agg [(V.int .i64 (gi b0 0)), (V.sl 2 Zg 0 none), (V.sl 3 Zf 0 none), (V.int .i64 (gi b0 3)), (V.sl 4 Zd 0 none), (V.sl 5 Ze 0 none)]), (V.agg [(V.int .i64 (gi b1 0)), (V.sl 6 Zg 0 none), (V.sl 7 Zf 0 none), (V.int .i64 (gi b1 3)), (V.sl 8 Zd 0 none), (V.sl 9 Ze 0 none)]), r2, r3, r4, r5, r6, r7, r8, r9)
def ZaO : Nat → Int → Int → V → V → List V → List V → List V → List V → List V → List V → List V → List V → Option (V × V × List V × List V × List V × List V × List V × List V × List V × List V)
  | 0, _, _, _, _, _, _, _, _, _, _, _, _ => none
  | k_ + 1, v50, v51, b0, b1, r2, r3, r4, r5, r6, r7, r8, r9 =>
    bif (decide (v51 < v50)) then
      bif (Zm v51 r2.length) then
        Option.bind (ZF (gl (rd r2 (0 + v51.toNat)) 0)) fun r336 =>
        bif (Zm v51 r2.length) then
          ZaO k_ v50 (IntKind.i64.wrap (v51 + 1)) (V.agg [(V.int .i64 (gi b0 0)), (V.sl 3 Zg 0 none), (V.sl 2 Zf 0 none), (V.int .i64 (gi b0 3)), (V.sl 4 Zd 0 none), (V.sl 5 Ze 0 none)]) (V.agg [(V.int .i64 (gi b1 0)), (V.sl 6 Zg 0 none), (V.sl 7 Zf 0 none), (V.int .i64 (gi b1 3)), (V.sl 8 Zd 0 none), (V.sl 9 Ze 0 none)]) (r2.set (0 + v51.toNat) (V.agg [(V.inl Zb r336), (V.int .i64 (gi (rd r2 (0 + v51.toNat)) 1))])) r3 r4 r5 r6 r7 r8 r9
        else none
      else none
    else some ((V.agg [(V.int .i64 (gi b0 0)), (V.sl 2 Zg 0 none), (V.sl 3 Zf 0 none), (V.int .i64 (gi b0 3)), (V.sl 4 Zd 0 none), (V.sl 5 Ze 0 none)]), (V.agg [(V.int .i64 (gi b1 0)), (V.sl 6 Zg 0 none), (V.sl 7 Zf 0 none), (V.int .i64 (gi b1 3)), (V.sl 8 Zd 0 none), (V.sl 9 Ze 0 none)]), r3, r2, r4, r5, r6, r7, r8, r9)
def ZbV (s : V) : Option (V) :=
  Option.bind (Zb5 (gl s 1)) fun r329 =>
  Option.bind (ZbK (gl s 2)) fun r330 =>
  Option.bind (Zbg (gl s 4)) fun r331 =>
  Option.bind (ZbL (gl s 5)) fun r332 =>
  Option.bind (ZaN ((((r329.length : Nat) : Int) - 0).toNat + 1) ((r329.length : Nat) : Int) 0 (V.agg [(V.int .i64 (gi s 0)), (V.sl 2 Zg 0 none), (V.sl 3 Zf 0 none), (V.int .i64 (gi s 3)), (V.sl 4 Zd 0 none), (V.sl 5 Ze 0 none)]) (V.agg [(V.int .i64 0), (V.sl 6 Zg 0 none), (V.sl 7 Zf 0 none), (V.int .i64 0), (V.sl 8 Zd 0 none), (V.sl 9 Ze 0 none)]) r329 r330 r331 r332 [] [] [] []) fun r335 =>
  Option.bind (ZaO ((((r335.2.2.2.1.length : Nat) : Int) - 0).toNat + 1) ((r335.2.2.2.1.length : Nat) : Int) 0 (V.agg [(V.int .i64 (gi r335.1 0)), (V.sl 3 Zg 0 none), (V.sl 2 Zf 0 none), (V.int .i64 (gi r335.1 3)), (V.sl 4 Zd 0 none), (V.sl 5 Ze 0 none)]) (V.agg [(V.int .i64 (gi r335.2.1 0)), (V.sl 6 Zg 0 none), (V.sl 7 Zf 0 none), (V.int .i64 (gi r335.2.1 3)), (V.sl 8 Zd 0 none), (V.sl 9 Ze 0 none)]) r335.2.2.2.1 r335.2.2.1 r335.2.2.2.2.1 r335.2.2.2.2.2.1 r335.2.2.2.2.2.2.1 r335.2.2.2.2.2.2.2.1 r335.2.2.2.2.2.2.2.2.1 r335.2.2.2.2.2.2.2.2.2) fun r337 =>
  some (V.agg [(V.int .i64 (gi r337.1 0)), (V.inl Zg r337.2.2.1), (V.inl Zf r337.2.2.2.1), (V.int .i64 (gi r337.1 3)), (V.inl Zd r337.2.2.2.2.1), (V.inl Ze r337.2.2.2.2.2.1)])
def ZR (s : V) (key : List V) (val : List V) : Option (Bool × V) :=
  Option.bind (Za0 (Zc s) key) fun r341 =>
  bif (!r341.2) then
    bif (decide ((((gl s 1).length : Nat) : Int) = 20)) then
      some (false, (Zc s))
    else Option.bind (ZF key) fun r342 =>
    Option.bind (ZcT 64 (gl s 1) r341.1 [(V.agg [(V.inl Zb r342), (V.inl Zb []), (V.int .i64 0), (V.int .i64 0)])]) fun r343 =>
    Option.bind (Zbf (V.agg [(V.int .i64 (gi s 0)), (V.inl Zg r343), (V.inl Zf (gl s 2)), (V.int .i64 (gi s 3)), (V.inl Zd (gl s 4)), (V.inl Ze (gl s 5))]) key) fun r344 =>
    bif (decide ((0 : Int) ≤ r344)) then
      Option.bind (Zdq (gl s 2) r344 (IntKind.i64.wrap (r344 + 1))) fun r345 =>
      Option.bind (ZF val) fun r346 =>
      bif (Zm r341.1 r343.length) then
        bif (Zm r341.1 ((r343.set (0 + r341.1.toNat) (V.agg [(V.inl Zb (gl (rd r343 (0 + r341.1.toNat)) 0)), (V.inl Zb r346), (V.int .i64 (gi (rd r343 (0 + r341.1.toNat)) 2)), (V.int .i64 (gi (rd r343 (0 + r341.1.toNat)) 3))])).length)) then
          some (true, (V.agg [(V.int .i64 (gi s 0)), (V.inl Zg ((r343.set (0 + r341.1.toNat) (V.agg [(V.inl Zb (gl (rd r343 (0 + r341.1.toNat)) 0)), (V.inl Zb r346), (V.int .i64 (gi (rd r343 (0 + r341.1.toNat)) 2)), (V.int .i64 (gi (rd r343 (0 + r341.1.toNat)) 3))])).set (0 + r341.1.toNat) (V.agg [(V.inl Zb (gl (rd (r343.set (0 + r341.1.toNat) (V.agg [(V.inl Zb (gl (rd r343 (0 + r341.1.toNat)) 0)), (V.inl Zb r346), (V.int .i64 (gi (rd r343 (0 + r341.1.toNat)) 2)), (V.int .i64 (gi (rd r343 (0 + r341.1.toNat)) 3))])) (0 + r341.1.toNat)) 0)), (V.inl Zb (gl (rd (r343.set (0 + r341.1.toNat) (V.agg [(V.inl Zb (gl (rd r343 (0 + r341.1.toNat)) 0)), (V.inl Zb r346), (V.int .i64 (gi (rd r343 (0 + r341.1.toNat)) 2)), (V.int .i64 (gi (rd r343 (0 + r341.1.toNat)) 3))])) (0 + r341.1.toNat)) 1)), (V.int .i64 (gi s 0)), (V.int .i64 (gi (rd (r343.set (0 + r341.1.toNat) (V.agg [(V.inl Zb (gl (rd r343 (0 + r341.1.toNat)) 0)), (V.inl Zb r346), (V.int .i64 (gi (rd r343 (0 + r341.1.toNat)) 2)), (V.int .i64 (gi (rd r343 (0 + r341.1.toNat)) 3))])) (0 + r341.1.toNat)) 3))]))), (V.inl Zf r345), (V.int .i64 (gi s 3)), (V.inl Zd (gl s 4)), (V.inl Ze (gl s 5))]))
        else none
      else none
    else Option.bind (ZF val) fun r347 =>
    bif (Zm r341.1 r343.length) then
      bif (Zm r341.1 ((r343.set (0 + r341.1.toNat) (V.agg [(V.inl Zb (gl (rd r343 (0 + r341.1.toNat)) 0)), (V.inl Zb r347), (V.int .i64 (gi (rd r343 (0 + r341.1.toNat)) 2)), (V.int .i64 (gi (rd r343 (0 + r341.1.toNat)) 3))])).length)) then
        some (true, (V.agg [(V.int .i64 (gi s 0)), (V.inl Zg ((r343.set (0 + r341.1.toNat) (V.agg [(V.inl Zb (gl (rd r343 (0 + r341.1.toNat)) 0)), (V.inl Zb r347), (V.int .i64 (gi (rd r343 (0 + r341.1.toNat)) 2)), (V.int .i64 (gi (rd r343 (0 + r341.1.toNat)) 3))])).set (0 + r341.1.toNat) (V.agg [(V.inl Zb (gl (rd (r343.set (0 + r341.1.toNat) (V.agg [(V.inl Zb (gl (rd r343 (0 + r341.1.toNat)) 0)), (V.inl Zb r347), (V.int .i64 (gi (rd r343 (0 + r341.1.toNat)) 2)), (V.int .i64 (gi (rd r343 (0 + r341.1.toNat)) 3))])) (0 + r341.1.toNat)) 0)), (V.inl Zb (gl (rd (r343.set (0 + r341.1.toNat) (V.agg [(V.inl Zb (gl (rd r343 (0 + r341.1.toNat)) 0)), (V.inl Zb r347), (V.int .i64 (gi (rd r343 (0 + r341.1.toNat)) 2)), (V.int .i64 (gi (rd r343 (0 + r341.1.toNat)) 3))])) (0 + r341.1.toNat)) 1)), (V.int .i64 (gi s 0)), (V.int .i64 (gi (rd (r343.set (0 + r341.1.toNat) (V.agg [(V.inl Zb (gl (rd r343 (0 + r341.1.toNat)) 0)), (V.inl Zb r347), (V.int .i64 (gi (rd r343 (0 + r341.1.toNat)) 2)), (V.int .i64 (gi (rd r343 (0 + r341.1.toNat)) 3))])) (0 + r341.1.toNat)) 3))]))), (V.inl Zf (gl s 2)), (V.int .i64 (gi s 3)), (V.inl Zd (gl s 4)), (V.inl Ze (gl s 5))]))
      else none
    else none
  else Option.bind (ZF val) fun r348 =>
  bif (Zm r341.1 ((gl s 1).length)) then
    bif (Zm r341.1 (((gl s 1).set (0 + r341.1.toNat) (V.agg [(V.inl Zb (gl (rd (gl s 1) (0 + r341.1.toNat)) 0)), (V.inl Zb r348), (V.int .i64 (gi (rd (gl s 1) (0 + r341.1.toNat)) 2)), (V.int .i64 (gi (rd (gl s 1) (0 + r341.1.toNat)) 3))])).length)) then
      some (true, (V.agg [(V.int .i64 (gi s 0)), (V.inl Zg (((gl s 1).set (0 + r341.1.toNat) (V.agg [(V.inl Zb (gl (rd (gl s 1) (0 + r341.1.toNat)) 0)), (V.inl Zb r348), (V.int .i64 (gi (rd (gl s 1) (0 + r341.1.toNat)) 2)), (V.int .i64 (gi (rd (gl s 1) (0 + r341.1.toNat)) 3))])).set (0 + r341.1.toNat) (V.agg [(V.inl Zb (gl (rd ((gl s 1).set (0 + r341.1.toNat) (V.agg [(V.inl Zb (gl (rd (gl s 1) (0 + r341.1.toNat)) 0)), (V.inl Zb r348), (V.int .i64 (gi (rd (gl s 1) (0 + r341.1.toNat)) 2)), (V.int .i64 (gi (rd (gl s 1) (0 + r341.1.toNat)) 3))])) (0 + r341.1.toNat)) 0)), (V.inl Zb (gl (rd ((gl s 1).set (0 + r341.1.toNat) (V.agg [(V.inl Zb (gl (rd (gl s 1) (0 + r341.1.toNat)) 0)), (V.inl Zb r348), (V.int .i64 (gi (rd (gl s 1) (0 + r341.1.toNat)) 2)), (V.int .i64 (gi (rd (gl s 1) (0 + r341.1.toNat)) 3))])) (0 + r341.1.toNat)) 1)), (V.int .i64 (gi s 0)), (V.int .i64 (gi (rd ((gl s 1).set (0 + r341.1.toNat) (V.agg [(V.inl Zb (gl (rd (gl s 1) (0 + r341.1.toNat)) 0)), (V.inl Zb r348), (V.int .i64 (gi (rd (gl s 1) (0 + r341.1.toNat)) 2)), (V.int .i64 (gi (rd (gl s 1) (0 + r341.1.toNat)) 3))])) (0 + r341.1.toNat)) 3))]))), (V.inl Zf (gl s 2)), (V.int .i64 (gi s 3)), (V.inl Zd (gl s 4)), (V.inl Ze (gl s 5))]))
    else none
  else none
def Z3 : Nat → V → List V → List V → List V → List V → Option (V × List V × List V × List V × List V)
  | 0, _, _, _, _, _ => none
  | k_ + 1, b0, r1, r2, r3, r4 =>
    bif (decide ((10 : Int) < ((r2.length : Nat) : Int))) then
      bif (Zm 0 r2.length) then
        Option.bind (Zdq r2 0 1) fun r358 =>
        Z3 k_ (V.agg [(V.int .i64 (gi b0 0)), (V.sl 1 Zg 0 none), (V.sl 2 Zf 0 none), (V.int .i64 (gi (rd r2 0) 1)), (V.sl 3 Zd 0 none), (V.sl 4 Ze 0 none)]) r1 r358 r3 r4
      else none
    else some ((V.agg [(V.int .i64 (gi b0 0)), (V.sl 1 Zg 0 none), (V.sl 2 Zf 0 none), (V.int .i64 (gi b0 3)), (V.sl 3 Zd 0 none), (V.sl 4 Ze 0 none)]), r1, r2, r3, r4)
def ZbM (s : V) (k : Int) : Option (V) :=
  bif (Zm k ((gl s 1).length)) then
    bif ((Zah (((gl s 2).length) + 1) 32) && true) then
      Option.bind (Zdq (gl s 1) k (IntKind.i64.wrap (k + 1))) fun r357 =>
      Option.bind (Z3 ((((((gl s 2) ++ [(V.agg [(V.inl Zb (gl (rd (gl s 1) (0 + k.toNat)) 0)), (V.int .i64 (gi s 0))])]).length : Nat) : Int) - 10).toNat + 1) (V.agg [(V.int .i64 (gi s 0)), (V.sl 1 Zg 0 none), (V.sl 2 Zf 0 none), (V.int .i64 (gi s 3)), (V.sl 3 Zd 0 none), (V.sl 4 Ze 0 none)]) r357 ((gl s 2) ++ [(V.agg [(V.inl Zb (gl (rd (gl s 1) (0 + k.toNat)) 0)), (V.int .i64 (gi s 0))])]) (gl s 4) (gl s 5)) fun r359 =>
      some (V.agg [(V.int .i64 (gi r359.1 0)), (V.inl Zg r359.2.1), (V.inl Zf r359.2.2.1), (V.int .i64 (gi r359.1 3)), (V.inl Zd r359.2.2.2.1), (V.inl Ze r359.2.2.2.2)])
    else none
  else none
def Z4 : Nat → Int → Bool → Int → V → List V → List V → List V → List V → Option (V × List V × List V × List V × List V)
  | 0, _, _, _, _, _, _, _, _ => none
  | k_ + 1, id1, remove6, k7, b0, r1, r2, r3, r4 =>
    bif (decide (k7 < ((r1.length : Nat) : Int))) then
      bif (Zm k7 r1.length) then
        bif (!(decide ((gi (rd r1 (0 + k7.toNat)) 3) = id1))) then
          Z4 k_ id1 remove6 (IntKind.i64.wrap (k7 + 1)) (V.agg [(V.int .i64 (gi b0 0)), (V.sl 1 Zg 0 none), (V.sl 2 Zf 0 none), (V.int .i64 (gi b0 3)), (V.sl 3 Zd 0 none), (V.sl 4 Ze 0 none)]) r1 r2 r3 r4
        else bif remove6 then
          Option.bind (ZbM (V.agg [(V.int .i64 (gi b0 0)), (V.inl Zg r1), (V.inl Zf r2), (V.int .i64 (gi b0 3)), (V.inl Zd r3), (V.inl Ze r4)]) k7) fun r363 =>
          Z4 k_ id1 remove6 (IntKind.i64.wrap ((IntKind.i64.wrap (k7 - 1)) + 1)) (V.agg [(V.int .i64 (gi r363 0)), (V.sl 1 Zg 0 none), (V.sl 2 Zf 0 none), (V.int .i64 (gi r363 3)), (V.sl 3 Zd 0 none), (V.sl 4 Ze 0 none)]) (gl r363 1) (gl r363 2) (gl r363 4) (gl r363 5)
        else bif (Zm k7 r1.length) then
          bif (Zm k7 ((r1.set (0 + k7.toNat) (V.agg [(V.inl Zb (gl (rd r1 (0 + k7.toNat)) 0)), (V.inl Zb (gl (rd r1 (0 + k7.toNat)) 1)), (V.int .i64 (gi (rd r1 (0 + k7.toNat)) 2)), (V.int .i64 0)])).length)) then
            Z4 k_ id1 remove6 (IntKind.i64.wrap (k7 + 1)) (V.agg [(V.int .i64 (gi b0 0)), (V.sl 1 Zg 0 none), (V.sl 2 Zf 0 none), (V.int .i64 (gi b0 3)), (V.sl 3 Zd 0 none), (V.sl 4 Ze 0 none)]) ((r1.set (0 + k7.toNat) (V.agg [(V.inl Zb (gl (rd r1 (0 + k7.toNat)) 0)), (V.inl Zb (gl (rd r1 (0 + k7.toNat)) 1)), (V.int .i64 (gi (rd r1 (0 + k7.toNat)) 2)), (V.int .i64 0)])).set (0 + k7.toNat) (V.agg [(V.inl Zb (gl (rd (r1.set (0 + k7.toNat) (V.agg [(V.inl Zb (gl (rd r1 (0 + k7.toNat)) 0)), (V.inl Zb (gl (rd r1 (0 + k7.toNat)) 1)), (V.int .i64 (gi (rd r1 (0 + k7.toNat)) 2)), (V.int .i64 0)])) (0 + k7.toNat)) 0)), (V.inl Zb (gl (rd (r1.set (0 + k7.toNat) (V.agg [(V.inl Zb (gl (rd r1 (0 + k7.toNat)) 0)), (V.inl Zb (gl (rd r1 (0 + k7.toNat)) 1)), (V.int .i64 (gi (rd r1 (0 + k7.toNat)) 2)), (V.int .i64 0)])) (0 + k7.toNat)) 1)), (V.int .i64 (gi b0 0)), (V.int .i64 (gi (rd (r1.set (0 + k7.toNat) (V.agg [(V.inl Zb (gl (rd r1 (0 + k7.toNat)) 0)), (V.inl Zb (gl (rd r1 (0 + k7.toNat)) 1)), (V.int .i64 (gi (rd r1 (0 + k7.toNat)) 2)), (V.int .i64 0)])) (0 + k7.toNat)) 3))])) r2 r3 r4
          else none
        else none
      else none
    else some ((V.agg [(V.int .i64 (gi b0 0)), (V.sl 1 Zg 0 none), (V.sl 2 Zf 0 none), (V.int .i64 (gi b0 3)), (V.sl 3 Zd 0 none), (V.sl 4 Ze 0 none)]), r1, r2, r3, r4)
def Zco (s : V) (id : Int) : Option (Int × V) :=
  Option.bind (Zan (Zc s) id) fun r361 =>
  bif (decide (r361 < 0)) then
    some (1, (Zc s))
  else bif (Zm r361 ((gl s 4).length)) then
    Option.bind (Zdq (gl s 4) r361 (IntKind.i64.wrap (r361 + 1))) fun r362 =>
    Option.bind (Z4 (((((gl s 1).length : Nat) : Int) - 0).toNat + 1) id (gb (rd (gl s 4) (0 + r361.toNat)) 1) 0 (V.agg [(V.int .i64 (gi s 0)), (V.sl 1 Zg 0 none), (V.sl 2 Zf 0 none), (V.int .i64 (gi s 3)), (V.sl 3 Zd 0 none), (V.sl 4 Ze 0 none)]) (gl s 1) (gl s 2) r362 (gl s 5)) fun r364 =>
    some (0, (V.agg [(V.int .i64 (gi r364.1 0)), (V.inl Zg r364.2.1), (V.inl Zf r364.2.2.1), (V.int .i64 (gi r364.1 3)), (V.inl Zd r364.2.2.2.1), (V.inl Ze r364.2.2.2.2)]))
  else none
def Zbj (s : V) (o : V) : Option (Int × V) :=
  Option.bind (Za0 (Zc s) (gl o 1)) fun r340 =>
  bif (decide ((gi o 0) = 1)) then
    bif r340.2 then
      bif (Zm r340.1 ((gl s 1).length)) then
        bif (decide ((gi o 0) = 2)) then
          bif (!(decide ((gi (rd (gl s 1) (0 + r340.1.toNat)) 2) = (gi o 3)))) then
            some (3, (Zc s))
          else Option.bind (ZR (Zc s) (gl o 1) (gl o 2)) fun r349 =>
          bif (!r349.1) then
            some (4, (Zc r349.2))
          else some (0, (Zc r349.2))
        else Option.bind (ZR (Zc s) (gl o 1) (gl o 2)) fun r350 =>
        bif (!r350.1) then
          some (4, (Zc r350.2))
        else some (0, (Zc r350.2))
      else none
    else bif (decide ((gi o 0) = 2)) then
      bif (!(decide ((0 : Int) = (gi o 3)))) then
        some (3, (Zc s))
      else Option.bind (ZR (Zc s) (gl o 1) (gl o 2)) fun r351 =>
      bif (!r351.1) then
        some (4, (Zc r351.2))
      else some (0, (Zc r351.2))
    else Option.bind (ZR (Zc s) (gl o 1) (gl o 2)) fun r352 =>
    bif (!r352.1) then
      some (4, (Zc r352.2))
    else some (0, (Zc r352.2))
  else bif (decide ((gi o 0) = 2)) then
    bif r340.2 then
      bif (Zm r340.1 ((gl s 1).length)) then
        bif (decide ((gi o 0) = 2)) then
          bif (!(decide ((gi (rd (gl s 1) (0 + r340.1.toNat)) 2) = (gi o 3)))) then
            some (3, (Zc s))
          else Option.bind (ZR (Zc s) (gl o 1) (gl o 2)) fun r353 =>
          bif (!r353.1) then
            some (4, (Zc r353.2))
          else some (0, (Zc r353.2))
        else Option.bind (ZR (Zc s) (gl o 1) (gl o 2)) fun r354 =>
        bif (!r354.1) then
          some (4, (Zc r354.2))
        else some (0, (Zc r354.2))
      else none
    else bif (decide ((gi o 0) = 2)) then
      bif (!(decide ((0 : Int) = (gi o 3)))) then
        some (3, (Zc s))
      else Option.bind (ZR (Zc s) (gl o 1) (gl o 2)) fun r355 =>
      bif (!r355.1) then
        some (4, (Zc r355.2))
      else some (0, (Zc r355.2))
    else Option.bind (ZR (Zc s) (gl o 1) (gl o 2)) fun r356 =>
    bif (!r356.1) then
      some (4, (Zc r356.2))
    else some (0, (Zc r356.2))
  else bif (decide ((gi o 0) = 3)) then
    bif (!r340.2) then
      some (1, (Zc s))
    else Option.bind (ZbM (Zc s) r340.1) fun r360 =>
    some (0, (Zc r360))
  else bif (decide ((gi o 0) = 4)) then
    bif (decide ((((gl s 4).length : Nat) : Int) = 8)) then
      some (4, (Zc s))
    else bif ((Zah (((gl s 4).length) + 1) 16) && true) then
      some (0, (V.agg [(V.int .i64 (gi s 0)), (V.inl Zg (gl s 1)), (V.inl Zf (gl s 2)), (V.int .i64 (gi s 3)), (V.inl Zd ((gl s 4) ++ [(V.agg [(V.int .i64 (gi s 0)), (V.bool (decide ((gi o 3) = 1)))])])), (V.inl Ze (gl s 5))]))
    else none
  else bif (decide ((gi o 0) = 5)) then
    Option.bind (Zco (Zc s) (gi o 3)) fun r365 =>
    some (r365.1, (Zc r365.2))
  else bif (decide ((gi o 0) = 6)) then
    Option.bind (Zan (Zc s) (gi o 3)) fun r366 =>
    bif (decide (r366 < 0)) then
      some (1, (Zc s))
    else bif r340.2 then
      bif (Zm r340.1 ((gl s 1).length)) then
        bif (!(decide ((gi (rd (gl s 1) (0 + r340.1.toNat)) 3) = 0))) then
          bif (Zm r340.1 ((gl s 1).length)) then
            bif (!(decide ((gi (rd (gl s 1) (0 + r340.1.toNat)) 3) = (gi o 3)))) then
              some (2, (Zc s))
            else Option.bind (ZR (Zc s) (gl o 1) (gl o 2)) fun r367 =>
            bif (!r367.1) then
              some (4, (Zc r367.2))
            else bif (Zm r340.1 ((gl r367.2 1).length)) then
              some (0, (V.agg [(V.int .i64 (gi r367.2 0)), (V.inl Zg ((gl r367.2 1).set (0 + r340.1.toNat) (V.agg [(V.inl Zb (gl (rd (gl r367.2 1) (0 + r340.1.toNat)) 0)), (V.inl Zb (gl (rd (gl r367.2 1) (0 + r340.1.toNat)) 1)), (V.int .i64 (gi (rd (gl r367.2 1) (0 + r340.1.toNat)) 2)), (V.int .i64 (gi o 3))]))), (V.inl Zf (gl r367.2 2)), (V.int .i64 (gi r367.2 3)), (V.inl Zd (gl r367.2 4)), (V.inl Ze (gl r367.2 5))]))
            else none
          else none
        else Option.bind (ZR (Zc s) (gl o 1) (gl o 2)) fun r368 =>
        bif (!r368.1) then
          some (4, (Zc r368.2))
        else bif (Zm r340.1 ((gl r368.2 1).length)) then
          some (0, (V.agg [(V.int .i64 (gi r368.2 0)), (V.inl Zg ((gl r368.2 1).set (0 + r340.1.toNat) (V.agg [(V.inl Zb (gl (rd (gl r368.2 1) (0 + r340.1.toNat)) 0)), (V.inl Zb (gl (rd (gl r368.2 1) (0 + r340.1.toNat)) 1)), (V.int .i64 (gi (rd (gl r368.2 1) (0 + r340.1.toNat)) 2)), (V.int .i64 (gi o 3))]))), (V.inl Zf (gl r368.2 2)), (V.int .i64 (gi r368.2 3)), (V.inl Zd (gl r368.2 4)), (V.inl Ze (gl r368.2 5))]))
        else none
      else none
    else Option.bind (ZR (Zc s) (gl o 1) (gl o 2)) fun r369 =>
    bif (!r369.1) then
      some (4, (Zc r369.2))
    else bif (Zm r340.1 ((gl r369.2 1).length)) then
      some (0, (V.agg [(V.int .i64 (gi r369.2 0)), (V.inl Zg ((gl r369.2 1).set (0 + r340.1.toNat) (V.agg [(V.inl Zb (gl (rd (gl r369.2 1) (0 + r340.1.toNat)) 0)), (V.inl Zb (gl (rd (gl r369.2 1) (0 + r340.1.toNat)) 1)), (V.int .i64 (gi (rd (gl r369.2 1) (0 + r340.1.toNat)) 2)), (V.int .i64 (gi o 3))]))), (V.inl Zf (gl r369.2 2)), (V.int .i64 (gi r369.2 3)), (V.inl Zd (gl r369.2 4)), (V.inl Ze (gl r369.2 5))]))
    else none
  else bif (decide ((gi o 0) = 7)) then
    bif (!r340.2) then
      some (1, (Zc s))
    else bif (Zm r340.1 ((gl s 1).length)) then
      bif (!(decide ((gi (rd (gl s 1) (0 + r340.1.toNat)) 3) = (gi o 3)))) then
        some (1, (Zc s))
      else bif (Zm r340.1 ((gl s 1).length)) then
        bif (Zm r340.1 (((gl s 1).set (0 + r340.1.toNat) (V.agg [(V.inl Zb (gl (rd (gl s 1) (0 + r340.1.toNat)) 0)), (V.inl Zb (gl (rd (gl s 1) (0 + r340.1.toNat)) 1)), (V.int .i64 (gi (rd (gl s 1) (0 + r340.1.toNat)) 2)), (V.int .i64 0)])).length)) then
          some (0, (V.agg [(V.int .i64 (gi s 0)), (V.inl Zg (((gl s 1).set (0 + r340.1.toNat) (V.agg [(V.inl Zb (gl (rd (gl s 1) (0 + r340.1.toNat)) 0)), (V.inl Zb (gl (rd (gl s 1) (0 + r340.1.toNat)) 1)), (V.int .i64 (gi (rd (gl s 1) (0 + r340.1.toNat)) 2)), (V.int .i64 0)])).set (0 + r340.1.toNat) (V.agg [(V.inl Zb (gl (rd ((gl s 1).set (0 + r340.1.toNat) (V.agg [(V.inl Zb (gl (rd (gl s 1) (0 + r340.1.toNat)) 0)), (V.inl Zb (gl (rd (gl s 1) (0 + r340.1.toNat)) 1)), (V.int .i64 (gi (rd (gl s 1) (0 + r340.1.toNat)) 2)), (V.int .i64 0)])) (0 + r340.1.toNat)) 0)), (V.inl Zb (gl (rd ((gl s 1).set (0 + r340.1.toNat) (V.agg [(V.inl Zb (gl (rd (gl s 1) (0 + r340.1.toNat)) 0)), (V.inl Zb (gl (rd (gl s 1) (0 + r340.1.toNat)) 1)), (V.int .i64 (gi (rd (gl s 1) (0 + r340.1.toNat)) 2)), (V.int .i64 0)])) (0 + r340.1.toNat)) 1)), (V.int .i64 (gi s 0)), (V.int .i64 (gi (rd ((gl s 1).set (0 + r340.1.toNat) (V.agg [(V.inl Zb (gl (rd (gl s 1) (0 + r340.1.toNat)) 0)), (V.inl Zb (gl (rd (gl s 1) (0 + r340.1.toNat)) 1)), (V.int .i64 (gi (rd (gl s 1) (0 + r340.1.toNat)) 2)), (V.int .i64 0)])) (0 + r340.1.toNat)) 3))]))), (V.inl Zf (gl s 2)), (V.int .i64 (gi s 3)), (V.inl Zd (gl s 4)), (V.inl Ze (gl s 5))]))
        else none
      else none
    else none
  else some (0, (Zc s))
def Zbr (s : V) (c : V) : Option (V × V) :=
  bif (decide ((gi c 0) < 0)) then
    some ((V.agg [(V.int .i64 0), (V.int .i64 (IntKind.i64.wrap ((gi s 0) + 1)))]), (V.agg [(V.int .i64 (IntKind.i64.wrap ((gi s 0) + 1))), (V.inl Zg (gl s 1)), (V.inl Zf (gl s 2)), (V.int .i64 (gi s 3)), (V.inl Zd (gl s 4)), (V.inl Ze (gl s 5))]))
  else Option.bind (Zcn (V.agg [(V.int .i64 (IntKind.i64.wrap ((gi s 0) + 1))), (V.inl Zg (gl s 1)), (V.inl Zf (gl s 2)), (V.int .i64 (gi s 3)), (V.inl Zd (gl s 4)), (V.inl Ze (gl s 5))]) (gi c 0)) fun r339 =>
  bif r339.2 then
    bif (Zm r339.1 ((gl s 5).length)) then
      bif (decide ((gi (rd (gl s 5) (0 + r339.1.toNat)) 1) = (gi c 1))) then
        bif (Zm r339.1 ((gl s 5).length)) then
          some ((V.agg [(V.int .i64 (gi (rd (gl s 5) (0 + r339.1.toNat)) 2)), (V.int .i64 (gi (rd (gl s 5) (0 + r339.1.toNat)) 3))]), (V.agg [(V.int .i64 (IntKind.i64.wrap ((gi s 0) + 1))), (V.inl Zg (gl s 1)), (V.inl Zf (gl s 2)), (V.int .i64 (gi s 3)), (V.inl Zd (gl s 4)), (V.inl Ze (gl s 5))]))
        else none
      else bif r339.2 then
        bif (Zm r339.1 ((gl s 5).length)) then
          bif (decide ((gi c 1) < (gi (rd (gl s 5) (0 + r339.1.toNat)) 1))) then
            some ((V.agg [(V.int .i64 5), (V.int .i64 (IntKind.i64.wrap ((gi s 0) + 1)))]), (V.agg [(V.int .i64 (IntKind.i64.wrap ((gi s 0) + 1))), (V.inl Zg (gl s 1)), (V.inl Zf (gl s 2)), (V.int .i64 (gi s 3)), (V.inl Zd (gl s 4)), (V.inl Ze (gl s 5))]))
          else Option.bind (Zbj (V.agg [(V.int .i64 (IntKind.i64.wrap ((gi s 0) + 1))), (V.inl Zg (gl s 1)), (V.inl Zf (gl s 2)), (V.int .i64 (gi s 3)), (V.inl Zd (gl s 4)), (V.inl Ze (gl s 5))]) (V.agg [(V.int .i64 (gi c 2)), (V.inl Zb (gl c 3)), (V.inl Zb (gl c 4)), (V.int .i64 (gi c 5))])) fun r370 =>
          bif r339.2 then
            bif (Zm r339.1 ((gl r370.2 5).length)) then
              some ((V.agg [(V.int .i64 r370.1), (V.int .i64 (IntKind.i64.wrap ((gi s 0) + 1)))]), (V.agg [(V.int .i64 (gi r370.2 0)), (V.inl Zg (gl r370.2 1)), (V.inl Zf (gl r370.2 2)), (V.int .i64 (gi r370.2 3)), (V.inl Zd (gl r370.2 4)), (V.inl Ze ((gl r370.2 5).set (0 + r339.1.toNat) (V.agg [(V.int .i64 (gi c 0)), (V.int .i64 (gi c 1)), (V.int .i64 r370.1), (V.int .i64 (IntKind.i64.wrap ((gi s 0) + 1)))])))]))
            else none
          else Option.bind (ZcT 32 (gl r370.2 5) r339.1 [(V.agg [(V.int .i64 (gi c 0)), (V.int .i64 (gi c 1)), (V.int .i64 r370.1), (V.int .i64 (IntKind.i64.wrap ((gi s 0) + 1)))])]) fun r371 =>
          some ((V.agg [(V.int .i64 r370.1), (V.int .i64 (IntKind.i64.wrap ((gi s 0) + 1)))]), (V.agg [(V.int .i64 (gi r370.2 0)), (V.inl Zg (gl r370.2 1)), (V.inl Zf (gl r370.2 2)), (V.int .i64 (gi r370.2 3)), (V.inl Zd (gl r370.2 4)), (V.inl Ze r371)]))
        else none
      else Option.bind (Zbj (V.agg [(V.int .i64 (IntKind.i64.wrap ((gi s 0) + 1))), (V.inl Zg (gl s 1)), (V.inl Zf (gl s 2)), (V.int .i64 (gi s 3)), (V.inl Zd (gl s 4)), (V.inl Ze (gl s 5))]) (V.agg [(V.int .i64 (gi c 2)), (V.inl Zb (gl c 3)), (V.inl Zb (gl c 4)), (V.int .i64 (gi c 5))])) fun r372 =>
      bif r339.2 then
        bif (Zm r339.1 ((gl r372.2 5).length)) then
          some ((V.agg [(V.int .i64 r372.1), (V.int .i64 (IntKind.i64.wrap ((gi s 0) + 1)))]), (V.agg [(V.int .i64 (gi r372.2 0)), (V.inl Zg (gl r372.2 1)), (V.inl Zf (gl r372.2 2)), (V.int .i64 (gi r372.2 3)), (V.inl Zd (gl r372.2 4)), (V.inl Ze ((gl r372.2 5).set (0 + r339.1.toNat) (V.agg [(V.int .i64 (gi c 0)), (V.int .i64 (gi c 1)), (V.int .i64 r372.1), (V.int .i64 (IntKind.i64.wrap ((gi s 0) + 1)))])))]))
        else none
      else Option.bind (ZcT 32 (gl r372.2 5) r339.1 [(V.agg [(V.int .i64 (gi c 0)), (V.int .i64 (gi c 1)), (V.int .i64 r372.1), (V.int .i64 (IntKind.i64.wrap ((gi s 0) + 1)))])]) fun r373 =>
      some ((V.agg [(V.int .i64 r372.1), (V.int .i64 (IntKind.i64.wrap ((gi s 0) + 1)))]), (V.agg [(V.int .i64 (gi r372.2 0)), (V.inl Zg (gl r372.2 1)), (V.inl Zf (gl r372.2 2)), (V.int .i64 (gi r372.2 3)), (V.inl Zd (gl r372.2 4)), (V.inl Ze r373)]))
    else none
  else bif r339.2 then
    bif (Zm r339.1 ((gl s 5).length)) then
      bif (decide ((gi c 1) < (gi (rd (gl s 5) (0 + r339.1.toNat)) 1))) then
        some ((V.agg [(V.int .i64 5), (V.int .i64 (IntKind.i64.wrap ((gi s 0) + 1)))]), (V.agg [(V.int .i64 (IntKind.i64.wrap ((gi s 0) + 1))), (V.inl Zg (gl s 1)), (V.inl Zf (gl s 2)), (V.int .i64 (gi s 3)), (V.inl Zd (gl s 4)), (V.inl Ze (gl s 5))]))
      else Option.bind (Zbj (V.agg [(V.int .i64 (IntKind.i64.wrap ((gi s 0) + 1))), (V.inl Zg (gl s 1)), (V.inl Zf (gl s 2)), (V.int .i64 (gi s 3)), (V.inl Zd (gl s 4)), (V.inl Ze (gl s 5))]) (V.agg [(V.int .i64 (gi c 2)), (V.inl Zb (gl c 3)), (V.inl Zb (gl c 4)), (V.int .i64 (gi c 5))])) fun r374 =>
      bif r339.2 then
        bif (Zm r339.1 ((gl r374.2 5).length)) then
          some ((V.agg [(V.int .i64 r374.1), (V.int .i64 (IntKind.i64.wrap ((gi s 0) + 1)))]), (V.agg [(V.int .i64 (gi r374.2 0)), (V.inl Zg (gl r374.2 1)), (V.inl Zf (gl r374.2 2)), (V.int .i64 (gi r374.2 3)), (V.inl Zd (gl r374.2 4)), (V.inl Ze ((gl r374.2 5).set (0 + r339.1.toNat) (V.agg [(V.int .i64 (gi c 0)), (V.int .i64 (gi c 1)), (V.int .i64 r374.1), (V.int .i64 (IntKind.i64.wrap ((gi s 0) + 1)))])))]))
        else none
      else Option.bind (ZcT 32 (gl r374.2 5) r339.1 [(V.agg [(V.int .i64 (gi c 0)), (V.int .i64 (gi c 1)), (V.int .i64 r374.1), (V.int .i64 (IntKind.i64.wrap ((gi s 0) + 1)))])]) fun r375 =>
      some ((V.agg [(V.int .i64 r374.1), (V.int .i64 (IntKind.i64.wrap ((gi s 0) + 1)))]), (V.agg [(V.int .i64 (gi r374.2 0)), (V.inl Zg (gl r374.2 1)), (V.inl Zf (gl r374.2 2)), (V.int .i64 (gi r374.2 3)), (V.inl Zd (gl r374.2 4)), (V.inl Ze r375)]))
    else none
  else Option.bind (Zbj (V.agg [(V.int .i64 (IntKind.i64.wrap ((gi s 0) + 1))), (V.inl Zg (gl s 1)), (V.inl Zf (gl s 2)), (V.int .i64 (gi s 3)), (V.inl Zd (gl s 4)), (V.inl Ze (gl s 5))]) (V.agg [(V.int .i64 (gi c 2)), (V.inl Zb (gl c 3)), (V.inl Zb (gl c 4)), (V.int .i64 (gi c 5))])) fun r376 =>
  bif r339.2 then
    bif (Zm r339.1 ((gl r376.2 5).length)) then
      some ((V.agg [(V.int .i64 r376.1), (V.int .i64 (IntKind.i64.wrap ((gi s 0) + 1)))]), (V.agg [(V.int .i64 (gi r376.2 0)), (V.inl Zg (gl r376.2 1)), (V.inl Zf (gl r376.2 2)), (V.int .i64 (gi r376.2 3)), (V.inl Zd (gl r376.2 4)), (V.inl Ze ((gl r376.2 5).set (0 + r339.1.toNat) (V.agg [(V.int .i64 (gi c 0)), (V.int .i64 (gi c 1)), (V.int .i64 r376.1), (V.int .i64 (IntKind.i64.wrap ((gi s 0) + 1)))])))]))
    else none
  else Option.bind (ZcT 32 (gl r376.2 5) r339.1 [(V.agg [(V.int .i64 (gi c 0)), (V.int .i64 (gi c 1)), (V.int .i64 r376.1), (V.int .i64 (IntKind.i64.wrap ((gi s 0) + 1)))])]) fun r377 =>
  some ((V.agg [(V.int .i64 r376.1), (V.int .i64 (IntKind.i64.wrap ((gi s 0) + 1)))]), (V.agg [(V.int .i64 (gi r376.2 0)), (V.inl Zg (gl r376.2 1)), (V.inl Zf (gl r376.2 2)), (V.int .i64 (gi r376.2 3)), (V.inl Zd (gl r376.2 4)), (V.inl Ze r377)]))
def Ze6 (s : V) (c : V) : Option (V × V) :=
  Option.bind (Zds (Zc s)) fun r323 =>
  bif (!r323) then
    some ((V.agg [(V.int .i64 0), (V.inl Zg []), (V.inl Zf []), (V.int .i64 0), (V.inl Zd []), (V.inl Ze [])]), (V.agg [(V.int .i64 0), (V.int .i64 0)]))
  else Option.bind (ZcU (ZY c)) fun r324 =>
  bif (!r324) then
    some ((V.agg [(V.int .i64 0), (V.inl Zg []), (V.inl Zf []), (V.int .i64 0), (V.inl Zd []), (V.inl Ze [])]), (V.agg [(V.int .i64 0), (V.int .i64 0)]))
  else bif (decide ((gi s 0) = 1000000)) then
    some ((V.agg [(V.int .i64 0), (V.inl Zg []), (V.inl Zf []), (V.int .i64 0), (V.inl Zd []), (V.inl Ze [])]), (V.agg [(V.int .i64 0), (V.int .i64 0)]))
  else Option.bind (ZbV (Zc s)) fun r338 =>
  Option.bind (Zbr (Zc r338) (ZY c)) fun r378 =>
  some ((Zc r378.2), (Zdr r378.1))
def ZbW (a : List V) (b : List V) : Bool :=
  (Zbd (a.map Za5) (b.map Za5))
def Zab : Nat → Int → V → V → Option (Nat × Bool × V × V)
  | 0, _, _, _ => none
  | k_ + 1, i5, b0, b1 =>
    bif (decide (i5 < (((gl b0 1).length : Nat) : Int))) then
      bif (Zm i5 ((gl b0 1).length)) then
        bif (Zm i5 ((gl b1 1).length)) then
          bif (!(ZbW (gl (rd (gl b0 1) i5.toNat) 0) (gl (rd (gl b1 1) i5.toNat) 0))) then
            some (0, false, (Zc b0), (Zc b1))
          else bif (!(ZbW (gl (rd (gl b0 1) i5.toNat) 1) (gl (rd (gl b1 1) i5.toNat) 1))) then
            some (0, false, (Zc b0), (Zc b1))
          else bif (!(decide ((gi (rd (gl b0 1) i5.toNat) 2) = (gi (rd (gl b1 1) i5.toNat) 2)))) then
            some (0, false, (Zc b0), (Zc b1))
          else bif (!(decide ((gi (rd (gl b0 1) i5.toNat) 3) = (gi (rd (gl b1 1) i5.toNat) 3)))) then
            some (0, false, (Zc b0), (Zc b1))
          else Zab k_ (IntKind.i64.wrap (i5 + 1)) (Zc b0) (Zc b1)
        else none
      else none
    else some (1, false, (Zc b0), (Zc b1))
def Z5 : Nat → Int → V → V → Option (Nat × Bool × V × V)
  | 0, _, _, _ => none
  | k_ + 1, i8, b0, b1 =>
    bif (decide (i8 < (((gl b0 2).length : Nat) : Int))) then
      bif (Zm i8 ((gl b0 2).length)) then
        bif (Zm i8 ((gl b1 2).length)) then
          bif (!(ZbW (gl (rd (gl b0 2) i8.toNat) 0) (gl (rd (gl b1 2) i8.toNat) 0))) then
            some (0, false, (Zc b0), (Zc b1))
          else bif (Zm i8 ((gl b0 2).length)) then
            bif (Zm i8 ((gl b1 2).length)) then
              bif (!(decide ((gi (rd (gl b0 2) i8.toNat) 1) = (gi (rd (gl b1 2) i8.toNat) 1)))) then
                some (0, false, (Zc b0), (Zc b1))
              else Z5 k_ (IntKind.i64.wrap (i8 + 1)) (Zc b0) (Zc b1)
            else none
          else none
        else none
      else none
    else some (1, false, (Zc b0), (Zc b1))
def Z6 : Nat → Int → V → V → Option (Nat × Bool × V × V)
  | 0, _, _, _ => none
  | k_ + 1, i9, b0, b1 =>
    bif (decide (i9 < (((gl b0 4).length : Nat) : Int))) then
      bif (Zm i9 ((gl b0 4).length)) then
        bif (Zm i9 ((gl b1 4).length)) then
          bif (!((decide ((gi (rd (gl b0 4) i9.toNat) 0) = (gi (rd (gl b1 4) i9.toNat) 0))) && ((gb (rd (gl b0 4) i9.toNat) 1) == (gb (rd (gl b1 4) i9.toNat) 1)))) then
            some (0, false, (Zc b0), (Zc b1))
          else Z6 k_ (IntKind.i64.wrap (i9 + 1)) (Zc b0) (Zc b1)
        else none
      else none
    else some (1, false, (Zc b0), (Zc b1))
def Z7 : Nat → Int → V → V → Option (Nat × Bool)
  | 0, _, _, _ => none
  | k_ + 1, i10, b0, b1 =>
    bif (decide (i10 < (((gl b0 5).length : Nat) : Int))) then
      bif (Zm i10 ((gl b0 5).length)) then
        bif (Zm i10 ((gl b1 5).length)) then
          bif (!((decide ((gi (rd (gl b0 5) i10.toNat) 0) = (gi (rd (gl b1 5) i10.toNat) 0))) && ((decide ((gi (rd (gl b0 5) i10.toNat) 1) = (gi (rd (gl b1 5) i10.toNat) 1))) && ((decide ((gi (rd (gl b0 5) i10.toNat) 2) = (gi (rd (gl b1 5) i10.toNat) 2))) && (decide ((gi (rd (gl b0 5) i10.toNat) 3) = (gi (rd (gl b1 5) i10.toNat) 3))))))) then
            some (0, false)
          else Z7 k_ (IntKind.i64.wrap (i10 + 1)) (Zc b0) (Zc b1)
        else none
      else none
    else some (1, false)
def Zbs (a : V) (b : V) : Option (Bool) :=
  bif (!(decide ((gi a 0) = (gi b 0)))) then
    some false
  else bif (!(decide ((gi a 3) = (gi b 3)))) then
    some false
  else bif (!(decide ((((gl a 1).length : Nat) : Int) = (((gl b 1).length : Nat) : Int)))) then
    some false
  else bif (!(decide ((((gl a 2).length : Nat) : Int) = (((gl b 2).length : Nat) : Int)))) then
    some false
  else bif (!(decide ((((gl a 4).length : Nat) : Int) = (((gl b 4).length : Nat) : Int)))) then
    some false
  else bif (!(decide ((((gl a 5).length : Nat) : Int) = (((gl b 5).length : Nat) : Int)))) then
    some false
  else Option.bind (Zab (((((gl (Zc a) 1).length : Nat) : Int) - 0).toNat + 1) 0 (Zc a) (Zc b)) fun r395 =>
  bif (Nat.beq r395.1 0) then
    some r395.2.1
  else Option.bind (Z5 (((((gl (Zc r395.2.2.1) 2).length : Nat) : Int) - 0).toNat + 1) 0 (Zc r395.2.2.1) (Zc r395.2.2.2)) fun r396 =>
  bif (Nat.beq r396.1 0) then
    some r396.2.1
  else Option.bind (Z6 (((((gl (Zc r396.2.2.1) 4).length : Nat) : Int) - 0).toNat + 1) 0 (Zc r396.2.2.1) (Zc r396.2.2.2)) fun r397 =>
  bif (Nat.beq r397.1 0) then
    some r397.2.1
  else Option.bind (Z7 (((((gl (Zc r397.2.2.1) 5).length : Nat) : Int) - 0).toNat + 1) 0 (Zc r397.2.2.1) (Zc r397.2.2.2)) fun r398 =>
  bif (Nat.beq r398.1 0) then
    some r398.2
  else some true
def ZM : Nat → List V → Int → Int → V → List V → V → List V → List V → List V → List V → List V → List V → List V → List V → List V → Option (Nat × Bool × List V × Int × V × List V × V × List V × List V × List V × List V × List V × List V × List V × List V)
  | 0, _, _, _, _, _, _, _, _, _, _, _, _, _, _, _ => none
  | k_ + 1, l3, n6, i9, b0, r1, b2, r3, r4, r5, r6, r7, r8, r9, r10, r11 =>
    bif (decide (i9 < n6)) then
      bif (Zm i9 r3.length) then
        bif (Zm i9 r1.length) then
          bif (!((decide ((gi (rd r3 (0 + i9.toNat)) 0) = (gi (rd r1 (0 + i9.toNat)) 0))) && (decide ((gi (rd r3 (0 + i9.toNat)) 1) = (gi (rd r1 (0 + i9.toNat)) 1))))) then
            some (0, false, l3, n6, (V.agg [(V.int .i64 (gi b0 0)), (V.sl 3 Zg 0 none), (V.sl 4 Zf 0 none), (V.int .i64 (gi b0 3)), (V.sl 5 Zd 0 none), (V.sl 6 Ze 0 none)]), r1, (V.agg [(V.int .i64 (gi b2 0)), (V.sl 7 Zg 0 none), (V.sl 8 Zf 0 none), (V.int .i64 (gi b2 3)), (V.sl 9 Zd 0 none), (V.sl 10 Ze 0 none)]), r4, r5, r6, r7, r8, r9, r10, r11)
          else ZM k_ l3 n6 (IntKind.i64.wrap (i9 + 1)) (V.agg [(V.int .i64 (gi b0 0)), (V.sl 4 Zg 0 none), (V.sl 5 Zf 0 none), (V.int .i64 (gi b0 3)), (V.sl 6 Zd 0 none), (V.sl 7 Ze 0 none)]) r1 (V.agg [(V.int .i64 (gi b2 0)), (V.sl 8 Zg 0 none), (V.sl 9 Zf 0 none), (V.int .i64 (gi b2 3)), (V.sl 10 Zd 0 none), (V.sl 11 Ze 0 none)]) r3 r4 r5 r6 r7 r8 r9 r10 r11
        else none
      else none
    else some (1, false, l3, n6, (V.agg [(V.int .i64 (gi b0 0)), (V.sl 3 Zg 0 none), (V.sl 4 Zf 0 none), (V.int .i64 (gi b0 3)), (V.sl 5 Zd 0 none), (V.sl 6 Ze 0 none)]), r1, (V.agg [(V.int .i64 (gi b2 0)), (V.sl 7 Zg 0 none), (V.sl 8 Zf 0 none), (V.int .i64 (gi b2 3)), (V.sl 9 Zd 0 none), (V.sl 10 Ze 0 none)]), r4, r5, r6, r7, r8, r9, r10, r11)
def ZT : Nat → List V → Int → V → List V → V → List V → List V → List V → List V → List V → List V → List V → List V → Option (Nat × Bool × List V × V × List V × V × List V × List V × List V × List V × List V × List V × List V × List V)
  | 0, _, _, _, _, _, _, _, _, _, _, _, _, _ => none
  | k_ + 1, l3, i10, b0, r1, b2, r3, r4, r5, r6, r7, r8, r9, r10 =>
    bif (decide (i10 < ((r1.length : Nat) : Int))) then
      bif (Zm i10 l3.length) then
        Option.bind (Ze6 (V.agg [(V.int .i64 (gi b2 0)), (V.inl Zg r7), (V.inl Zf r8), (V.int .i64 (gi b2 3)), (V.inl Zd r9), (V.inl Ze r10)]) (V.agg [(V.int .i64 (gi (rd l3 i10.toNat) 1)), (V.int .i64 (gi (rd l3 i10.toNat) 2)), (V.int .i64 (gi (rd l3 i10.toNat) 3)), (V.inl Zb (gl (rd l3 i10.toNat) 4)), (V.inl Zb (gl (rd l3 i10.toNat) 5)), (V.int .i64 (gi (rd l3 i10.toNat) 6))])) fun r393 =>
        bif (Zm i10 r1.length) then
          bif (!((decide ((gi r393.2 0) = (gi (rd r1 (0 + i10.toNat)) 0))) && (decide ((gi r393.2 1) = (gi (rd r1 (0 + i10.toNat)) 1))))) then
            some (0, false, l3, (V.agg [(V.int .i64 (gi b0 0)), (V.sl 3 Zg 0 none), (V.sl 4 Zf 0 none), (V.int .i64 (gi b0 3)), (V.sl 5 Zd 0 none), (V.sl 6 Ze 0 none)]), r1, (V.agg [(V.int .i64 (gi b2 0)), (V.inl Zg r7), (V.inl Zf r8), (V.int .i64 (gi b2 3)), (V.inl Zd r9), (V.inl Ze r10)]), r3, r4, r5, r6, [], [], [], [])
          else ZT k_ l3 (IntKind.i64.wrap (i10 + 1)) (V.agg [(V.int .i64 (gi b0 0)), (V.sl 3 Zg 0 none), (V.sl 4 Zf 0 none), (V.int .i64 (gi b0 3)), (V.sl 5 Zd 0 none), (V.sl 6 Ze 0 none)]) r1 (V.agg [(V.int .i64 (gi r393.1 0)), (V.sl 7 Zg 0 none), (V.sl 8 Zf 0 none), (V.int .i64 (gi r393.1 3)), (V.sl 9 Zd 0 none), (V.sl 10 Ze 0 none)]) r3 r4 r5 r6 (gl r393.1 1) (gl r393.1 2) (gl r393.1 4) (gl r393.1 5)
        else none
      else none
    else some (1, false, l3, (V.agg [(V.int .i64 (gi b0 0)), (V.sl 3 Zg 0 none), (V.sl 4 Zf 0 none), (V.int .i64 (gi b0 3)), (V.sl 5 Zd 0 none), (V.sl 6 Ze 0 none)]), r1, (V.agg [(V.int .i64 (gi b2 0)), (V.sl 7 Zg 0 none), (V.sl 8 Zf 0 none), (V.int .i64 (gi b2 3)), (V.sl 9 Zd 0 none), (V.sl 10 Ze 0 none)]), r3, r4, r5, r6, r7, r8, r9, r10)
def ZbX (code : List V) : Option (Bool) :=
  Option.bind (Zdf code) fun r387 =>
  Option.bind (Zcy r387) fun r388 =>
  Option.bind (Zds (Zc r388.1)) fun r389 =>
  bif (!r389) then
    some false
  else bif (!(decide ((gi r388.1 0) = ((r388.2.length : Nat) : Int)))) then
    some false
  else bif (decide (((r387.length : Nat) : Int) < ((r388.2.length : Nat) : Int))) then
    some false
  else Option.bind (Zh2 code 3) fun r390 =>
  bif (decide (((r388.2.length : Nat) : Int) < (IntKind.i64.wrap ((IntKind.i64.wrap (((r388.2.length : Nat) : Int) * (r390.tmod 5))).tdiv 4)))) then
    bif ((decide ((0 : Int) ≤ ((r388.2.length : Nat) : Int))) && (decide (((r388.2.length : Nat) : Int) ≤ ((r387.length : Nat) : Int)))) then
      Option.bind (Zcy (r387.take (((r388.2.length : Nat) : Int).toNat))) fun r391 =>
      bif (!(decide (((r391.2.length : Nat) : Int) = ((r388.2.length : Nat) : Int)))) then
        some false
      else bif (!(decide ((gi r391.1 0) = ((r388.2.length : Nat) : Int)))) then
        some false
      else Option.bind (ZM ((((r388.2.length : Nat) : Int) - 0).toNat + 1) r387 ((r388.2.length : Nat) : Int) 0 (V.agg [(V.int .i64 (gi r388.1 0)), (V.sl 4 Zg 0 none), (V.sl 5 Zf 0 none), (V.int .i64 (gi r388.1 3)), (V.sl 6 Zd 0 none), (V.sl 7 Ze 0 none)]) r388.2 (V.agg [(V.int .i64 (gi r391.1 0)), (V.sl 8 Zg 0 none), (V.sl 9 Zf 0 none), (V.int .i64 (gi r391.1 3)), (V.sl 10 Zd 0 none), (V.sl 11 Ze 0 none)]) r391.2 (gl r388.1 1) (gl r388.1 2) (gl r388.1 4) (gl r388.1 5) (gl r391.1 1) (gl r391.1 2) (gl r391.1 4) (gl r391.1 5)) fun r392 =>
      bif (Nat.beq r392.1 0) then
        some r392.2.1
      else Option.bind (ZT ((((r392.2.2.2.2.2.1.length : Nat) : Int) - r392.2.2.2.1).toNat + 1) r392.2.2.1 r392.2.2.2.1 (V.agg [(V.int .i64 (gi r392.2.2.2.2.1 0)), (V.sl 3 Zg 0 none), (V.sl 4 Zf 0 none), (V.int .i64 (gi r392.2.2.2.2.1 3)), (V.sl 5 Zd 0 none), (V.sl 6 Ze 0 none)]) r392.2.2.2.2.2.1 (V.agg [(V.int .i64 (gi r392.2.2.2.2.2.2.1 0)), (V.sl 7 Zg 0 none), (V.sl 8 Zf 0 none), (V.int .i64 (gi r392.2.2.2.2.2.2.1 3)), (V.sl 9 Zd 0 none), (V.sl 10 Ze 0 none)]) r392.2.2.2.2.2.2.2.1 r392.2.2.2.2.2.2.2.2.1 r392.2.2.2.2.2.2.2.2.2.1 r392.2.2.2.2.2.2.2.2.2.2.1 r392.2.2.2.2.2.2.2.2.2.2.2.1 r392.2.2.2.2.2.2.2.2.2.2.2.2.1 r392.2.2.2.2.2.2.2.2.2.2.2.2.2.1 r392.2.2.2.2.2.2.2.2.2.2.2.2.2.2) fun r394 =>
      bif (Nat.beq r394.1 0) then
        some r394.2.1
      else Option.bind (Zbs (V.agg [(V.int .i64 (gi r394.2.2.2.2.2.1 0)), (V.inl Zg r394.2.2.2.2.2.2.2.2.2.2.1), (V.inl Zf r394.2.2.2.2.2.2.2.2.2.2.2.1), (V.int .i64 (gi r394.2.2.2.2.2.1 3)), (V.inl Zd r394.2.2.2.2.2.2.2.2.2.2.2.2.1), (V.inl Ze r394.2.2.2.2.2.2.2.2.2.2.2.2.2)]) (V.agg [(V.int .i64 (gi r394.2.2.2.1 0)), (V.inl Zg r394.2.2.2.2.2.2.1), (V.inl Zf r394.2.2.2.2.2.2.2.1), (V.int .i64 (gi r394.2.2.2.1 3)), (V.inl Zd r394.2.2.2.2.2.2.2.2.1), (V.inl Ze r394.2.2.2.2.2.2.2.2.2.1)])) fun r399 =>
      bif r399 then
        bif (decide (((r394.2.2.2.2.1.length : Nat) : Int) = ((r394.2.2.1.length : Nat) : Int))) then
          some Zgl
        else bif (Zm ((r394.2.2.2.2.1.length : Nat) : Int) r394.2.2.1.length) then
          Option.bind (Zcm (V.agg [(V.int .i64 (gi (rd r394.2.2.1 (((r394.2.2.2.2.1.length : Nat) : Int).toNat)) 1)), (V.int .i64 (gi (rd r394.2.2.1 (((r394.2.2.2.2.1.length : Nat) : Int).toNat)) 2)), (V.int .i64 (gi (rd r394.2.2.1 (((r394.2.2.2.2.1.length : Nat) : Int).toNat)) 3)), (V.inl Zb (gl (rd r394.2.2.1 (((r394.2.2.2.2.1.length : Nat) : Int).toNat)) 4)), (V.inl Zb (gl (rd r394.2.2.1 (((r394.2.2.2.2.1.length : Nat) : Int).toNat)) 5)), (V.int .i64 (gi (rd r394.2.2.1 (((r394.2.2.2.2.1.length : Nat) : Int).toNat)) 6))])) fun r400 =>
          bif (!r400) then
            some Zgl
          else some false
        else none
      else some false
    else none
  else bif ((decide ((0 : Int) ≤ (IntKind.i64.wrap ((IntKind.i64.wrap (((r388.2.length : Nat) : Int) * (r390.tmod 5))).tdiv 4)))) && (decide ((IntKind.i64.wrap ((IntKind.i64.wrap (((r388.2.length : Nat) : Int) * (r390.tmod 5))).tdiv 4)) ≤ ((r387.length : Nat) : Int)))) then
    Option.bind (Zcy (r387.take ((IntKind.i64.wrap ((IntKind.i64.wrap (((r388.2.length : Nat) : Int) * (r390.tmod 5))).tdiv 4)).toNat))) fun r401 =>
    bif (!(decide (((r401.2.length : Nat) : Int) = (IntKind.i64.wrap ((IntKind.i64.wrap (((r388.2.length : Nat) : Int) * (r390.tmod 5))).tdiv 4))))) then
      some false
    else bif (!(decide ((gi r401.1 0) = (IntKind.i64.wrap ((IntKind.i64.wrap (((r388.2.length : Nat) : Int) * (r390.tmod 5))).tdiv 4))))) then
      some false
    else Option.bind (ZM (((IntKind.i64.wrap ((IntKind.i64.wrap (((r388.2.length : Nat) : Int) * (r390.tmod 5))).tdiv 4)) - 0).toNat + 1) r387 (IntKind.i64.wrap ((IntKind.i64.wrap (((r388.2.length : Nat) : Int) * (r390.tmod 5))).tdiv 4)) 0 (V.agg [(V.int .i64 (gi r388.1 0)), (V.sl 4 Zg 0 none), (V.sl 5 Zf 0 none), (V.int .i64 (gi r388.1 3)), (V.sl 6 Zd 0 none), (V.sl 7 Ze 0 none)]) r388.2 (V.agg [(V.int .i64 (gi r401.1 0)), (V.sl 8 Zg 0 none), (V.sl 9 Zf 0 none), (V.int .i64 (gi r401.1 3)), (V.sl 10 Zd 0 none), (V.sl 11 Ze 0 none)]) r401.2 (gl r388.1 1) (gl r388.1 2) (gl r388.1 4) (gl r388.1 5) (gl r401.1 1) (gl r401.1 2) (gl r401.1 4) (gl r401.1 5)) fun r402 =>
    bif (Nat.beq r402.1 0) then
      some r402.2.1
    else Option.bind (ZT ((((r402.2.2.2.2.2.1.length : Nat) : Int) - r402.2.2.2.1).toNat + 1) r402.2.2.1 r402.2.2.2.1 (V.agg [(V.int .i64 (gi r402.2.2.2.2.1 0)), (V.sl 3 Zg 0 none), (V.sl 4 Zf 0 none), (V.int .i64 (gi r402.2.2.2.2.1 3)), (V.sl 5 Zd 0 none), (V.sl 6 Ze 0 none)]) r402.2.2.2.2.2.1 (V.agg [(V.int .i64 (gi r402.2.2.2.2.2.2.1 0)), (V.sl 7 Zg 0 none), (V.sl 8 Zf 0 none), (V.int .i64 (gi r402.2.2.2.2.2.2.1 3)), (V.sl 9 Zd 0 none), (V.sl 10 Ze 0 none)]) r402.2.2.2.2.2.2.2.1 r402.2.2.2.2.2.2.2.2.1 r402.2.2.2.2.2.2.2.2.2.1 r402.2.2.2.2.2.2.2.2.2.2.1 r402.2.2.2.2.2.2.2.2.2.2.2.1 r402.2.2.2.2.2.2.2.2.2.2.2.2.1 r402.2.2.2.2.2.2.2.2.2.2.2.2.2.1 r402.2.2.2.2.2.2.2.2.2.2.2.2.2.2) fun r403 =>
    bif (Nat.beq r403.1 0) then
      some r403.2.1
    else Option.bind (Zbs (V.agg [(V.int .i64 (gi r403.2.2.2.2.2.1 0)), (V.inl Zg r403.2.2.2.2.2.2.2.2.2.2.1), (V.inl Zf r403.2.2.2.2.2.2.2.2.2.2.2.1), (V.int .i64 (gi r403.2.2.2.2.2.1 3)), (V.inl Zd r403.2.2.2.2.2.2.2.2.2.2.2.2.1), (V.inl Ze r403.2.2.2.2.2.2.2.2.2.2.2.2.2)]) (V.agg [(V.int .i64 (gi r403.2.2.2.1 0)), (V.inl Zg r403.2.2.2.2.2.2.1), (V.inl Zf r403.2.2.2.2.2.2.2.1), (V.int .i64 (gi r403.2.2.2.1 3)), (V.inl Zd r403.2.2.2.2.2.2.2.2.1), (V.inl Ze r403.2.2.2.2.2.2.2.2.2.1)])) fun r404 =>
    bif r404 then
      bif (decide (((r403.2.2.2.2.1.length : Nat) : Int) = ((r403.2.2.1.length : Nat) : Int))) then
        some Zgl
      else bif (Zm ((r403.2.2.2.2.1.length : Nat) : Int) r403.2.2.1.length) then
        Option.bind (Zcm (V.agg [(V.int .i64 (gi (rd r403.2.2.1 (((r403.2.2.2.2.1.length : Nat) : Int).toNat)) 1)), (V.int .i64 (gi (rd r403.2.2.1 (((r403.2.2.2.2.1.length : Nat) : Int).toNat)) 2)), (V.int .i64 (gi (rd r403.2.2.1 (((r403.2.2.2.2.1.length : Nat) : Int).toNat)) 3)), (V.inl Zb (gl (rd r403.2.2.1 (((r403.2.2.2.2.1.length : Nat) : Int).toNat)) 4)), (V.inl Zb (gl (rd r403.2.2.1 (((r403.2.2.2.2.1.length : Nat) : Int).toNat)) 5)), (V.int .i64 (gi (rd r403.2.2.1 (((r403.2.2.2.2.1.length : Nat) : Int).toNat)) 6))])) fun r405 =>
        bif (!r405) then
          some Zgl
        else some false
      else none
    else some false
  else none
def ZcJ : Nat → List V → Int → V → Option (Nat × Int)
  | 0, _, _, _ => none
  | k_ + 1, key1, i5, b0 =>
    bif (decide (i5 < (((gl b0 2).length : Nat) : Int))) then
      bif (Zm i5 ((gl b0 2).length)) then
        bif (Zbd ((gl (rd (gl b0 2) i5.toNat) 0).map Za5) (key1.map Za5)) then
          some (0, i5)
        else ZcJ k_ key1 (IntKind.i64.wrap (i5 + 1)) (Zc b0)
      else none
    else some (1, 0)
def Ziv (s : V) (key : List V) : Option (Int) :=
  Option.bind (ZcJ (((((gl (Zc s) 2).length : Nat) : Int) - 0).toNat + 1) key 0 (Zc s)) fun r533 =>
  bif (Nat.beq r533.1 0) then
    some r533.2
  else some (-1)
def ZcK : Nat → Int → Int → V → Option (Nat × Int)
  | 0, _, _, _ => none
  | k_ + 1, id1, i5, b0 =>
    bif (decide (i5 < (((gl b0 4).length : Nat) : Int))) then
      bif (Zm i5 ((gl b0 4).length)) then
        bif (decide ((gi (rd (gl b0 4) i5.toNat) 0) = id1)) then
          some (0, i5)
        else ZcK k_ id1 (IntKind.i64.wrap (i5 + 1)) (Zc b0)
      else none
    else some (1, 0)
def Ziw (s : V) (id : Int) : Option (Int) :=
  Option.bind (ZcK (((((gl (Zc s) 4).length : Nat) : Int) - 0).toNat + 1) id 0 (Zc s)) fun r542 =>
  bif (Nat.beq r542.1 0) then
    some r542.2
  else some (-1)
end Go.Eng.R
open Go Go.Eng Go.Proofs
namespace Go.Eng.R
theorem tab_ok : Zs Tryz.prog tab := Zob (by kernel_rfl)
theorem mixed : Tryz.prog.follows .mixedOrders = true := by kernel_rfl
theorem base : Base Tryz.prog tab := ⟨tab_ok, mixed⟩
def l0 (x : V) : List V := [(V.inl Zb (gl x 0)), (V.int .i64 (gi x 1)), (V.int .i64 (gi x 2))]
def h1 (x : V) : V := V.agg [(V.int .i64 (gi x 0)), (V.rr Zb true (gl x 1)), (V.inl Zb (gl x 2)), (V.int .i64 (gi x 3))]
def h2 (x : V) : V := V.agg [(V.int .i64 (gi x 0)), (V.int .i64 (gi x 1)), (V.int .i64 (gi x 2)), (V.rr Zb true (gl x 3)), (V.inl Zb (gl x 4)), (V.int .i64 (gi x 5))]
def q3 : List S1 := [.dead, .dead, .dead, (.rr Zb true), (.inl Zb)]
def q4 : List S1 := [(.int .i64), (.inl Zb), (.inl Zb), (.int .i64)]
def q5 : List S1 := [(.int .i64), (.int .i64), (.int .i64), (.inl Zb), (.inl Zb), (.int .i64)]
def h6 (x : V) : V := V.agg [(V.int .i64 (gi x 0)), (V.int .i64 (gi x 1)), (V.int .i64 (gi x 2)), (V.rr Zb true (gl x 3)), (V.rr Zb true (gl x 4)), (V.int .i64 (gi x 5))]
def q7 : List S1 := [.dead, .dead, .dead, (.rr Zb true), (.rr Zb true)]
def q8 : List S1 := [(.int .i64), (.int .i64), (.int .i64), (.int .i64)]
def q9 : List S1 := [(.int .i64), (.inl Zg), (.inl Zf), (.int .i64), (.inl Zd), (.inl Ze)]
def q10 : List S1 := [(.inl Zb), (.inl Zb), (.int .i64), (.int .i64)]
def l11 (x : V) : List V := [(V.int .i64 (gi x 0)), (V.sl 1 Zg 0 none), (V.sl 2 Zf 0 none), (V.int .i64 (gi x 3)), (V.sl 3 Zd 0 none), (V.sl 4 Ze 0 none)]
def q12 : List S1 := [(.int .i64), (.sl 1 Zg), (.sl 2 Zf), (.int .i64), (.sl 3 Zd), (.sl 4 Ze)]
def q13 : List S1 := [(.int .i64), (.rr Zg true), (.rr Zf false), (.int .i64), (.rr Zd true), (.rr Ze true)]
def l14 (x : V) : List V := [(V.int .i64 (gi x 0)), (V.rr Zg true (gl x 1)), (V.rr Zf false (gl x 2)), (V.int .i64 (gi x 3)), (V.rr Zd true (gl x 4)), (V.rr Ze true (gl x 5))]
def q15 : List S1 := [.dead, (.rr Zg true), (.rr Zf false), .dead, (.rr Zd true), (.rr Ze true)]
def l16 (x : V) : List V := [(V.int .i64 (gi x 0)), (V.sl 3 Zg 0 none), (V.sl 4 Zf 0 none), (V.int .i64 (gi x 3)), (V.sl 5 Zd 0 none), (V.sl 6 Ze 0 none)]
def l17 (x : V) : List V := [(V.int .i64 (gi x 0)), (V.sl 7 Zg 0 none), (V.sl 8 Zf 0 none), (V.int .i64 (gi x 3)), (V.sl 9 Zd 0 none), (V.sl 10 Ze 0 none)]
def q18 : List S1 := [(.int .i64), (.sl 3 Zg), (.sl 4 Zf), (.int .i64), (.sl 5 Zd), (.sl 6 Ze)]
def q19 : List S1 := [(.int .i64), (.sl 7 Zg), (.sl 8 Zf), (.int .i64), (.sl 9 Zd), (.sl 10 Ze)]
def h20 (x : V) : V := V.agg [(V.int .i64 (gi x 0)), (V.rr Zg true (gl x 1)), (V.rr Zf false (gl x 2)), (V.int .i64 (gi x 3)), (V.rr Zd true (gl x 4)), (V.rr Ze true (gl x 5))]
def l21 (x : V) : List V := [(V.int .i64 (gi x 0)), (V.inl Zg (gl x 1)), (V.inl Zf (gl x 2)), (V.int .i64 (gi x 3)), (V.inl Zd (gl x 4)), (V.inl Ze (gl x 5))]
def l22 (x : V) : List V := [(V.int .i64 (gi x 0)), (V.sl 2 Zg 0 none), (V.sl 3 Zf 0 none), (V.int .i64 (gi x 3)), (V.sl 4 Zd 0 none), (V.sl 5 Ze 0 none)]
def l23 (x : V) : List V := [(V.int .i64 (gi x 0)), (V.sl 6 Zg 0 none), (V.sl 7 Zf 0 none), (V.int .i64 (gi x 3)), (V.sl 8 Zd 0 none), (V.sl 9 Ze 0 none)]
def q24 : List S1 := [(.int .i64), (.sl 2 Zg), (.sl 3 Zf), (.int .i64), (.sl 4 Zd), (.sl 5 Ze)]
def q25 : List S1 := [(.int .i64), (.sl 6 Zg), (.sl 7 Zf), (.int .i64), (.sl 8 Zd), (.sl 9 Ze)]
def q26 : List S1 := [(.int .i64), (.sl 3 Zg), (.sl 2 Zf), (.int .i64), (.sl 4 Zd), (.sl 5 Ze)]
def h27 (x : V) : V := V.agg [(V.int .i64 (gi x 0)), (V.rr Zg false (gl x 1)), (V.rr Zf false (gl x 2)), (V.int .i64 (gi x 3)), (V.rr Zd true (gl x 4)), (V.rr Ze true (gl x 5))]
def q28 : List S1 := [.dead, (.rr Zg false), (.rr Zf false), .dead, (.rr Zd true), (.rr Ze true)]
def q29 : List S1 := [(.int .i64), (.rr Zg false), (.rr Zf false), (.int .i64), (.rr Zd true), (.rr Ze true)]
def l30 (x : V) : List V := [(V.int .i64 (gi x 0)), (V.rr Zg false (gl x 1)), (V.rr Zf false (gl x 2)), (V.int .i64 (gi x 3)), (V.rr Zd true (gl x 4)), (V.rr Ze true (gl x 5))]
def q31 : List S1 := [(.int .i64), (.sl 4 Zg), (.sl 5 Zf), (.int .i64), (.sl 6 Zd), (.sl 7 Ze)]
def q32 : List S1 := [(.int .i64), (.sl 8 Zg), (.sl 9 Zf), (.int .i64), (.sl 10 Zd), (.sl 11 Ze)]
end Go.Eng.R
open Go Go.Eng Go.Proofs
namespace Go.Eng.R
set_option maxHeartbeats 4000000 in
set_option maxRecDepth 1000000 in
theorem cmp84 : CmpOk Tryz.prog 84 := by
  intro v1 v2 c w h
  have hcall : (callFunc 158 #[v1, v2]).run Tryz.prog w = .ok (.value (.int .i64 c)) w := by
    rw [run_callFunc_extern Tryz.func158 (by kernel_rfl) (by kernel_rfl) (by kernel_rfl) (e := Extern.BytealgCompare.compare) (by kernel_rfl), h]
    rfl
  clear h
  go_enter Tryz.func84, Tryz.ntmps84
  go_wp2_with (simp only [hcall])
  all_goals (go_ret; exact ⟨rfl, .refl _ _⟩)
theorem Zgm : (Tryz.prog.info? 143).map (·.size) = some 4 := by kernel_rfl
theorem sz143 : ∀ w, (Go.sizeOf 143).run Tryz.prog w = .ok 4 w := fun w => by kernel_rfl
theorem zv143 : ∀ w, (zeroValue 143).run Tryz.prog w = .ok (Value.agg #[.slice none 0 0, .slice none 0 0, .int .i64 0, .int .i64 0]) w := fun w => by kernel_rfl
theorem info143 : (Tryz.prog.info? 143).map (fun i => (i.zero, i.size, i.bytes)) = some (some (Value.agg #[.slice none 0 0, .slice none 0 0, .int .i64 0, .int .i64 0]), 4, 64) := by kernel_rfl
set_option maxHeartbeats 4000000 in
set_option maxRecDepth 1000000 in
theorem ZmE (w : World) (g n cap i h caph : Nat) (cur curh : Array Value) (hg : w.heap[g]? = some (.cells cur 143 (0, 0))) (hs : cur.size = cap * 4) (hcm : cap ≤ maxLen) (h1 : Zdb (cur.toList.take (n * 4)))
    (hh : w.heap[h]? = some (.cells curh 143 (0, 0))) (hhs : curh.size = caph * 4) (hc1 : 1 ≤ caph) (hne : h ≠ g) (h1h : Zdb (curh.toList.take 4)) (hi : i < n) (hroom : n + 1 ≤ cap) :
    Calls Tryz.prog 230 #[.slice (some ⟨g, 0, none⟩) n cap, .int .i64 i, .slice (some ⟨h, 0, none⟩) 1 caph] w fun e w' => e = .returned (.slice (some ⟨g, 0, none⟩) (n + 1) cap) ∧
      ∃ cur' : Array Value, w'.heap[g]? = some (.cells cur' 143 (0, 0)) ∧ cur'.size = cap * 4 ∧ cur'.toList.take ((n + 1) * 4) = (cur.toList.take (n * 4)).take (i * 4) ++ curh.toList.take 4 ++ (cur.toList.take (n * 4)).drop (i * 4) ∧ KeptBut [g] w w' := by
  have hcmx : cap ≤ 9223372036854775807 := hcm
  have hz2 : ¬ ((i : Int) = (n : Int)) := by omega
  have hov : ∀ lb cb, (callFunc 256 #[.slice (some ⟨h, 0, none⟩) 1 caph, .slice (some ⟨g, (i + 1) * 4, none⟩) lb cb]).run Tryz.prog w = .ok (.value (.bool false)) w := fun lb cb => by
    rw [run_callFunc_extern Tryz.func256 (by kernel_rfl) (by kernel_rfl) (by kernel_rfl) (e := Extern.SlicesOverlaps.overlaps #[38, 38] #[4]) (by kernel_rfl),
      Lib.run_overlaps_apart w 38 4 143 Tryz.underlying38 4 sz143 ⟨h, 0, none⟩ ⟨g, (i + 1) * 4, none⟩ 1 caph lb cb hne 143 143 curh.size cur.size (by simp [World.shape?, hh]) (by simp [World.shape?, hg]) (by omega) (by simp [World.frozen?, hh]) (by simp [World.frozen?, hh])]
    rfl
  obtain ⟨tl, htl⟩ : ∃ tl, tl = (cur.toList.drop (i * 4)).take ((n - i) * 4) := ⟨_, rfl⟩
  have htll : tl.length = (n - i) * 4 := by rw [htl]; simp; omega
  have htl1 : ∀ v ∈ tl, v.oneCell' = true := fun v hv => h1 v (by
    rw [htl, show (cur.toList.drop (i * 4)).take ((n - i) * 4) = (cur.toList.take (n * 4)).drop (i * 4) from by rw [List.drop_take]; congr 1; omega] at hv
    exact List.mem_of_mem_drop hv)
  obtain ⟨c1, hc1'⟩ : ∃ c1, c1 = (cur.toList.take ((i + 1) * 4) ++ tl ++ cur.toList.drop ((i + 1) * 4 + tl.length)).toArray := ⟨_, rfl⟩
  have hc1s : c1.size = cap * 4 := by rw [hc1']; simp; omega
  have hcp1 : ∀ ty dc sc, (Builtin.copy_ #[38, 38] ty #[.slice (some ⟨g, (i + 1) * 4, none⟩) (n + 1 - (i + 1)) dc, .slice (some ⟨g, i * 4, none⟩) (n + 1 - i) sc]).run Tryz.prog w.drew = .ok (goInt (Nat.min (n + 1 - i) (n + 1 - (i + 1)))) (w.drew.setRow g c1) := fun ty dc sc => by
    rw [hc1']
    exact Zcj w.drew 38 38 ty 143 4 g ((i + 1) * 4) (n + 1 - (i + 1)) dc ⟨g, i * 4, none⟩ (n + 1 - i) sc cur 143 tl Tryz.underlying38 Zgm hg (by rw [htll]; simp only [Nat.min_def]; split <;> omega) (by rw [htl]; exact ZaM (w := w.drew) hg (by omega)) (by rw [htll]; omega) htl1
  obtain ⟨W1, hW1⟩ : ∃ W1, W1 = w.drew.setRow g c1 := ⟨_, rfl⟩
  rw [← hW1] at hcp1
  have hg1 : W1.heap[g]? = some (.cells c1 143 (0, 0)) := by rw [hW1]; exact setRow_heap _ g cur _ 143 _ hg
  have hh1 : W1.heap[h]? = some (.cells curh 143 (0, 0)) := by
    rw [hW1, ← hh]
    exact (KeptBut.setRow (w := w.drew) (F := [g]) (by simp) c1).block h (by have := (Array.getElem?_eq_some_iff.1 hh).1; exact this) (by simp [hne])
  obtain ⟨c2, hc2⟩ : ∃ c2, c2 = (c1.toList.take (i * 4) ++ curh.toList.take 4 ++ c1.toList.drop (i * 4 + (curh.toList.take 4).length)).toArray := ⟨_, rfl⟩
  have hyl : (curh.toList.take 4).length = 4 := by simp; omega
  have hcp2 : ∀ ty dc, (Builtin.copy_ #[38, 38] ty #[.slice (some ⟨g, i * 4, none⟩) (n + 1 - i) dc, .slice (some ⟨h, 0, none⟩) 1 caph]).run Tryz.prog W1 = .ok (goInt (Nat.min 1 (n + 1 - i))) (W1.setRow g c2) := fun ty dc => by
    rw [hc2]
    exact Zcj W1 38 38 ty 143 4 g (i * 4) (n + 1 - i) dc ⟨h, 0, none⟩ 1 caph c1 143 (curh.toList.take 4) Tryz.underlying38 Zgm hg1 (by rw [hyl]; simp only [Nat.min_def]; split <;> omega) (by have := ZaM (o := 0) (m := 4) hh1 (by omega); simpa using this) (by rw [hyl]; omega) h1h
  have hpost : ∃ cur' : Array Value, (W1.setRow g c2).heap[g]? = some (.cells cur' 143 (0, 0)) ∧ cur'.size = cap * 4 ∧ cur'.toList.take ((n + 1) * 4) = (cur.toList.take (n * 4)).take (i * 4) ++ curh.toList.take 4 ++ (cur.toList.take (n * 4)).drop (i * 4) ∧ KeptBut [g] w (W1.setRow g c2) := by
    refine ⟨c2, setRow_heap W1 g c1 _ 143 _ hg1, ?_, ?_, ?_⟩
    · rw [hc2]; simp; omega
    · have q := ZlK (cur := cur.toList) (y := curh.toList.take 4) (tl := tl) (c1 := c1.toList) (c2 := c2.toList) (a := i * 4) (s := 4) (by simp; omega) hyl (by rw [hc1', show i * 4 + 4 = (i + 1) * 4 from by omega]) (by rw [hc2, hyl])
      rw [show (n + 1) * 4 = i * 4 + 4 + tl.length from by rw [htll]; omega, q, htl, show (n - i) * 4 = n * 4 - i * 4 from by omega, ZjM, List.take_take, Nat.min_eq_left (by omega)]
    · rw [hW1]; exact ((KeptBut.refl _ w).drew.trans (KeptBut.setRow (by simp) _)).trans (KeptBut.setRow (by simp) _)
  have hw1 : IntKind.i64.wrap ((i : Int) + 1) = (i : Int) + 1 := by rw [IntKind.wrap_i64]; omega
  have hw2 : IntKind.i64.wrap ((n : Int) + 1) = (n : Int) + 1 := by rw [IntKind.wrap_i64]; omega
  have hb1 : ¬ ((cap : Int) < (n : Int) + 1) := by omega
  have hb2 : ¬ (cap = i + 1) := by omega
  have hb3 : (i : Int) ≤ (n : Int) := by omega
  have hb4 : ¬ (cap = i) := by omega
  have hb5 : (i : Int) ≤ (n : Int) + 1 := by omega
  have hb6 : (i : Int) + 1 ≤ (n : Int) + 1 := by omega
  have hb7 : (n : Int) + 1 ≤ (cap : Int) := by omega
  have hb8 : (0 : Int) ≤ (i : Int) + 1 := by omega
  have hb9 : (0 : Int) ≤ (n : Int) + 1 := by omega
  have ht1 : ((i : Int) + 1).toNat = i + 1 := by omega
  have ht2 : ((n : Int) + 1).toNat = n + 1 := by omega
  clear hc2 hW1 hc1' htl h1 h1h
  go_enter Tryz.func230, Tryz.ntmps230
  go_wp2_with (simp only [hov])
  go_region_law (refine ZeF rfl _ _ 38 38 rfl (.slice (some ⟨g, (i + 1) * 4, none⟩) (n + 1 - (i + 1)) (cap - (i + 1))) (.slice (some ⟨g, i * 4, none⟩) (n + 1 - i) (cap - i)) (by simp [Act.eval, Act.put]) (by simp [Act.eval, Act.put]) (hcp1 _ _ _) ?_)
  go_wp2_with (at_builtin; refine ZdN rfl _ _ 38 38 rfl _ _ rfl rfl (hcp2 _ _) ?_)
  go_ret
  exact ⟨rfl, hpost⟩
set_option maxHeartbeats 4000000 in
set_option maxRecDepth 1000000 in
theorem ZmF (w : World) (g n cap i h caph : Nat) (cur curh : Array Value) (hg : w.heap[g]? = some (.cells cur 143 (0, 0))) (hs : cur.size = cap * 4) (hcm : cap ≤ maxLen) (h1 : Zdb (cur.toList.take (n * 4)))
    (hh : w.heap[h]? = some (.cells curh 143 (0, 0))) (hhs : curh.size = caph * 4) (hc1 : 1 ≤ caph) (h1h : Zdb (curh.toList.take 4)) (hi : i < n) (hn : n ≤ cap) (hroom : cap < n + 1) (hbig : (n + 1) * 64 ≤ 140737488355328) :
    Calls Tryz.prog 230 #[.slice (some ⟨g, 0, none⟩) n cap, .int .i64 i, .slice (some ⟨h, 0, none⟩) 1 caph] w fun e w' => ∃ cap', e = .returned (.slice (some ⟨w.heap.size, 0, none⟩) (n + 1) cap') ∧ n + 1 ≤ cap' ∧ cap' ≤ maxLen ∧
      ∃ cur' : Array Value, w'.heap[w.heap.size]? = some (.cells cur' 143 (0, 0)) ∧ cur'.size = cap' * 4 ∧ cur'.toList.take ((n + 1) * 4) = (cur.toList.take (n * 4)).take (i * 4) ++ curh.toList.take 4 ++ (cur.toList.take (n * 4)).drop (i * 4) ∧ KeptBut [] w w' := by
  have hcmx : cap ≤ 9223372036854775807 := hcm
  have hz2 : ¬ ((i : Int) = (n : Int)) := by omega
  have hgw : g < w.heap.size := (Array.getElem?_eq_some_iff.1 hg).1
  have hhw : h < w.heap.size := (Array.getElem?_eq_some_iff.1 hh).1
  obtain ⟨i0, hi0, hz0, hzs, hzb⟩ := info_parts info143
  have hkk : (n : Int) + 1 - (i : Int) = ((n + 1 - i : Nat) : Int) := by omega
  have hik : i + (n + 1 - i) = n + 1 := by omega
  obtain ⟨olds, hol⟩ : ∃ olds, olds = cur.toList.take (i * 4) := ⟨_, rfl⟩
  have holl : olds.length = i * 4 := by rw [hol]; simp; omega
  have hold : (Builtin.firstCells i0.size i (.slice (some ⟨g, 0, none⟩) i cap)).run Tryz.prog w.drew = .ok olds.toArray w.drew := by
    rw [hzs]
    refine run_firstCells_some w.drew 4 i ⟨g, 0, none⟩ i cap olds holl fun j v hj => ?_
    have := ZaM (o := 0) (m := i * 4) (w := w.drew) hg (by omega) j v (by rw [List.drop_zero, ← hol]; exact hj)
    exact this
  obtain ⟨G, hG⟩ : ∃ G, G = grownCap w (n + 1) cap 143 := ⟨_, rfl⟩
  obtain ⟨ROW, hROW⟩ : ∃ ROW : Array Value, ROW = olds.toArray ++ Builtin.zeroCells (Value.agg #[.slice none 0 0, .slice none 0 0, .int .i64 0, .int .i64 0]).cells (n + 1 - i) ++ Builtin.zeroCells (Value.agg #[.slice none 0 0, .slice none 0 0, .int .i64 0, .int .i64 0]).cells (G - (n + 1)) := ⟨_, rfl⟩
  have hrz : ∀ ty, (Builtin.append_ #[38, 3] ty #[.slice (some ⟨g, 0, none⟩) i cap, .int .i64 ((n : Int) + 1 - (i : Int))]).run Tryz.prog w =
      .ok (.slice (some ⟨w.heap.size, 0, none⟩) (n + 1) G) (w.drew.alloc (.cells ROW 143)) := fun ty => by
    have h := Lib.run_append_grow_zeros w 38 3 ty 143 i0 _ .i64 .i64 Tryz.underlying38 Tryz.underlying3 hi0 hz0 (some ⟨g, 0, none⟩) i cap olds hold (n + 1 - i) (by omega) (by omega) (by omega) (by omega) (by rw [hzb]; omega) (by rw [hzb, hik]; exact growslice_fits hroom hbig)
    rw [hik, ← hG, ← hROW] at h
    rw [hkk]
    exact h
  have hGn : n + 1 ≤ G := by rw [hG]; exact grownCap_ge w _ _ _
  have hGm : G ≤ maxLen := by rw [hG]; exact grownCap_le_maxLen w (n + 1) cap 143 (by unfold maxLen; omega)
  have hG63 : G ≤ 9223372036854775807 := hGm
  have hRs : ROW.size = G * 4 := by
    rw [hROW]; simp only [Array.size_append, List.size_toArray, size_zeroCells, holl]
    rw [show (Value.agg #[.slice none 0 0, .slice none 0 0, .int .i64 0, .int .i64 0]).cells.size = 4 from rfl]; omega
  obtain ⟨W1, hW1⟩ : ∃ W1, W1 = w.drew.alloc (.cells ROW 143) := ⟨_, rfl⟩
  rw [← hW1] at hrz
  have hN1 : W1.heap[w.heap.size]? = some (.cells ROW 143 (0, 0)) := by rw [hW1]; exact heap_alloc_new w.drew _
  have hk1 : KeptBut [] w W1 := by rw [hW1]; exact (KeptBut.refl _ w).drew.alloc _
  have hyl : (curh.toList.take 4).length = 4 := by simp; omega
  obtain ⟨c2, hc2⟩ : ∃ c2, c2 = (ROW.toList.take (i * 4) ++ curh.toList.take 4 ++ ROW.toList.drop (i * 4 + (curh.toList.take 4).length)).toArray := ⟨_, rfl⟩
  have hc2s : c2.size = G * 4 := by rw [hc2]; simp; omega
  have hcpA : ∀ (W : World), W.heap = W1.heap → ∀ ty dc, (Builtin.copy_ #[38, 38] ty #[.slice (some ⟨w.heap.size, i * 4, none⟩) (n + 1 - i) dc, .slice (some ⟨h, 0, none⟩) 1 caph]).run Tryz.prog W = .ok (goInt (Nat.min 1 (n + 1 - i))) (W.setRow w.heap.size c2) := fun W hW ty dc => by
    rw [hc2]
    exact Zcj W 38 38 ty 143 4 w.heap.size (i * 4) (n + 1 - i) dc ⟨h, 0, none⟩ 1 caph ROW 143 (curh.toList.take 4) Tryz.underlying38 Zgm (by rw [hW]; exact hN1) (by rw [hyl]; simp only [Nat.min_def]; split <;> omega)
      (by have := ZaM (w := W) (o := 0) (m := 4) (cur := curh) (T := 143) (g := h) (by rw [hW, hk1.block h hhw (by simp)]; exact hh) (by omega); simpa using this) (by rw [hyl]; omega) h1h
  obtain ⟨tl, htl⟩ : ∃ tl, tl = (cur.toList.drop (i * 4)).take ((n - i) * 4) := ⟨_, rfl⟩
  have htll : tl.length = (n - i) * 4 := by rw [htl]; simp; omega
  have htl1 : ∀ v ∈ tl, v.oneCell' = true := fun v hv => h1 v (by
    rw [htl, show (cur.toList.drop (i * 4)).take ((n - i) * 4) = (cur.toList.take (n * 4)).drop (i * 4) from by rw [List.drop_take]; congr 1; omega] at hv
    exact List.mem_of_mem_drop hv)
  obtain ⟨W2, hW2⟩ : ∃ W2, W2 = W1.setRow w.heap.size c2 := ⟨_, rfl⟩
  have hN2 : W2.heap[w.heap.size]? = some (.cells c2 143 (0, 0)) := by rw [hW2]; exact setRow_heap _ _ ROW _ 143 _ hN1
  have hk2 : KeptBut [w.heap.size] w W2 := by rw [hW2]; exact (hk1.mono (by simp)).trans (KeptBut.setRow (by simp) _)
  obtain ⟨c3, hc3⟩ : ∃ c3, c3 = (c2.toList.take ((i + 1) * 4) ++ tl ++ c2.toList.drop ((i + 1) * 4 + tl.length)).toArray := ⟨_, rfl⟩
  have hcpB : ∀ (W : World), W.heap = W2.heap → ∀ ty dc sc, (Builtin.copy_ #[38, 38] ty #[.slice (some ⟨w.heap.size, (i + 1) * 4, none⟩) (n + 1 - (i + 1)) dc, .slice (some ⟨g, i * 4, none⟩) (n - i) sc]).run Tryz.prog W = .ok (goInt (Nat.min (n - i) (n + 1 - (i + 1)))) (W.setRow w.heap.size c3) := fun W hW ty dc sc => by
    rw [hc3]
    exact Zcj W 38 38 ty 143 4 w.heap.size ((i + 1) * 4) (n + 1 - (i + 1)) dc ⟨g, i * 4, none⟩ (n - i) sc c2 143 tl Tryz.underlying38 Zgm (by rw [hW]; exact hN2) (by rw [htll]; simp only [Nat.min_def]; split <;> omega)
      (by rw [htl]; exact ZaM (w := W) (T := 143) (by rw [hW, hk2.block g hgw (by simp; omega)]; exact hg) (by omega)) (by rw [htll]; omega) htl1
  have hpost : ∀ W, W.heap = W2.heap → KeptBut [w.heap.size] w W → ∃ cur' : Array Value, (W.setRow w.heap.size c3).heap[w.heap.size]? = some (.cells cur' 143 (0, 0)) ∧ cur'.size = G * 4 ∧ cur'.toList.take ((n + 1) * 4) = (cur.toList.take (n * 4)).take (i * 4) ++ curh.toList.take 4 ++ (cur.toList.take (n * 4)).drop (i * 4) ∧ KeptBut [] w (W.setRow w.heap.size c3) := by
    intro W hW hk
    refine ⟨c3, setRow_heap W _ c2 _ 143 _ (by rw [hW]; exact hN2), ?_, ?_, (hk.trans (KeptBut.setRow (by simp) _)).fresh (by simp)⟩
    · rw [hc3]; simp; omega
    · have q := ZkF (row := ROW.toList) (y := curh.toList.take 4) (tl := tl) (c2 := c2.toList) (c3 := c3.toList) (a := i * 4) (s := 4) (by simp; omega) hyl (by rw [hc2, hyl]) (by rw [hc3, show i * 4 + 4 = (i + 1) * 4 from by omega])
      rw [show (n + 1) * 4 = i * 4 + 4 + tl.length from by rw [htll]; omega, q, htl, show (n - i) * 4 = n * 4 - i * 4 from by omega, ZjM, List.take_take, Nat.min_eq_left (by omega), hROW]
      congr 2
      simp only [Array.toList_append, List.append_assoc]
      exact (List.take_left' holl).trans hol
  have hw1 : IntKind.i64.wrap ((i : Int) + 1) = (i : Int) + 1 := by rw [IntKind.wrap_i64]; omega
  have hw2 : IntKind.i64.wrap ((n : Int) + 1) = (n : Int) + 1 := by rw [IntKind.wrap_i64]; omega
  have hw3 : IntKind.i64.wrap ((n : Int) + 1 - (i : Int)) = (n : Int) + 1 - (i : Int) := by rw [IntKind.wrap_i64]; omega
  have hz3 : (cap : Int) < (n : Int) + 1 := by omega
  have hGi : ¬ (G = i) := by omega
  have hGi1 : ¬ (G = i + 1) := by omega
  have hci : ¬ (cap = i) := by omega
  have hb3 : (i : Int) ≤ (n : Int) := by omega
  have hb5 : (i : Int) ≤ (n : Int) + 1 := by omega
  have hb6 : (i : Int) + 1 ≤ (n : Int) + 1 := by omega
  have hb8 : (0 : Int) ≤ (i : Int) + 1 := by omega
  have ht1 : ((i : Int) + 1).toNat = i + 1 := by omega
  have hb9 : i ≤ cap := by omega
  have hb10 : (i : Int) ≤ (cap : Int) := by omega
  clear hkk hik hold hROW hG hc2 hc3 htl hol h1 h1h
  go_enter Tryz.func230, Tryz.ntmps230
  go_wp2_with (first
    | (at_builtin; refine Lib.wpList_append_run _ rfl _ _ _ _ rfl _ _ rfl rfl _ _ (hrz _) ?_)
    | (at_builtin; refine ZdN rfl _ _ 38 38 rfl _ _ rfl rfl (hcpA _ rfl _ _) ?_))
  go_region_law (refine ZeF rfl _ _ 38 38 rfl (.slice (some ⟨w.heap.size, (i + 1) * 4, none⟩) (n + 1 - (i + 1)) (G - (i + 1))) (.slice (some ⟨g, i * 4, none⟩) (n - i) (cap - i)) (by simp [Act.eval, Act.put]) (by simp [Act.eval, Act.put]) (hcpB _ (by rw [hW2, hW1]; rfl) _ _ _) ?_)
  go_wp2
  go_ret
  exact ⟨G, rfl, hGn, hGm, hpost _ (by rw [hW2, hW1]; rfl) (by rw [hW2, hW1] at hk2; exact ⟨hk2.os, hk2.tape, hk2.output, hk2.size, hk2.block⟩)⟩
set_option maxHeartbeats 4000000 in
set_option maxRecDepth 1000000 in
theorem Zok : ZlL Tryz.prog 230 143 4 64 := by
  intro w v v2 n xs ys hr hr2 h1 hbig h63
  rcases hr2.2 with ⟨a, rfl, h0⟩ | ⟨h, caph, curh, rfl, hch, hh, hn2, hm2, hs2, hx2⟩
  · omega
  obtain ⟨a, cap, rfl, hnc, hcm⟩ := hr.slice
  have hh := hh.zero (show 143 ≠ 5 by decide)
  have hhw : h < w.heap.size := (Array.getElem?_eq_some_iff.1 hh).1
  have hyl : ys.length = 1 * 4 := hr2.1
  obtain ⟨v', w', hrun, k1, k2, k3⟩ := Ze1 (P := Tryz.prog) (tab := tab) (w := w) (t := 38) (t2 := 38) (e := 143) (ot := 38) Tryz.underlying38 (base.tab 143 _ rfl) (.inl ⟨143, Tryz.underlying38⟩) (n := n) hr (Nat.le_refl n) (xv := .slice (some ⟨h, 0, none⟩) 1 caph) (news := ys) (m := 1) hyl h1
    (fun w' => by simp [Builtin.lenOf]) (fun w' hw' => run_firstCells_some w' 4 1 ⟨h, 0, none⟩ 1 caph ys hyl fun j v hj => by
      have := ZaM (o := 0) (m := 1 * 4) (w := w') (by rw [hw' h hhw]; exact hh) (by omega) j v (by rw [List.drop_zero, hx2]; exact hj)
      exact this) h63 hbig
  have hxl : xs.take (n * 4) = xs := List.take_of_length_le (by rw [hr.1]; exact Nat.le_refl _)
  have k1' : RowIs w' 143 4 (n + 1) v' (xs ++ ys) := by
    have k1 : RowIs w' 143 4 (n + 1) v' (xs.take (n * 4) ++ ys) := k1
    rw [hxl] at k1; exact k1
  clear k1
  cases a with
  | none =>
    go_enter Tryz.func230, Tryz.ntmps230
    go_wp2_with (at_builtin; refine Lib.wpList_append_run _ rfl _ _ _ _ rfl _ _ rfl rfl _ _ hrun ?_)
    all_goals (go_ret; first | exact ⟨v', rfl, k1', k2, k3⟩ | (subst_vars; exact ⟨v', rfl, k1', k2, k3⟩))
  | some a =>
    obtain ⟨ab, ao, asp⟩ := a
    go_enter Tryz.func230, Tryz.ntmps230
    go_wp2_with (at_builtin; refine Lib.wpList_append_run _ rfl _ _ _ _ rfl _ _ rfl rfl _ _ hrun ?_)
    all_goals (go_ret; first | exact ⟨v', rfl, k1', k2, k3⟩ | (subst_vars; exact ⟨v', rfl, k1', k2, k3⟩))
theorem ins230 : ZgP Tryz.prog 230 143 4 64 := ins_ok
  (fun w g n cap i h caph cur curh h1 h2 h3 h4 h5 h6 h7 h8 h9 h10 h11 => ZmE w g n cap i h caph cur curh h1 h2 h3 h4 h5 h6 h7 h8 h9 h10 h11)
  (fun w g n cap i h caph cur curh h1 h2 h3 h4 h5 h6 h7 h8 h9 h10 h11 h12 => ZmF w g n cap i h caph cur curh h1 h2 h3 h4 h5 h6 h7 h8 h9 h10 h11 h12)
  Zok
theorem inf147 : (Tryz.prog.info? 147).map (·.size) = some 2 := by kernel_rfl
theorem zv147 : ∀ w, (zeroValue 147).run Tryz.prog w = .ok (Value.agg #[.slice none 0 0, .int .i64 0]) w := fun w => by kernel_rfl
set_option maxHeartbeats 4000000 in
set_option maxRecDepth 1000000 in
theorem ZnF : Zev Tryz.prog 231 := by
  intro a n cap i w hin hn hcm
  go_enter Tryz.func231, Tryz.ntmps231
  go_wp2
  all_goals (go_ret; exact ⟨rfl, .refl _ _⟩)
set_option maxHeartbeats 4000000 in
set_option maxRecDepth 1000000 in
theorem del231 : ZgO Tryz.prog 231 147 2 := by
  intro g n cap i j cur w hg hs hn hcm h1 hij hj
  have hne : ¬ ((i : Int) = (j : Int)) := by omega
  have hb1 : (i : Int) ≤ (j : Int) := by omega
  have hb2 : (j : Int) ≤ (n : Int) := by omega
  have hb3 : (i : Int) ≤ (n : Int) := by omega
  have hb4 : i ≤ cap := by omega
  have hb5 : j ≤ cap := by omega
  obtain ⟨news, hnews⟩ : ∃ news, news = (cur.toList.drop (j * 2)).take ((n - j) * 2) := ⟨_, rfl⟩
  have hnl : news.length = (n - j) * 2 := by rw [hnews]; simp; omega
  have hsrc : ∀ k v, news[k]? = some v → w.cell? ((⟨g, j * 2, none⟩ : Addr).add k) = some v := by
    rw [hnews]; exact ZaM hg (by omega)
  have hone : ∀ v ∈ news, v.oneCell' = true := fun v hv => h1 v (by
    rw [hnews] at hv
    have : (cur.toList.drop (j * 2)).take ((n - j) * 2) = (cur.toList.take (n * 2)).drop (j * 2) := by
      rw [List.drop_take]; congr 1; omega
    rw [this] at hv
    exact List.mem_of_mem_drop hv)
  obtain ⟨c1, hc1⟩ : ∃ c1, c1 = (cur.toList.take (i * 2) ++ news ++ cur.toList.drop (i * 2 + news.length)).toArray := ⟨_, rfl⟩
  have hap : ∀ (W : World) (a : Addr) (m sc : Nat) (ty : TypeId), W.heap[g]? = w.heap[g]? → m = n - j → (m = 0 ∨ a = ⟨g, j * 2, none⟩) →
      (Builtin.append_ #[39, 39] ty #[.slice (some ⟨g, 0, none⟩) i cap, .slice (some a) m sc]).run Tryz.prog W = .ok (.slice (some ⟨g, 0, none⟩) (i + m) cap) (W.setRow g c1) := by
    intro W a m sc ty hW hm ha
    rw [hm] at ha ⊢
    have hst := run_storeCells_at Tryz.prog g (i * 2) 147 news 0 cur W (hW.trans hg) (by rw [hnl]; omega) hone
    simp only [Nat.add_zero] at hst
    rw [← hc1] at hst
    have hfc : (Builtin.firstCells 2 (n - j) (.slice (some a) (n - j) sc)).run Tryz.prog W = .ok news.toArray W := by
      refine run_firstCells_some (P := Tryz.prog) W 2 (n - j) a (n - j) sc news hnl fun k v hk => ?_
      rcases ha with h | rfl
      · have := (List.getElem?_eq_some_iff.1 hk).1
        rw [hnl] at this; omega
      · have := hsrc k v hk
        rw [← this]
        simp [World.cell?, hW, Addr.add_none]
    have hr : i + (n - j) ≤ cap := by omega
    cases hq : Tryz.prog.info? 147 with
    | none => have := inf147; rw [hq] at this; simp at this
    | some i0 =>
      have hi : i0.size = 2 := by have := inf147; rw [hq] at this; simpa using this
      simp [Builtin.append_, run_underlying Tryz.underlying39, sizeOf, typeInfo, hq, hi, Builtin.lenOf, hr, hfc, Addr.add_none, hst]
  have hc1s : c1.size = cap * 2 := by rw [hc1]; simp; omega
  have hc1t : c1.toList.take ((i + (n - j)) * 2) = (cur.toList.take (n * 2)).take (i * 2) ++ (cur.toList.take (n * 2)).drop (j * 2) := by
    rw [hc1]
    simp only [List.append_assoc]
    rw [← List.append_assoc, show (i + (n - j)) * 2 = (cur.toList.take (i * 2) ++ news).length from by simp [hnl]; omega, List.take_left, hnews, List.take_take, Nat.min_eq_left (by omega), List.drop_take]
    congr 2
    omega
  have hsub : n - (j - i) = i + (n - j) := by omega
  have hz : (Value.agg #[.slice none 0 0, .int .i64 0]).cells.size = 2 := rfl
  have hz1 : ∀ v ∈ (Value.agg #[.slice none 0 0, .int .i64 0]).cells, v.oneCell' = true := by decide
  rw [hsub]
  have hcn : ¬ (cap = i + (n - j)) := by omega
  have hlt : ((i + (n - j) : Nat) : Int) ≤ (n : Int) := by omega
  have hfin : ∀ (W1 : World) (d : Array Value), W1.heap[g]? = some (.cells d 147 (0, 0)) → d.size = cap * 2 → d.toList.take ((i + (n - j)) * 2) = (cur.toList.take (n * 2)).take (i * 2) ++ (cur.toList.take (n * 2)).drop (j * 2) → KeptBut [g] w W1 →
      ∃ W2, (∀ sc, (Builtin.clear_ #[39] 0 #[.slice (some ⟨g, (i + (n - j)) * 2, none⟩) (n - (i + (n - j))) sc]).run Tryz.prog W1 = .ok (.tuple #[]) W2) ∧
        ∃ cur' : Array Value, W2.heap[g]? = some (.cells cur' 147 (0, 0)) ∧ cur'.size = cap * 2 ∧ cur'.toList.take ((i + (n - j)) * 2) = (cur.toList.take (n * 2)).take (i * 2) ++ (cur.toList.take (n * 2)).drop (j * 2) ∧ KeptBut [g] w W2 := by
    intro W1 d e1 e2 e3 e4
    obtain ⟨tl, t1, t2⟩ := ZeE (P := Tryz.prog) W1 39 147 0 _ 2 Tryz.underlying39 zv147 hz hz1 (by omega) g ((i + (n - j)) * 2) (n - (i + (n - j))) (by omega) d 147 e1 (by omega)
    refine ⟨W1.setRow g (d.toList.take ((i + (n - j)) * 2) ++ tl ++ d.toList.drop ((i + (n - j)) * 2 + tl.length)).toArray, t2, (d.toList.take ((i + (n - j)) * 2) ++ tl ++ d.toList.drop ((i + (n - j)) * 2 + tl.length)).toArray, setRow_heap W1 g d _ 147 _ e1, ?_, ?_, e4.trans (KeptBut.setRow (by simp) _)⟩
    · simp; omega
    · rw [← e3, List.append_assoc]
      simp only
      rw [show (i + (n - j)) * 2 = (d.toList.take ((i + (n - j)) * 2)).length from by simp; omega]
      simp
  clear hc1 hnews hz hz1 hnl hsrc hone h1
  by_cases hjn : j = n
  · have hk : cur.toList.take ((i + (n - j)) * 2) = (cur.toList.take (n * 2)).take (i * 2) ++ (cur.toList.take (n * 2)).drop (j * 2) := by
      subst hjn
      rw [Nat.sub_self, Nat.add_zero, List.take_take, Nat.min_eq_left (by omega), List.drop_of_length_le (by simp; omega), List.append_nil]
    obtain ⟨W2, hcl, hpost⟩ := hfin w.drew cur hg hs hk (KeptBut.refl _ w).drew
    have e0 : i + (n - j) = i := by omega
    rw [e0] at hcl hpost hcn ⊢
    clear hfin hc1t hap hk hsub hlt e0
    subst hjn
    by_cases hcj : cap = j
    · subst hcj
      go_enter Tryz.func231, Tryz.ntmps231
      go_wp2
      go_region
      go_wp2_with (at_builtin; refine Zae rfl _ 39 rfl _ rfl (hcl _) ?_)
      go_ret
      exact ⟨rfl, hpost⟩
    · go_enter Tryz.func231, Tryz.ntmps231
      go_wp2
      go_region
      go_wp2_with (at_builtin; refine Zae rfl _ 39 rfl _ rfl (hcl _) ?_)
      go_ret
      exact ⟨rfl, hpost⟩
  · have hcj : ¬ (cap = j) := by omega
    obtain ⟨W2, hcl, hpost⟩ := hfin (w.drew.setRow g c1) c1 (setRow_heap _ g cur _ 147 _ hg) hc1s hc1t ((KeptBut.refl _ w).drew.trans (KeptBut.setRow (by simp) _))
    clear hfin hc1t
    go_enter Tryz.func231, Tryz.ntmps231
    go_wp2
    go_region_law (refine ZdO rfl _ _ 39 39 rfl _ _ (by simp [Act.eval, Act.put]) (by simp [Act.eval, Act.put]) (hap w.drew ⟨g, j * 2, none⟩ (n - j) (cap - j) 39 rfl rfl (Or.inr rfl)) ?_)
    go_wp2_with (at_builtin; refine Zae rfl _ 39 rfl _ rfl (hcl _) ?_)
    go_ret
    exact ⟨rfl, hpost⟩
set_option maxHeartbeats 4000000 in
set_option maxRecDepth 1000000 in
theorem ZjS : Zev Tryz.prog 232 := by
  intro a n cap i w hin hn hcm
  go_enter Tryz.func232, Tryz.ntmps232
  go_wp2
  all_goals (go_ret; exact ⟨rfl, .refl _ _⟩)
set_option maxHeartbeats 4000000 in
set_option maxRecDepth 1000000 in
theorem del232 : ZgO Tryz.prog 232 143 4 := by
  intro g n cap i j cur w hg hs hn hcm h1 hij hj
  have hne : ¬ ((i : Int) = (j : Int)) := by omega
  have hb1 : (i : Int) ≤ (j : Int) := by omega
  have hb2 : (j : Int) ≤ (n : Int) := by omega
  have hb3 : (i : Int) ≤ (n : Int) := by omega
  have hb4 : i ≤ cap := by omega
  have hb5 : j ≤ cap := by omega
  obtain ⟨news, hnews⟩ : ∃ news, news = (cur.toList.drop (j * 4)).take ((n - j) * 4) := ⟨_, rfl⟩
  have hnl : news.length = (n - j) * 4 := by rw [hnews]; simp; omega
  have hsrc : ∀ k v, news[k]? = some v → w.cell? ((⟨g, j * 4, none⟩ : Addr).add k) = some v := by
    rw [hnews]; exact ZaM hg (by omega)
  have hone : ∀ v ∈ news, v.oneCell' = true := fun v hv => h1 v (by
    rw [hnews] at hv
    have : (cur.toList.drop (j * 4)).take ((n - j) * 4) = (cur.toList.take (n * 4)).drop (j * 4) := by
      rw [List.drop_take]; congr 1; omega
    rw [this] at hv
    exact List.mem_of_mem_drop hv)
  obtain ⟨c1, hc1⟩ : ∃ c1, c1 = (cur.toList.take (i * 4) ++ news ++ cur.toList.drop (i * 4 + news.length)).toArray := ⟨_, rfl⟩
  have hap : ∀ (W : World) (a : Addr) (m sc : Nat) (ty : TypeId), W.heap[g]? = w.heap[g]? → m = n - j → (m = 0 ∨ a = ⟨g, j * 4, none⟩) →
      (Builtin.append_ #[38, 38] ty #[.slice (some ⟨g, 0, none⟩) i cap, .slice (some a) m sc]).run Tryz.prog W = .ok (.slice (some ⟨g, 0, none⟩) (i + m) cap) (W.setRow g c1) := by
    intro W a m sc ty hW hm ha
    rw [hm] at ha ⊢
    have hst := run_storeCells_at Tryz.prog g (i * 4) 143 news 0 cur W (hW.trans hg) (by rw [hnl]; omega) hone
    simp only [Nat.add_zero] at hst
    rw [← hc1] at hst
    have hfc : (Builtin.firstCells 4 (n - j) (.slice (some a) (n - j) sc)).run Tryz.prog W = .ok news.toArray W := by
      refine run_firstCells_some (P := Tryz.prog) W 4 (n - j) a (n - j) sc news hnl fun k v hk => ?_
      rcases ha with h | rfl
      · have := (List.getElem?_eq_some_iff.1 hk).1
        rw [hnl] at this; omega
      · have := hsrc k v hk
        rw [← this]
        simp [World.cell?, hW, Addr.add_none]
    have hr : i + (n - j) ≤ cap := by omega
    cases hq : Tryz.prog.info? 143 with
    | none => have := Zgm; rw [hq] at this; simp at this
    | some i0 =>
      have hi : i0.size = 4 := by have := Zgm; rw [hq] at this; simpa using this
      simp [Builtin.append_, run_underlying Tryz.underlying38, sizeOf, typeInfo, hq, hi, Builtin.lenOf, hr, hfc, Addr.add_none, hst]
  have hc1s : c1.size = cap * 4 := by rw [hc1]; simp; omega
  have hc1t : c1.toList.take ((i + (n - j)) * 4) = (cur.toList.take (n * 4)).take (i * 4) ++ (cur.toList.take (n * 4)).drop (j * 4) := by
    rw [hc1]
    simp only [List.append_assoc]
    rw [← List.append_assoc, show (i + (n - j)) * 4 = (cur.toList.take (i * 4) ++ news).length from by simp [hnl]; omega, List.take_left, hnews, List.take_take, Nat.min_eq_left (by omega), List.drop_take]
    congr 2
    omega
  have hsub : n - (j - i) = i + (n - j) := by omega
  have hz : (Value.agg #[.slice none 0 0, .slice none 0 0, .int .i64 0, .int .i64 0]).cells.size = 4 := rfl
  have hz1 : ∀ v ∈ (Value.agg #[.slice none 0 0, .slice none 0 0, .int .i64 0, .int .i64 0]).cells, v.oneCell' = true := by decide
  rw [hsub]
  have hcn : ¬ (cap = i + (n - j)) := by omega
  have hlt : ((i + (n - j) : Nat) : Int) ≤ (n : Int) := by omega
  have hfin : ∀ (W1 : World) (d : Array Value), W1.heap[g]? = some (.cells d 143 (0, 0)) → d.size = cap * 4 → d.toList.take ((i + (n - j)) * 4) = (cur.toList.take (n * 4)).take (i * 4) ++ (cur.toList.take (n * 4)).drop (j * 4) → KeptBut [g] w W1 →
      ∃ W2, (∀ sc, (Builtin.clear_ #[38] 0 #[.slice (some ⟨g, (i + (n - j)) * 4, none⟩) (n - (i + (n - j))) sc]).run Tryz.prog W1 = .ok (.tuple #[]) W2) ∧
        ∃ cur' : Array Value, W2.heap[g]? = some (.cells cur' 143 (0, 0)) ∧ cur'.size = cap * 4 ∧ cur'.toList.take ((i + (n - j)) * 4) = (cur.toList.take (n * 4)).take (i * 4) ++ (cur.toList.take (n * 4)).drop (j * 4) ∧ KeptBut [g] w W2 := by
    intro W1 d e1 e2 e3 e4
    obtain ⟨tl, t1, t2⟩ := ZeE (P := Tryz.prog) W1 38 143 0 _ 4 Tryz.underlying38 zv143 hz hz1 (by omega) g ((i + (n - j)) * 4) (n - (i + (n - j))) (by omega) d 143 e1 (by omega)
    refine ⟨W1.setRow g (d.toList.take ((i + (n - j)) * 4) ++ tl ++ d.toList.drop ((i + (n - j)) * 4 + tl.length)).toArray, t2, (d.toList.take ((i + (n - j)) * 4) ++ tl ++ d.toList.drop ((i + (n - j)) * 4 + tl.length)).toArray, setRow_heap W1 g d _ 143 _ e1, ?_, ?_, e4.trans (KeptBut.setRow (by simp) _)⟩
    · simp; omega
    · rw [← e3, List.append_assoc]
      simp only
      rw [show (i + (n - j)) * 4 = (d.toList.take ((i + (n - j)) * 4)).length from by simp; omega]
      simp
  clear hc1 hnews hz hz1 hnl hsrc hone h1
  by_cases hjn : j = n
  · have hk : cur.toList.take ((i + (n - j)) * 4) = (cur.toList.take (n * 4)).take (i * 4) ++ (cur.toList.take (n * 4)).drop (j * 4) := by
      subst hjn
      rw [Nat.sub_self, Nat.add_zero, List.take_take, Nat.min_eq_left (by omega), List.drop_of_length_le (by simp; omega), List.append_nil]
    obtain ⟨W2, hcl, hpost⟩ := hfin w.drew cur hg hs hk (KeptBut.refl _ w).drew
    have e0 : i + (n - j) = i := by omega
    rw [e0] at hcl hpost hcn ⊢
    clear hfin hc1t hap hk hsub hlt e0
    subst hjn
    by_cases hcj : cap = j
    · subst hcj
      go_enter Tryz.func232, Tryz.ntmps232
      go_wp2
      go_region
      go_wp2_with (at_builtin; refine Zae rfl _ 38 rfl _ rfl (hcl _) ?_)
      go_ret
      exact ⟨rfl, hpost⟩
    · go_enter Tryz.func232, Tryz.ntmps232
      go_wp2
      go_region
      go_wp2_with (at_builtin; refine Zae rfl _ 38 rfl _ rfl (hcl _) ?_)
      go_ret
      exact ⟨rfl, hpost⟩
  · have hcj : ¬ (cap = j) := by omega
    obtain ⟨W2, hcl, hpost⟩ := hfin (w.drew.setRow g c1) c1 (setRow_heap _ g cur _ 143 _ hg) hc1s hc1t ((KeptBut.refl _ w).drew.trans (KeptBut.setRow (by simp) _))
    clear hfin hc1t
    go_enter Tryz.func232, Tryz.ntmps232
    go_wp2
    go_region_law (refine ZdO rfl _ _ 38 38 rfl _ _ (by simp [Act.eval, Act.put]) (by simp [Act.eval, Act.put]) (hap w.drew ⟨g, j * 4, none⟩ (n - j) (cap - j) 38 rfl rfl (Or.inr rfl)) ?_)
    go_wp2_with (at_builtin; refine Zae rfl _ 38 rfl _ rfl (hcl _) ?_)
    go_ret
    exact ⟨rfl, hpost⟩
theorem inf152 : (Tryz.prog.info? 152).map (·.size) = some 2 := by kernel_rfl
theorem zv152 : ∀ w, (zeroValue 152).run Tryz.prog w = .ok (Value.agg #[.int .i64 0, .bool false]) w := fun w => by kernel_rfl
set_option maxHeartbeats 4000000 in
set_option maxRecDepth 1000000 in
theorem ZnG : Zev Tryz.prog 233 := by
  intro a n cap i w hin hn hcm
  go_enter Tryz.func233, Tryz.ntmps233
  go_wp2
  all_goals (go_ret; exact ⟨rfl, .refl _ _⟩)
set_option maxHeartbeats 4000000 in
set_option maxRecDepth 1000000 in
theorem del233 : ZgO Tryz.prog 233 152 2 := by
  intro g n cap i j cur w hg hs hn hcm h1 hij hj
  have hne : ¬ ((i : Int) = (j : Int)) := by omega
  have hb1 : (i : Int) ≤ (j : Int) := by omega
  have hb2 : (j : Int) ≤ (n : Int) := by omega
  have hb3 : (i : Int) ≤ (n : Int) := by omega
  have hb4 : i ≤ cap := by omega
  have hb5 : j ≤ cap := by omega
  obtain ⟨news, hnews⟩ : ∃ news, news = (cur.toList.drop (j * 2)).take ((n - j) * 2) := ⟨_, rfl⟩
  have hnl : news.length = (n - j) * 2 := by rw [hnews]; simp; omega
  have hsrc : ∀ k v, news[k]? = some v → w.cell? ((⟨g, j * 2, none⟩ : Addr).add k) = some v := by
    rw [hnews]; exact ZaM hg (by omega)
  have hone : ∀ v ∈ news, v.oneCell' = true := fun v hv => h1 v (by
    rw [hnews] at hv
    have : (cur.toList.drop (j * 2)).take ((n - j) * 2) = (cur.toList.take (n * 2)).drop (j * 2) := by
      rw [List.drop_take]; congr 1; omega
    rw [this] at hv
    exact List.mem_of_mem_drop hv)
  obtain ⟨c1, hc1⟩ : ∃ c1, c1 = (cur.toList.take (i * 2) ++ news ++ cur.toList.drop (i * 2 + news.length)).toArray := ⟨_, rfl⟩
  have hap : ∀ (W : World) (a : Addr) (m sc : Nat) (ty : TypeId), W.heap[g]? = w.heap[g]? → m = n - j → (m = 0 ∨ a = ⟨g, j * 2, none⟩) →
      (Builtin.append_ #[40, 40] ty #[.slice (some ⟨g, 0, none⟩) i cap, .slice (some a) m sc]).run Tryz.prog W = .ok (.slice (some ⟨g, 0, none⟩) (i + m) cap) (W.setRow g c1) := by
    intro W a m sc ty hW hm ha
    rw [hm] at ha ⊢
    have hst := run_storeCells_at Tryz.prog g (i * 2) 152 news 0 cur W (hW.trans hg) (by rw [hnl]; omega) hone
    simp only [Nat.add_zero] at hst
    rw [← hc1] at hst
    have hfc : (Builtin.firstCells 2 (n - j) (.slice (some a) (n - j) sc)).run Tryz.prog W = .ok news.toArray W := by
      refine run_firstCells_some (P := Tryz.prog) W 2 (n - j) a (n - j) sc news hnl fun k v hk => ?_
      rcases ha with h | rfl
      · have := (List.getElem?_eq_some_iff.1 hk).1
        rw [hnl] at this; omega
      · have := hsrc k v hk
        rw [← this]
        simp [World.cell?, hW, Addr.add_none]
    have hr : i + (n - j) ≤ cap := by omega
    cases hq : Tryz.prog.info? 152 with
    | none => have := inf152; rw [hq] at this; simp at this
    | some i0 =>
      have hi : i0.size = 2 := by have := inf152; rw [hq] at this; simpa using this
      simp [Builtin.append_, run_underlying Tryz.underlying40, sizeOf, typeInfo, hq, hi, Builtin.lenOf, hr, hfc, Addr.add_none, hst]
  have hc1s : c1.size = cap * 2 := by rw [hc1]; simp; omega
  have hc1t : c1.toList.take ((i + (n - j)) * 2) = (cur.toList.take (n * 2)).take (i * 2) ++ (cur.toList.take (n * 2)).drop (j * 2) := by
    rw [hc1]
    simp only [List.append_assoc]
    rw [← List.append_assoc, show (i + (n - j)) * 2 = (cur.toList.take (i * 2) ++ news).length from by simp [hnl]; omega, List.take_left, hnews, List.take_take, Nat.min_eq_left (by omega), List.drop_take]
    congr 2
    omega
  have hsub : n - (j - i) = i + (n - j) := by omega
  have hz : (Value.agg #[.int .i64 0, .bool false]).cells.size = 2 := rfl
  have hz1 : ∀ v ∈ (Value.agg #[.int .i64 0, .bool false]).cells, v.oneCell' = true := by decide
  rw [hsub]
  have hcn : ¬ (cap = i + (n - j)) := by omega
  have hlt : ((i + (n - j) : Nat) : Int) ≤ (n : Int) := by omega
  have hfin : ∀ (W1 : World) (d : Array Value), W1.heap[g]? = some (.cells d 152 (0, 0)) → d.size = cap * 2 → d.toList.take ((i + (n - j)) * 2) = (cur.toList.take (n * 2)).take (i * 2) ++ (cur.toList.take (n * 2)).drop (j * 2) → KeptBut [g] w W1 →
      ∃ W2, (∀ sc, (Builtin.clear_ #[40] 0 #[.slice (some ⟨g, (i + (n - j)) * 2, none⟩) (n - (i + (n - j))) sc]).run Tryz.prog W1 = .ok (.tuple #[]) W2) ∧
        ∃ cur' : Array Value, W2.heap[g]? = some (.cells cur' 152 (0, 0)) ∧ cur'.size = cap * 2 ∧ cur'.toList.take ((i + (n - j)) * 2) = (cur.toList.take (n * 2)).take (i * 2) ++ (cur.toList.take (n * 2)).drop (j * 2) ∧ KeptBut [g] w W2 := by
    intro W1 d e1 e2 e3 e4
    obtain ⟨tl, t1, t2⟩ := ZeE (P := Tryz.prog) W1 40 152 0 _ 2 Tryz.underlying40 zv152 hz hz1 (by omega) g ((i + (n - j)) * 2) (n - (i + (n - j))) (by omega) d 152 e1 (by omega)
    refine ⟨W1.setRow g (d.toList.take ((i + (n - j)) * 2) ++ tl ++ d.toList.drop ((i + (n - j)) * 2 + tl.length)).toArray, t2, (d.toList.take ((i + (n - j)) * 2) ++ tl ++ d.toList.drop ((i + (n - j)) * 2 + tl.length)).toArray, setRow_heap W1 g d _ 152 _ e1, ?_, ?_, e4.trans (KeptBut.setRow (by simp) _)⟩
    · simp; omega
    · rw [← e3, List.append_assoc]
      simp only
      rw [show (i + (n - j)) * 2 = (d.toList.take ((i + (n - j)) * 2)).length from by simp; omega]
      simp
  clear hc1 hnews hz hz1 hnl hsrc hone h1
  by_cases hjn : j = n
  · have hk : cur.toList.take ((i + (n - j)) * 2) = (cur.toList.take (n * 2)).take (i * 2) ++ (cur.toList.take (n * 2)).drop (j * 2) := by
      subst hjn
      rw [Nat.sub_self, Nat.add_zero, List.take_take, Nat.min_eq_left (by omega), List.drop_of_length_le (by simp; omega), List.append_nil]
    obtain ⟨W2, hcl, hpost⟩ := hfin w.drew cur hg hs hk (KeptBut.refl _ w).drew
    have e0 : i + (n - j) = i := by omega
    rw [e0] at hcl hpost hcn ⊢
    clear hfin hc1t hap hk hsub hlt e0
    subst hjn
    by_cases hcj : cap = j
    · subst hcj
      go_enter Tryz.func233, Tryz.ntmps233
      go_wp2
      go_region
      go_wp2_with (at_builtin; refine Zae rfl _ 40 rfl _ rfl (hcl _) ?_)
      go_ret
      exact ⟨rfl, hpost⟩
    · go_enter Tryz.func233, Tryz.ntmps233
      go_wp2
      go_region
      go_wp2_with (at_builtin; refine Zae rfl _ 40 rfl _ rfl (hcl _) ?_)
      go_ret
      exact ⟨rfl, hpost⟩
  · have hcj : ¬ (cap = j) := by omega
    obtain ⟨W2, hcl, hpost⟩ := hfin (w.drew.setRow g c1) c1 (setRow_heap _ g cur _ 152 _ hg) hc1s hc1t ((KeptBut.refl _ w).drew.trans (KeptBut.setRow (by simp) _))
    clear hfin hc1t
    go_enter Tryz.func233, Tryz.ntmps233
    go_wp2
    go_region_law (refine ZdO rfl _ _ 40 40 rfl _ _ (by simp [Act.eval, Act.put]) (by simp [Act.eval, Act.put]) (hap w.drew ⟨g, j * 2, none⟩ (n - j) (cap - j) 40 rfl rfl (Or.inr rfl)) ?_)
    go_wp2_with (at_builtin; refine Zae rfl _ 40 rfl _ rfl (hcl _) ?_)
    go_ret
    exact ⟨rfl, hpost⟩
theorem ZjT : (Tryz.prog.info? 154).map (·.size) = some 4 := by kernel_rfl
theorem sz154 : ∀ w, (Go.sizeOf 154).run Tryz.prog w = .ok 4 w := fun w => by kernel_rfl
theorem info154 : (Tryz.prog.info? 154).map (fun i => (i.zero, i.size, i.bytes)) = some (some (Value.agg #[.int .i64 0, .int .i64 0, .int .i64 0, .int .i64 0]), 4, 32) := by kernel_rfl
set_option maxHeartbeats 4000000 in
set_option maxRecDepth 1000000 in
theorem ZmG (w : World) (g n cap i h caph : Nat) (cur curh : Array Value) (hg : w.heap[g]? = some (.cells cur 154 (0, 0))) (hs : cur.size = cap * 4) (hcm : cap ≤ maxLen) (h1 : Zdb (cur.toList.take (n * 4)))
    (hh : w.heap[h]? = some (.cells curh 154 (0, 0))) (hhs : curh.size = caph * 4) (hc1 : 1 ≤ caph) (hne : h ≠ g) (h1h : Zdb (curh.toList.take 4)) (hi : i < n) (hroom : n + 1 ≤ cap) :
    Calls Tryz.prog 153 #[.slice (some ⟨g, 0, none⟩) n cap, .int .i64 i, .slice (some ⟨h, 0, none⟩) 1 caph] w fun e w' => e = .returned (.slice (some ⟨g, 0, none⟩) (n + 1) cap) ∧
      ∃ cur' : Array Value, w'.heap[g]? = some (.cells cur' 154 (0, 0)) ∧ cur'.size = cap * 4 ∧ cur'.toList.take ((n + 1) * 4) = (cur.toList.take (n * 4)).take (i * 4) ++ curh.toList.take 4 ++ (cur.toList.take (n * 4)).drop (i * 4) ∧ KeptBut [g] w w' := by
  have hcmx : cap ≤ 9223372036854775807 := hcm
  have hz2 : ¬ ((i : Int) = (n : Int)) := by omega
  have hov : ∀ lb cb, (callFunc 201 #[.slice (some ⟨h, 0, none⟩) 1 caph, .slice (some ⟨g, (i + 1) * 4, none⟩) lb cb]).run Tryz.prog w = .ok (.value (.bool false)) w := fun lb cb => by
    rw [run_callFunc_extern Tryz.func201 (by kernel_rfl) (by kernel_rfl) (by kernel_rfl) (e := Extern.SlicesOverlaps.overlaps #[41, 41] #[4]) (by kernel_rfl),
      Lib.run_overlaps_apart w 41 4 154 Tryz.underlying41 4 sz154 ⟨h, 0, none⟩ ⟨g, (i + 1) * 4, none⟩ 1 caph lb cb hne 154 154 curh.size cur.size (by simp [World.shape?, hh]) (by simp [World.shape?, hg]) (by omega) (by simp [World.frozen?, hh]) (by simp [World.frozen?, hh])]
    rfl
  obtain ⟨tl, htl⟩ : ∃ tl, tl = (cur.toList.drop (i * 4)).take ((n - i) * 4) := ⟨_, rfl⟩
  have htll : tl.length = (n - i) * 4 := by rw [htl]; simp; omega
  have htl1 : ∀ v ∈ tl, v.oneCell' = true := fun v hv => h1 v (by
    rw [htl, show (cur.toList.drop (i * 4)).take ((n - i) * 4) = (cur.toList.take (n * 4)).drop (i * 4) from by rw [List.drop_take]; congr 1; omega] at hv
    exact List.mem_of_mem_drop hv)
  obtain ⟨c1, hc1'⟩ : ∃ c1, c1 = (cur.toList.take ((i + 1) * 4) ++ tl ++ cur.toList.drop ((i + 1) * 4 + tl.length)).toArray := ⟨_, rfl⟩
  have hc1s : c1.size = cap * 4 := by rw [hc1']; simp; omega
  have hcp1 : ∀ ty dc sc, (Builtin.copy_ #[41, 41] ty #[.slice (some ⟨g, (i + 1) * 4, none⟩) (n + 1 - (i + 1)) dc, .slice (some ⟨g, i * 4, none⟩) (n + 1 - i) sc]).run Tryz.prog w.drew = .ok (goInt (Nat.min (n + 1 - i) (n + 1 - (i + 1)))) (w.drew.setRow g c1) := fun ty dc sc => by
    rw [hc1']
    exact Zcj w.drew 41 41 ty 154 4 g ((i + 1) * 4) (n + 1 - (i + 1)) dc ⟨g, i * 4, none⟩ (n + 1 - i) sc cur 154 tl Tryz.underlying41 ZjT hg (by rw [htll]; simp only [Nat.min_def]; split <;> omega) (by rw [htl]; exact ZaM (w := w.drew) hg (by omega)) (by rw [htll]; omega) htl1
  obtain ⟨W1, hW1⟩ : ∃ W1, W1 = w.drew.setRow g c1 := ⟨_, rfl⟩
  rw [← hW1] at hcp1
  have hg1 : W1.heap[g]? = some (.cells c1 154 (0, 0)) := by rw [hW1]; exact setRow_heap _ g cur _ 154 _ hg
  have hh1 : W1.heap[h]? = some (.cells curh 154 (0, 0)) := by
    rw [hW1, ← hh]
    exact (KeptBut.setRow (w := w.drew) (F := [g]) (by simp) c1).block h (by have := (Array.getElem?_eq_some_iff.1 hh).1; exact this) (by simp [hne])
  obtain ⟨c2, hc2⟩ : ∃ c2, c2 = (c1.toList.take (i * 4) ++ curh.toList.take 4 ++ c1.toList.drop (i * 4 + (curh.toList.take 4).length)).toArray := ⟨_, rfl⟩
  have hyl : (curh.toList.take 4).length = 4 := by simp; omega
  have hcp2 : ∀ ty dc, (Builtin.copy_ #[41, 41] ty #[.slice (some ⟨g, i * 4, none⟩) (n + 1 - i) dc, .slice (some ⟨h, 0, none⟩) 1 caph]).run Tryz.prog W1 = .ok (goInt (Nat.min 1 (n + 1 - i))) (W1.setRow g c2) := fun ty dc => by
    rw [hc2]
    exact Zcj W1 41 41 ty 154 4 g (i * 4) (n + 1 - i) dc ⟨h, 0, none⟩ 1 caph c1 154 (curh.toList.take 4) Tryz.underlying41 ZjT hg1 (by rw [hyl]; simp only [Nat.min_def]; split <;> omega) (by have := ZaM (o := 0) (m := 4) hh1 (by omega); simpa using this) (by rw [hyl]; omega) h1h
  have hpost : ∃ cur' : Array Value, (W1.setRow g c2).heap[g]? = some (.cells cur' 154 (0, 0)) ∧ cur'.size = cap * 4 ∧ cur'.toList.take ((n + 1) * 4) = (cur.toList.take (n * 4)).take (i * 4) ++ curh.toList.take 4 ++ (cur.toList.take (n * 4)).drop (i * 4) ∧ KeptBut [g] w (W1.setRow g c2) := by
    refine ⟨c2, setRow_heap W1 g c1 _ 154 _ hg1, ?_, ?_, ?_⟩
    · rw [hc2]; simp; omega
    · have q := ZlK (cur := cur.toList) (y := curh.toList.take 4) (tl := tl) (c1 := c1.toList) (c2 := c2.toList) (a := i * 4) (s := 4) (by simp; omega) hyl (by rw [hc1', show i * 4 + 4 = (i + 1) * 4 from by omega]) (by rw [hc2, hyl])
      rw [show (n + 1) * 4 = i * 4 + 4 + tl.length from by rw [htll]; omega, q, htl, show (n - i) * 4 = n * 4 - i * 4 from by omega, ZjM, List.take_take, Nat.min_eq_left (by omega)]
    · rw [hW1]; exact ((KeptBut.refl _ w).drew.trans (KeptBut.setRow (by simp) _)).trans (KeptBut.setRow (by simp) _)
  have hw1 : IntKind.i64.wrap ((i : Int) + 1) = (i : Int) + 1 := by rw [IntKind.wrap_i64]; omega
  have hw2 : IntKind.i64.wrap ((n : Int) + 1) = (n : Int) + 1 := by rw [IntKind.wrap_i64]; omega
  have hb1 : ¬ ((cap : Int) < (n : Int) + 1) := by omega
  have hb2 : ¬ (cap = i + 1) := by omega
  have hb3 : (i : Int) ≤ (n : Int) := by omega
  have hb4 : ¬ (cap = i) := by omega
  have hb5 : (i : Int) ≤ (n : Int) + 1 := by omega
  have hb6 : (i : Int) + 1 ≤ (n : Int) + 1 := by omega
  have hb7 : (n : Int) + 1 ≤ (cap : Int) := by omega
  have hb8 : (0 : Int) ≤ (i : Int) + 1 := by omega
  have hb9 : (0 : Int) ≤ (n : Int) + 1 := by omega
  have ht1 : ((i : Int) + 1).toNat = i + 1 := by omega
  have ht2 : ((n : Int) + 1).toNat = n + 1 := by omega
  clear hc2 hW1 hc1' htl h1 h1h
  go_enter Tryz.func153, Tryz.ntmps153
  go_wp2_with (simp only [hov])
  go_region_law (refine ZeF rfl _ _ 41 41 rfl (.slice (some ⟨g, (i + 1) * 4, none⟩) (n + 1 - (i + 1)) (cap - (i + 1))) (.slice (some ⟨g, i * 4, none⟩) (n + 1 - i) (cap - i)) (by simp [Act.eval, Act.put]) (by simp [Act.eval, Act.put]) (hcp1 _ _ _) ?_)
  go_wp2_with (at_builtin; refine ZdN rfl _ _ 41 41 rfl _ _ rfl rfl (hcp2 _ _) ?_)
  go_ret
  exact ⟨rfl, hpost⟩
set_option maxHeartbeats 4000000 in
set_option maxRecDepth 1000000 in
theorem ZmH (w : World) (g n cap i h caph : Nat) (cur curh : Array Value) (hg : w.heap[g]? = some (.cells cur 154 (0, 0))) (hs : cur.size = cap * 4) (hcm : cap ≤ maxLen) (h1 : Zdb (cur.toList.take (n * 4)))
    (hh : w.heap[h]? = some (.cells curh 154 (0, 0))) (hhs : curh.size = caph * 4) (hc1 : 1 ≤ caph) (h1h : Zdb (curh.toList.take 4)) (hi : i < n) (hn : n ≤ cap) (hroom : cap < n + 1) (hbig : (n + 1) * 32 ≤ 140737488355328) :
    Calls Tryz.prog 153 #[.slice (some ⟨g, 0, none⟩) n cap, .int .i64 i, .slice (some ⟨h, 0, none⟩) 1 caph] w fun e w' => ∃ cap', e = .returned (.slice (some ⟨w.heap.size, 0, none⟩) (n + 1) cap') ∧ n + 1 ≤ cap' ∧ cap' ≤ maxLen ∧
      ∃ cur' : Array Value, w'.heap[w.heap.size]? = some (.cells cur' 154 (0, 0)) ∧ cur'.size = cap' * 4 ∧ cur'.toList.take ((n + 1) * 4) = (cur.toList.take (n * 4)).take (i * 4) ++ curh.toList.take 4 ++ (cur.toList.take (n * 4)).drop (i * 4) ∧ KeptBut [] w w' := by
  have hcmx : cap ≤ 9223372036854775807 := hcm
  have hz2 : ¬ ((i : Int) = (n : Int)) := by omega
  have hgw : g < w.heap.size := (Array.getElem?_eq_some_iff.1 hg).1
  have hhw : h < w.heap.size := (Array.getElem?_eq_some_iff.1 hh).1
  obtain ⟨i0, hi0, hz0, hzs, hzb⟩ := info_parts info154
  have hkk : (n : Int) + 1 - (i : Int) = ((n + 1 - i : Nat) : Int) := by omega
  have hik : i + (n + 1 - i) = n + 1 := by omega
  obtain ⟨olds, hol⟩ : ∃ olds, olds = cur.toList.take (i * 4) := ⟨_, rfl⟩
  have holl : olds.length = i * 4 := by rw [hol]; simp; omega
  have hold : (Builtin.firstCells i0.size i (.slice (some ⟨g, 0, none⟩) i cap)).run Tryz.prog w.drew = .ok olds.toArray w.drew := by
    rw [hzs]
    refine run_firstCells_some w.drew 4 i ⟨g, 0, none⟩ i cap olds holl fun j v hj => ?_
    have := ZaM (o := 0) (m := i * 4) (w := w.drew) hg (by omega) j v (by rw [List.drop_zero, ← hol]; exact hj)
    exact this
  obtain ⟨G, hG⟩ : ∃ G, G = grownCap w (n + 1) cap 154 := ⟨_, rfl⟩
  obtain ⟨ROW, hROW⟩ : ∃ ROW : Array Value, ROW = olds.toArray ++ Builtin.zeroCells (Value.agg #[.int .i64 0, .int .i64 0, .int .i64 0, .int .i64 0]).cells (n + 1 - i) ++ Builtin.zeroCells (Value.agg #[.int .i64 0, .int .i64 0, .int .i64 0, .int .i64 0]).cells (G - (n + 1)) := ⟨_, rfl⟩
  have hrz : ∀ ty, (Builtin.append_ #[41, 3] ty #[.slice (some ⟨g, 0, none⟩) i cap, .int .i64 ((n : Int) + 1 - (i : Int))]).run Tryz.prog w =
      .ok (.slice (some ⟨w.heap.size, 0, none⟩) (n + 1) G) (w.drew.alloc (.cells ROW 154)) := fun ty => by
    have h := Lib.run_append_grow_zeros w 41 3 ty 154 i0 _ .i64 .i64 Tryz.underlying41 Tryz.underlying3 hi0 hz0 (some ⟨g, 0, none⟩) i cap olds hold (n + 1 - i) (by omega) (by omega) (by omega) (by omega) (by rw [hzb]; omega) (by rw [hzb, hik]; exact growslice_fits hroom hbig)
    rw [hik, ← hG, ← hROW] at h
    rw [hkk]
    exact h
  have hGn : n + 1 ≤ G := by rw [hG]; exact grownCap_ge w _ _ _
  have hGm : G ≤ maxLen := by rw [hG]; exact grownCap_le_maxLen w (n + 1) cap 154 (by unfold maxLen; omega)
  have hG63 : G ≤ 9223372036854775807 := hGm
  have hRs : ROW.size = G * 4 := by
    rw [hROW]; simp only [Array.size_append, List.size_toArray, size_zeroCells, holl]
    rw [show (Value.agg #[.int .i64 0, .int .i64 0, .int .i64 0, .int .i64 0]).cells.size = 4 from rfl]; omega
  obtain ⟨W1, hW1⟩ : ∃ W1, W1 = w.drew.alloc (.cells ROW 154) := ⟨_, rfl⟩
  rw [← hW1] at hrz
  have hN1 : W1.heap[w.heap.size]? = some (.cells ROW 154 (0, 0)) := by rw [hW1]; exact heap_alloc_new w.drew _
  have hk1 : KeptBut [] w W1 := by rw [hW1]; exact (KeptBut.refl _ w).drew.alloc _
  have hyl : (curh.toList.take 4).length = 4 := by simp; omega
  obtain ⟨c2, hc2⟩ : ∃ c2, c2 = (ROW.toList.take (i * 4) ++ curh.toList.take 4 ++ ROW.toList.drop (i * 4 + (curh.toList.take 4).length)).toArray := ⟨_, rfl⟩
  have hc2s : c2.size = G * 4 := by rw [hc2]; simp; omega
  have hcpA : ∀ (W : World), W.heap = W1.heap → ∀ ty dc, (Builtin.copy_ #[41, 41] ty #[.slice (some ⟨w.heap.size, i * 4, none⟩) (n + 1 - i) dc, .slice (some ⟨h, 0, none⟩) 1 caph]).run Tryz.prog W = .ok (goInt (Nat.min 1 (n + 1 - i))) (W.setRow w.heap.size c2) := fun W hW ty dc => by
    rw [hc2]
    exact Zcj W 41 41 ty 154 4 w.heap.size (i * 4) (n + 1 - i) dc ⟨h, 0, none⟩ 1 caph ROW 154 (curh.toList.take 4) Tryz.underlying41 ZjT (by rw [hW]; exact hN1) (by rw [hyl]; simp only [Nat.min_def]; split <;> omega)
      (by have := ZaM (w := W) (o := 0) (m := 4) (cur := curh) (T := 154) (g := h) (by rw [hW, hk1.block h hhw (by simp)]; exact hh) (by omega); simpa using this) (by rw [hyl]; omega) h1h
  obtain ⟨tl, htl⟩ : ∃ tl, tl = (cur.toList.drop (i * 4)).take ((n - i) * 4) := ⟨_, rfl⟩
  have htll : tl.length = (n - i) * 4 := by rw [htl]; simp; omega
  have htl1 : ∀ v ∈ tl, v.oneCell' = true := fun v hv => h1 v (by
    rw [htl, show (cur.toList.drop (i * 4)).take ((n - i) * 4) = (cur.toList.take (n * 4)).drop (i * 4) from by rw [List.drop_take]; congr 1; omega] at hv
    exact List.mem_of_mem_drop hv)
  obtain ⟨W2, hW2⟩ : ∃ W2, W2 = W1.setRow w.heap.size c2 := ⟨_, rfl⟩
  have hN2 : W2.heap[w.heap.size]? = some (.cells c2 154 (0, 0)) := by rw [hW2]; exact setRow_heap _ _ ROW _ 154 _ hN1
  have hk2 : KeptBut [w.heap.size] w W2 := by rw [hW2]; exact (hk1.mono (by simp)).trans (KeptBut.setRow (by simp) _)
  obtain ⟨c3, hc3⟩ : ∃ c3, c3 = (c2.toList.take ((i + 1) * 4) ++ tl ++ c2.toList.drop ((i + 1) * 4 + tl.length)).toArray := ⟨_, rfl⟩
  have hcpB : ∀ (W : World), W.heap = W2.heap → ∀ ty dc sc, (Builtin.copy_ #[41, 41] ty #[.slice (some ⟨w.heap.size, (i + 1) * 4, none⟩) (n + 1 - (i + 1)) dc, .slice (some ⟨g, i * 4, none⟩) (n - i) sc]).run Tryz.prog W = .ok (goInt (Nat.min (n - i) (n + 1 - (i + 1)))) (W.setRow w.heap.size c3) := fun W hW ty dc sc => by
    rw [hc3]
    exact Zcj W 41 41 ty 154 4 w.heap.size ((i + 1) * 4) (n + 1 - (i + 1)) dc ⟨g, i * 4, none⟩ (n - i) sc c2 154 tl Tryz.underlying41 ZjT (by rw [hW]; exact hN2) (by rw [htll]; simp only [Nat.min_def]; split <;> omega)
      (by rw [htl]; exact ZaM (w := W) (T := 154) (by rw [hW, hk2.block g hgw (by simp; omega)]; exact hg) (by omega)) (by rw [htll]; omega) htl1
  have hpost : ∀ W, W.heap = W2.heap → KeptBut [w.heap.size] w W → ∃ cur' : Array Value, (W.setRow w.heap.size c3).heap[w.heap.size]? = some (.cells cur' 154 (0, 0)) ∧ cur'.size = G * 4 ∧ cur'.toList.take ((n + 1) * 4) = (cur.toList.take (n * 4)).take (i * 4) ++ curh.toList.take 4 ++ (cur.toList.take (n * 4)).drop (i * 4) ∧ KeptBut [] w (W.setRow w.heap.size c3) := by
    intro W hW hk
    refine ⟨c3, setRow_heap W _ c2 _ 154 _ (by rw [hW]; exact hN2), ?_, ?_, (hk.trans (KeptBut.setRow (by simp) _)).fresh (by simp)⟩
    · rw [hc3]; simp; omega
    · have q := ZkF (row := ROW.toList) (y := curh.toList.take 4) (tl := tl) (c2 := c2.toList) (c3 := c3.toList) (a := i * 4) (s := 4) (by simp; omega) hyl (by rw [hc2, hyl]) (by rw [hc3, show i * 4 + 4 = (i + 1) * 4 from by omega])
      rw [show (n + 1) * 4 = i * 4 + 4 + tl.length from by rw [htll]; omega, q, htl, show (n - i) * 4 = n * 4 - i * 4 from by omega, ZjM, List.take_take, Nat.min_eq_left (by omega), hROW]
      congr 2
      simp only [Array.toList_append, List.append_assoc]
      exact (List.take_left' holl).trans hol
  have hw1 : IntKind.i64.wrap ((i : Int) + 1) = (i : Int) + 1 := by rw [IntKind.wrap_i64]; omega
  have hw2 : IntKind.i64.wrap ((n : Int) + 1) = (n : Int) + 1 := by rw [IntKind.wrap_i64]; omega
  have hw3 : IntKind.i64.wrap ((n : Int) + 1 - (i : Int)) = (n : Int) + 1 - (i : Int) := by rw [IntKind.wrap_i64]; omega
  have hz3 : (cap : Int) < (n : Int) + 1 := by omega
  have hGi : ¬ (G = i) := by omega
  have hGi1 : ¬ (G = i + 1) := by omega
  have hci : ¬ (cap = i) := by omega
  have hb3 : (i : Int) ≤ (n : Int) := by omega
  have hb5 : (i : Int) ≤ (n : Int) + 1 := by omega
  have hb6 : (i : Int) + 1 ≤ (n : Int) + 1 := by omega
  have hb8 : (0 : Int) ≤ (i : Int) + 1 := by omega
  have ht1 : ((i : Int) + 1).toNat = i + 1 := by omega
  have hb9 : i ≤ cap := by omega
  have hb10 : (i : Int) ≤ (cap : Int) := by omega
  clear hkk hik hold hROW hG hc2 hc3 htl hol h1 h1h
  go_enter Tryz.func153, Tryz.ntmps153
  go_wp2_with (first
    | (at_builtin; refine Lib.wpList_append_run _ rfl _ _ _ _ rfl _ _ rfl rfl _ _ (hrz _) ?_)
    | (at_builtin; refine ZdN rfl _ _ 41 41 rfl _ _ rfl rfl (hcpA _ rfl _ _) ?_))
  go_region_law (refine ZeF rfl _ _ 41 41 rfl (.slice (some ⟨w.heap.size, (i + 1) * 4, none⟩) (n + 1 - (i + 1)) (G - (i + 1))) (.slice (some ⟨g, i * 4, none⟩) (n - i) (cap - i)) (by simp [Act.eval, Act.put]) (by simp [Act.eval, Act.put]) (hcpB _ (by rw [hW2, hW1]; rfl) _ _ _) ?_)
  go_wp2
  go_ret
  exact ⟨G, rfl, hGn, hGm, hpost _ (by rw [hW2, hW1]; rfl) (by rw [hW2, hW1] at hk2; exact ⟨hk2.os, hk2.tape, hk2.output, hk2.size, hk2.block⟩)⟩
set_option maxHeartbeats 4000000 in
set_option maxRecDepth 1000000 in
theorem Zol : ZlL Tryz.prog 153 154 4 32 := by
  intro w v v2 n xs ys hr hr2 h1 hbig h63
  rcases hr2.2 with ⟨a, rfl, h0⟩ | ⟨h, caph, curh, rfl, hch, hh, hn2, hm2, hs2, hx2⟩
  · omega
  obtain ⟨a, cap, rfl, hnc, hcm⟩ := hr.slice
  have hh := hh.zero (show 154 ≠ 5 by decide)
  have hhw : h < w.heap.size := (Array.getElem?_eq_some_iff.1 hh).1
  have hyl : ys.length = 1 * 4 := hr2.1
  obtain ⟨v', w', hrun, k1, k2, k3⟩ := Ze1 (P := Tryz.prog) (tab := tab) (w := w) (t := 41) (t2 := 41) (e := 154) (ot := 41) Tryz.underlying41 (base.tab 154 _ rfl) (.inl ⟨154, Tryz.underlying41⟩) (n := n) hr (Nat.le_refl n) (xv := .slice (some ⟨h, 0, none⟩) 1 caph) (news := ys) (m := 1) hyl h1
    (fun w' => by simp [Builtin.lenOf]) (fun w' hw' => run_firstCells_some w' 4 1 ⟨h, 0, none⟩ 1 caph ys hyl fun j v hj => by
      have := ZaM (o := 0) (m := 1 * 4) (w := w') (by rw [hw' h hhw]; exact hh) (by omega) j v (by rw [List.drop_zero, hx2]; exact hj)
      exact this) h63 hbig
  have hxl : xs.take (n * 4) = xs := List.take_of_length_le (by rw [hr.1]; exact Nat.le_refl _)
  have k1' : RowIs w' 154 4 (n + 1) v' (xs ++ ys) := by
    have k1 : RowIs w' 154 4 (n + 1) v' (xs.take (n * 4) ++ ys) := k1
    rw [hxl] at k1; exact k1
  clear k1
  cases a with
  | none =>
    go_enter Tryz.func153, Tryz.ntmps153
    go_wp2_with (at_builtin; refine Lib.wpList_append_run _ rfl _ _ _ _ rfl _ _ rfl rfl _ _ hrun ?_)
    all_goals (go_ret; first | exact ⟨v', rfl, k1', k2, k3⟩ | (subst_vars; exact ⟨v', rfl, k1', k2, k3⟩))
  | some a =>
    obtain ⟨ab, ao, asp⟩ := a
    go_enter Tryz.func153, Tryz.ntmps153
    go_wp2_with (at_builtin; refine Lib.wpList_append_run _ rfl _ _ _ _ rfl _ _ rfl rfl _ _ hrun ?_)
    all_goals (go_ret; first | exact ⟨v', rfl, k1', k2, k3⟩ | (subst_vars; exact ⟨v', rfl, k1', k2, k3⟩))
theorem ins153 : ZgP Tryz.prog 153 154 4 32 := ins_ok
  (fun w g n cap i h caph cur curh h1 h2 h3 h4 h5 h6 h7 h8 h9 h10 h11 => ZmG w g n cap i h caph cur curh h1 h2 h3 h4 h5 h6 h7 h8 h9 h10 h11)
  (fun w g n cap i h caph cur curh h1 h2 h3 h4 h5 h6 h7 h8 h9 h10 h11 h12 => ZmH w g n cap i h caph cur curh h1 h2 h3 h4 h5 h6 h7 h8 h9 h10 h11 h12)
  Zol
theorem inf311 : (Tryz.prog.info? 311).map (·.size) = some 21 := by kernel_rfl
theorem zv311 : ∀ w, (zeroValue 311).run Tryz.prog w = .ok (Value.agg #[.int .i64 0, .int .i64 0, .int .i64 0, .int .i64 0, .int .i64 0, .int .i64 0, .int .i64 0, .slice none 0 0, .int .i64 0, .bool false, .int .i64 0, .int .i64 0, .int .i64 0, .int .i64 0, .slice none 0 0, .slice none 0 0, .int .i64 0, .int .i64 0, .int .i64 0, .int .i64 0, .int .i64 0]) w := fun w => by kernel_rfl
set_option maxHeartbeats 4000000 in
set_option maxRecDepth 1000000 in
theorem ZnH : Zev Tryz.prog 262 := by
  intro a n cap i w hin hn hcm
  go_enter Tryz.func262, Tryz.ntmps262
  go_wp2
  all_goals (go_ret; exact ⟨rfl, .refl _ _⟩)
set_option maxHeartbeats 4000000 in
set_option maxRecDepth 1000000 in
theorem del262 : ZgO Tryz.prog 262 311 21 := by
  intro g n cap i j cur w hg hs hn hcm h1 hij hj
  have hne : ¬ ((i : Int) = (j : Int)) := by omega
  have hb1 : (i : Int) ≤ (j : Int) := by omega
  have hb2 : (j : Int) ≤ (n : Int) := by omega
  have hb3 : (i : Int) ≤ (n : Int) := by omega
  have hb4 : i ≤ cap := by omega
  have hb5 : j ≤ cap := by omega
  obtain ⟨news, hnews⟩ : ∃ news, news = (cur.toList.drop (j * 21)).take ((n - j) * 21) := ⟨_, rfl⟩
  have hnl : news.length = (n - j) * 21 := by rw [hnews]; simp; omega
  have hsrc : ∀ k v, news[k]? = some v → w.cell? ((⟨g, j * 21, none⟩ : Addr).add k) = some v := by
    rw [hnews]; exact ZaM hg (by omega)
  have hone : ∀ v ∈ news, v.oneCell' = true := fun v hv => h1 v (by
    rw [hnews] at hv
    have : (cur.toList.drop (j * 21)).take ((n - j) * 21) = (cur.toList.take (n * 21)).drop (j * 21) := by
      rw [List.drop_take]; congr 1; omega
    rw [this] at hv
    exact List.mem_of_mem_drop hv)
  obtain ⟨c1, hc1⟩ : ∃ c1, c1 = (cur.toList.take (i * 21) ++ news ++ cur.toList.drop (i * 21 + news.length)).toArray := ⟨_, rfl⟩
  have hap : ∀ (W : World) (a : Addr) (m sc : Nat) (ty : TypeId), W.heap[g]? = w.heap[g]? → m = n - j → (m = 0 ∨ a = ⟨g, j * 21, none⟩) →
      (Builtin.append_ #[236, 236] ty #[.slice (some ⟨g, 0, none⟩) i cap, .slice (some a) m sc]).run Tryz.prog W = .ok (.slice (some ⟨g, 0, none⟩) (i + m) cap) (W.setRow g c1) := by
    intro W a m sc ty hW hm ha
    rw [hm] at ha ⊢
    have hst := run_storeCells_at Tryz.prog g (i * 21) 311 news 0 cur W (hW.trans hg) (by rw [hnl]; omega) hone
    simp only [Nat.add_zero] at hst
    rw [← hc1] at hst
    have hfc : (Builtin.firstCells 21 (n - j) (.slice (some a) (n - j) sc)).run Tryz.prog W = .ok news.toArray W := by
      refine run_firstCells_some (P := Tryz.prog) W 21 (n - j) a (n - j) sc news hnl fun k v hk => ?_
      rcases ha with h | rfl
      · have := (List.getElem?_eq_some_iff.1 hk).1
        rw [hnl] at this; omega
      · have := hsrc k v hk
        rw [← this]
        simp [World.cell?, hW, Addr.add_none]
    have hr : i + (n - j) ≤ cap := by omega
    cases hq : Tryz.prog.info? 311 with
    | none => have := inf311; rw [hq] at this; simp at this
    | some i0 =>
      have hi : i0.size = 21 := by have := inf311; rw [hq] at this; simpa using this
      simp [Builtin.append_, run_underlying Tryz.underlying236, sizeOf, typeInfo, hq, hi, Builtin.lenOf, hr, hfc, Addr.add_none, hst]
  have hc1s : c1.size = cap * 21 := by rw [hc1]; simp; omega
  have hc1t : c1.toList.take ((i + (n - j)) * 21) = (cur.toList.take (n * 21)).take (i * 21) ++ (cur.toList.take (n * 21)).drop (j * 21) := by
    rw [hc1]
    simp only [List.append_assoc]
    rw [← List.append_assoc, show (i + (n - j)) * 21 = (cur.toList.take (i * 21) ++ news).length from by simp [hnl]; omega, List.take_left, hnews, List.take_take, Nat.min_eq_left (by omega), List.drop_take]
    congr 2
    omega
  have hsub : n - (j - i) = i + (n - j) := by omega
  have hz : (Value.agg #[.int .i64 0, .int .i64 0, .int .i64 0, .int .i64 0, .int .i64 0, .int .i64 0, .int .i64 0, .slice none 0 0, .int .i64 0, .bool false, .int .i64 0, .int .i64 0, .int .i64 0, .int .i64 0, .slice none 0 0, .slice none 0 0, .int .i64 0, .int .i64 0, .int .i64 0, .int .i64 0, .int .i64 0]).cells.size = 21 := rfl
  have hz1 : ∀ v ∈ (Value.agg #[.int .i64 0, .int .i64 0, .int .i64 0, .int .i64 0, .int .i64 0, .int .i64 0, .int .i64 0, .slice none 0 0, .int .i64 0, .bool false, .int .i64 0, .int .i64 0, .int .i64 0, .int .i64 0, .slice none 0 0, .slice none 0 0, .int .i64 0, .int .i64 0, .int .i64 0, .int .i64 0, .int .i64 0]).cells, v.oneCell' = true := by decide
  rw [hsub]
  have hcn : ¬ (cap = i + (n - j)) := by omega
  have hlt : ((i + (n - j) : Nat) : Int) ≤ (n : Int) := by omega
  have hfin : ∀ (W1 : World) (d : Array Value), W1.heap[g]? = some (.cells d 311 (0, 0)) → d.size = cap * 21 → d.toList.take ((i + (n - j)) * 21) = (cur.toList.take (n * 21)).take (i * 21) ++ (cur.toList.take (n * 21)).drop (j * 21) → KeptBut [g] w W1 →
      ∃ W2, (∀ sc, (Builtin.clear_ #[236] 0 #[.slice (some ⟨g, (i + (n - j)) * 21, none⟩) (n - (i + (n - j))) sc]).run Tryz.prog W1 = .ok (.tuple #[]) W2) ∧
        ∃ cur' : Array Value, W2.heap[g]? = some (.cells cur' 311 (0, 0)) ∧ cur'.size = cap * 21 ∧ cur'.toList.take ((i + (n - j)) * 21) = (cur.toList.take (n * 21)).take (i * 21) ++ (cur.toList.take (n * 21)).drop (j * 21) ∧ KeptBut [g] w W2 := by
    intro W1 d e1 e2 e3 e4
    obtain ⟨tl, t1, t2⟩ := ZeE (P := Tryz.prog) W1 236 311 0 _ 21 Tryz.underlying236 zv311 hz hz1 (by omega) g ((i + (n - j)) * 21) (n - (i + (n - j))) (by omega) d 311 e1 (by omega)
    refine ⟨W1.setRow g (d.toList.take ((i + (n - j)) * 21) ++ tl ++ d.toList.drop ((i + (n - j)) * 21 + tl.length)).toArray, t2, (d.toList.take ((i + (n - j)) * 21) ++ tl ++ d.toList.drop ((i + (n - j)) * 21 + tl.length)).toArray, setRow_heap W1 g d _ 311 _ e1, ?_, ?_, e4.trans (KeptBut.setRow (by simp) _)⟩
    · simp; omega
    · rw [← e3, List.append_assoc]
      simp only
      rw [show (i + (n - j)) * 21 = (d.toList.take ((i + (n - j)) * 21)).length from by simp; omega]
      simp
  clear hc1 hnews hz hz1 hnl hsrc hone h1
  by_cases hjn : j = n
  · have hk : cur.toList.take ((i + (n - j)) * 21) = (cur.toList.take (n * 21)).take (i * 21) ++ (cur.toList.take (n * 21)).drop (j * 21) := by
      subst hjn
      rw [Nat.sub_self, Nat.add_zero, List.take_take, Nat.min_eq_left (by omega), List.drop_of_length_le (by simp; omega), List.append_nil]
    obtain ⟨W2, hcl, hpost⟩ := hfin w.drew cur hg hs hk (KeptBut.refl _ w).drew
    have e0 : i + (n - j) = i := by omega
    rw [e0] at hcl hpost hcn ⊢
    clear hfin hc1t hap hk hsub hlt e0
    subst hjn
    by_cases hcj : cap = j
    · subst hcj
      go_enter Tryz.func262, Tryz.ntmps262
      go_wp2
      go_region
      go_wp2_with (at_builtin; refine Zae rfl _ 236 rfl _ rfl (hcl _) ?_)
      go_ret
      exact ⟨rfl, hpost⟩
    · go_enter Tryz.func262, Tryz.ntmps262
      go_wp2
      go_region
      go_wp2_with (at_builtin; refine Zae rfl _ 236 rfl _ rfl (hcl _) ?_)
      go_ret
      exact ⟨rfl, hpost⟩
  · have hcj : ¬ (cap = j) := by omega
    obtain ⟨W2, hcl, hpost⟩ := hfin (w.drew.setRow g c1) c1 (setRow_heap _ g cur _ 311 _ hg) hc1s hc1t ((KeptBut.refl _ w).drew.trans (KeptBut.setRow (by simp) _))
    clear hfin hc1t
    go_enter Tryz.func262, Tryz.ntmps262
    go_wp2
    go_region_law (refine ZdO rfl _ _ 236 236 rfl _ _ (by simp [Act.eval, Act.put]) (by simp [Act.eval, Act.put]) (hap w.drew ⟨g, j * 21, none⟩ (n - j) (cap - j) 236 rfl rfl (Or.inr rfl)) ?_)
    go_wp2_with (at_builtin; refine Zae rfl _ 236 rfl _ rfl (hcl _) ?_)
    go_ret
    exact ⟨rfl, hpost⟩
def ilA : List Nat := [74, 152, 153, 164, 165, 166, 198, 199, 200, 205, 206, 207, 209, 210, 211, 212, 213, 230, 237, 238, 239, 240, 241, 245, 259, 260, 261, 263, 264, 265, 266, 267, 275, 276, 278, 279, 280, 282]
def flA : List Nat := [34, 53, 62, 63, 64, 73, 81, 82, 83, 85, 86, 88, 89, 90, 91, 92, 126, 127, 137, 140, 141, 142, 143, 144, 145, 146, 147, 151, 156, 157, 159, 160, 161, 162, 163, 167, 192, 196, 197, 202, 204, 208, 214, 215, 216, 231, 232, 233, 234, 236, 242, 243, 244, 257, 258, 268, 269, 270, 271, 272, 274, 277, 281, 283, 284, 285, 286, 287]
def clA : List Nat := [127, 143, 144, 145, 146, 215, 216]
def cnA : Nat → ZdL := fun f => bif Nat.beq f 91 then fun k => bif Nat.beq k 11 then some [3, 8, 11, 44, 45, 46] else none else fun _ => none
end Go.Eng.R
