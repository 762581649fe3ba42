/- An own evaluator of the program's form, proved sound, and what it says of this law's functions: part 4. -/
import Derived.Test.YtjhdhgbboomecaaGreatE3
import Derived.Lib.SlBytesConst
import Derived.Lib.Walk
import Derived.Test.YtjhdhgbboomecaaGreatChecked
import Derived.WalkKit
set_option linter.unusedVariables false
open Go Go.Eng
namespace Go.Eng.R
def ZbH : Nat → List V → Int → Int → Option (List V × Int)
  | 0, _, _, _ => none
  | k_ + 1, code0, h3, i4 =>
    bif (decide (i4 < ((code0.length : Nat) : Int))) then
      bif (decide (i4 < 4000)) then
        bif (Zm i4 code0.length) then
          ZbH k_ code0 (bAnd .i64 (IntKind.i64.wrap ((IntKind.i64.wrap ((IntKind.i64.wrap (h3 * 131)) + (IntKind.i64.wrap (gi (rd code0 i4.toNat) 0)))) + 7)) 1073741823) (IntKind.i64.wrap (i4 + 1))
        else none
      else some (code0, h3)
    else some (code0, h3)
def ZdH (code : List V) : Option (V) :=
  Option.bind (ZbH ((((code.length : Nat) : Int) - 0).toNat + 1) code (IntKind.i64.wrap (36565 + ((code.length : Nat) : Int))) 0) fun r1 =>
  some (V.agg [(V.inl Zb r1.1), (V.int .i64 0), (V.int .i64 r1.2)])
def ZbR (c : V) : Option (Int × V) :=
  bif (decide ((gi c 1) < (((gl c 0).length : Nat) : Int))) then
    bif (Zm (gi c 1) ((gl c 0).length)) then
      some ((bAnd .i64 (IntKind.i64.wrap ((bAnd .i64 (bXor .i64 (sShr .i64 (IntKind.i64.wrap ((IntKind.i64.wrap ((gi c 2) * 6364136223846793005)) + 1442695040888963407)) 33) (sShr .i64 (IntKind.i64.wrap ((IntKind.i64.wrap ((gi c 2) * 6364136223846793005)) + 1442695040888963407)) 45)) 255) + (IntKind.i64.wrap (gi (rd (gl c 0) ((gi c 1).toNat)) 0)))) 255), (V.agg [(V.inl Zb (gl c 0)), (V.int .i64 (IntKind.i64.wrap ((gi c 1) + 1))), (V.int .i64 (IntKind.i64.wrap ((IntKind.i64.wrap ((gi c 2) * 6364136223846793005)) + 1442695040888963407)))]))
    else none
  else some ((bAnd .i64 (bXor .i64 (sShr .i64 (IntKind.i64.wrap ((IntKind.i64.wrap ((gi c 2) * 6364136223846793005)) + 1442695040888963407)) 33) (sShr .i64 (IntKind.i64.wrap ((IntKind.i64.wrap ((gi c 2) * 6364136223846793005)) + 1442695040888963407)) 45)) 255), (V.agg [(V.inl Zb (gl c 0)), (V.int .i64 (gi c 1)), (V.int .i64 (IntKind.i64.wrap ((IntKind.i64.wrap ((gi c 2) * 6364136223846793005)) + 1442695040888963407)))]))
def Zh (c : V) (n : Int) : Option (Int × V) :=
  bif (decide (n ≤ 0)) then
    some (0, (Za c))
  else bif (decide (n ≤ 256)) then
    Option.bind (ZbR (Za c)) fun r3 =>
    bif (!(decide (n = 0))) then
      some ((r3.1.tmod n), (Za r3.2))
    else none
  else Option.bind (ZbR (Za c)) fun r4 =>
  Option.bind (ZbR (Za r4.2)) fun r5 =>
  Option.bind (ZbR (Za r5.2)) fun r6 =>
  Option.bind (ZbR (Za r6.2)) fun r7 =>
  bif (!(decide (n = 0))) then
    some (((IntKind.i64.wrap ((IntKind.i64.wrap ((IntKind.i64.wrap ((IntKind.i64.wrap (r4.1 * 16777216)) + (IntKind.i64.wrap (r5.1 * 65536)))) + (IntKind.i64.wrap (r6.1 * 256)))) + r7.1)).tmod n), (Za r7.2))
  else none
def ZI (c : V) (list : List V) : Option (Int × V) :=
  Option.bind (Zh (Za c) ((list.length : Nat) : Int)) fun r11 =>
  bif (Zm r11.1 list.length) then
    some ((gi (rd list r11.1.toNat) 0), (Za r11.2))
  else none
def ZbV (c : V) : Option (List V × V) :=
  Option.bind (Zh (Za c) 5) fun r13 =>
  bif (Zm r13.1 5) then
    some ((gs (rd [(V.str []), (V.str [(V.int .u8 120)]), (V.str [(V.int .u8 121)]), (V.str [(V.int .u8 0), (V.int .u8 255)]), (V.str [(V.int .u8 108), (V.int .u8 111), (V.int .u8 110), (V.int .u8 103), (V.int .u8 32), (V.int .u8 118), (V.int .u8 97), (V.int .u8 108), (V.int .u8 117), (V.int .u8 101)])] (0 + r13.1.toNat)) 0), (Za r13.2))
  else none
def ZaN (c : V) : Option (List V × V) :=
  Option.bind (Zh (Za c) 5) fun r15 =>
  bif (Zm r15.1 5) then
    bif (Zu ((gs (rd [(V.str [(V.int .u8 97)]), (V.str [(V.int .u8 98)]), (V.str [(V.int .u8 99)]), (V.str [(V.int .u8 97), (V.int .u8 47), (V.int .u8 98)]), (V.str [(V.int .u8 100)])] (0 + r15.1.toNat)) 0).length) 1) then
      some ((gs (rd [(V.str [(V.int .u8 97)]), (V.str [(V.int .u8 98)]), (V.str [(V.int .u8 99)]), (V.str [(V.int .u8 97), (V.int .u8 47), (V.int .u8 98)]), (V.str [(V.int .u8 100)])] (0 + r15.1.toNat)) 0), (Za r15.2))
    else none
  else none
def spec_l2op (c : V) (index : Int) : Option (V × V) :=
  Option.bind (ZI (Za c) [(V.int .i64 1), (V.int .i64 1), (V.int .i64 1), (V.int .i64 2), (V.int .i64 3), (V.int .i64 3), (V.int .i64 4), (V.int .i64 5), (V.int .i64 6), (V.int .i64 6), (V.int .i64 7), (V.int .i64 0)]) fun r12 =>
  bif (decide (r12.1 = 1)) then
    Option.bind (ZbV (Za r12.2)) fun r14 =>
    bif (!(decide (r12.1 = 0))) then
      bif (!(decide (r12.1 = 4))) then
        bif (!(decide (r12.1 = 5))) then
          Option.bind (ZaN (Za r14.2)) fun r16 =>
          bif (decide (r12.1 = 4)) then
            Option.bind (Zh (Za r16.2) 2) fun r17 =>
            some ((V.agg [(V.int .i64 r12.1), (V.inl Zb r16.1), (V.inl Zb r14.1), (V.int .i64 r17.1)]), (Za r17.2))
          else bif (decide (r12.1 = 2)) then
            Option.bind (Zh (Za r16.2) (IntKind.i64.wrap (index + 1))) fun r18 =>
            Option.bind (Zh (Za r18.2) 2) fun r19 =>
            some ((V.agg [(V.int .i64 r12.1), (V.inl Zb r16.1), (V.inl Zb r14.1), (V.int .i64 (IntKind.i64.wrap (r18.1 * r19.1)))]), (Za r19.2))
          else bif (decide (r12.1 = 5)) then
            Option.bind (Zh (Za r16.2) 4) fun r20 =>
            bif (decide ((0 : Int) < index)) then
              Option.bind (Zh (Za r20.2) index) fun r21 =>
              some ((V.agg [(V.int .i64 r12.1), (V.inl Zb r16.1), (V.inl Zb r14.1), (V.int .i64 (IntKind.i64.wrap (1 + r21.1)))]), (Za r21.2))
            else some ((V.agg [(V.int .i64 r12.1), (V.inl Zb r16.1), (V.inl Zb r14.1), (V.int .i64 (IntKind.i64.wrap (1 + r20.1)))]), (Za r20.2))
          else bif (decide (r12.1 = 6)) then
            Option.bind (Zh (Za r16.2) 4) fun r22 =>
            bif (decide ((0 : Int) < index)) then
              Option.bind (Zh (Za r22.2) index) fun r23 =>
              some ((V.agg [(V.int .i64 r12.1), (V.inl Zb r16.1), (V.inl Zb r14.1), (V.int .i64 (IntKind.i64.wrap (1 + r23.1)))]), (Za r23.2))
            else some ((V.agg [(V.int .i64 r12.1), (V.inl Zb r16.1), (V.inl Zb r14.1), (V.int .i64 (IntKind.i64.wrap (1 + r22.1)))]), (Za r22.2))
          else bif (decide (r12.1 = 7)) then
            Option.bind (Zh (Za r16.2) 4) fun r24 =>
            bif (decide ((0 : Int) < index)) then
              Option.bind (Zh (Za r24.2) index) fun r25 =>
              some ((V.agg [(V.int .i64 r12.1), (V.inl Zb r16.1), (V.inl Zb r14.1), (V.int .i64 (IntKind.i64.wrap (1 + r25.1)))]), (Za r25.2))
            else some ((V.agg [(V.int .i64 r12.1), (V.inl Zb r16.1), (V.inl Zb r14.1), (V.int .i64 (IntKind.i64.wrap (1 + r24.1)))]), (Za r24.2))
          else some ((V.agg [(V.int .i64 r12.1), (V.inl Zb r16.1), (V.inl Zb r14.1), (V.int .i64 0)]), (Za r16.2))
        else bif (decide (r12.1 = 4)) then
          Option.bind (Zh (Za r14.2) 2) fun r26 =>
          some ((V.agg [(V.int .i64 r12.1), (V.inl Zb []), (V.inl Zb r14.1), (V.int .i64 r26.1)]), (Za r26.2))
        else bif (decide (r12.1 = 2)) then
          Option.bind (Zh (Za r14.2) (IntKind.i64.wrap (index + 1))) fun r27 =>
          Option.bind (Zh (Za r27.2) 2) fun r28 =>
          some ((V.agg [(V.int .i64 r12.1), (V.inl Zb []), (V.inl Zb r14.1), (V.int .i64 (IntKind.i64.wrap (r27.1 * r28.1)))]), (Za r28.2))
        else bif (decide (r12.1 = 5)) then
          Option.bind (Zh (Za r14.2) 4) fun r29 =>
          bif (decide ((0 : Int) < index)) then
            Option.bind (Zh (Za r29.2) index) fun r30 =>
            some ((V.agg [(V.int .i64 r12.1), (V.inl Zb []), (V.inl Zb r14.1), (V.int .i64 (IntKind.i64.wrap (1 + r30.1)))]), (Za r30.2))
          else some ((V.agg [(V.int .i64 r12.1), (V.inl Zb []), (V.inl Zb r14.1), (V.int .i64 (IntKind.i64.wrap (1 + r29.1)))]), (Za r29.2))
        else bif (decide (r12.1 = 6)) then
          Option.bind (Zh (Za r14.2) 4) fun r31 =>
          bif (decide ((0 : Int) < index)) then
            Option.bind (Zh (Za r31.2) index) fun r32 =>
            some ((V.agg [(V.int .i64 r12.1), (V.inl Zb []), (V.inl Zb r14.1), (V.int .i64 (IntKind.i64.wrap (1 + r32.1)))]), (Za r32.2))
          else some ((V.agg [(V.int .i64 r12.1), (V.inl Zb []), (V.inl Zb r14.1), (V.int .i64 (IntKind.i64.wrap (1 + r31.1)))]), (Za r31.2))
        else bif (decide (r12.1 = 7)) then
          Option.bind (Zh (Za r14.2) 4) fun r33 =>
          bif (decide ((0 : Int) < index)) then
            Option.bind (Zh (Za r33.2) index) fun r34 =>
            some ((V.agg [(V.int .i64 r12.1), (V.inl Zb []), (V.inl Zb r14.1), (V.int .i64 (IntKind.i64.wrap (1 + r34.1)))]), (Za r34.2))
          else some ((V.agg [(V.int .i64 r12.1), (V.inl Zb []), (V.inl Zb r14.1), (V.int .i64 (IntKind.i64.wrap (1 + r33.1)))]), (Za r33.2))
        else some ((V.agg [(V.int .i64 r12.1), (V.inl Zb []), (V.inl Zb r14.1), (V.int .i64 0)]), (Za r14.2))
      else bif (decide (r12.1 = 4)) then
        Option.bind (Zh (Za r14.2) 2) fun r35 =>
        some ((V.agg [(V.int .i64 r12.1), (V.inl Zb []), (V.inl Zb r14.1), (V.int .i64 r35.1)]), (Za r35.2))
      else bif (decide (r12.1 = 2)) then
        Option.bind (Zh (Za r14.2) (IntKind.i64.wrap (index + 1))) fun r36 =>
        Option.bind (Zh (Za r36.2) 2) fun r37 =>
        some ((V.agg [(V.int .i64 r12.1), (V.inl Zb []), (V.inl Zb r14.1), (V.int .i64 (IntKind.i64.wrap (r36.1 * r37.1)))]), (Za r37.2))
      else bif (decide (r12.1 = 5)) then
        Option.bind (Zh (Za r14.2) 4) fun r38 =>
        bif (decide ((0 : Int) < index)) then
          Option.bind (Zh (Za r38.2) index) fun r39 =>
          some ((V.agg [(V.int .i64 r12.1), (V.inl Zb []), (V.inl Zb r14.1), (V.int .i64 (IntKind.i64.wrap (1 + r39.1)))]), (Za r39.2))
        else some ((V.agg [(V.int .i64 r12.1), (V.inl Zb []), (V.inl Zb r14.1), (V.int .i64 (IntKind.i64.wrap (1 + r38.1)))]), (Za r38.2))
      else bif (decide (r12.1 = 6)) then
        Option.bind (Zh (Za r14.2) 4) fun r40 =>
        bif (decide ((0 : Int) < index)) then
          Option.bind (Zh (Za r40.2) index) fun r41 =>
          some ((V.agg [(V.int .i64 r12.1), (V.inl Zb []), (V.inl Zb r14.1), (V.int .i64 (IntKind.i64.wrap (1 + r41.1)))]), (Za r41.2))
        else some ((V.agg [(V.int .i64 r12.1), (V.inl Zb []), (V.inl Zb r14.1), (V.int .i64 (IntKind.i64.wrap (1 + r40.1)))]), (Za r40.2))
      else bif (decide (r12.1 = 7)) then
        Option.bind (Zh (Za r14.2) 4) fun r42 =>
        bif (decide ((0 : Int) < index)) then
          Option.bind (Zh (Za r42.2) index) fun r43 =>
          some ((V.agg [(V.int .i64 r12.1), (V.inl Zb []), (V.inl Zb r14.1), (V.int .i64 (IntKind.i64.wrap (1 + r43.1)))]), (Za r43.2))
        else some ((V.agg [(V.int .i64 r12.1), (V.inl Zb []), (V.inl Zb r14.1), (V.int .i64 (IntKind.i64.wrap (1 + r42.1)))]), (Za r42.2))
      else some ((V.agg [(V.int .i64 r12.1), (V.inl Zb []), (V.inl Zb r14.1), (V.int .i64 0)]), (Za r14.2))
    else bif (decide (r12.1 = 4)) then
      Option.bind (Zh (Za r14.2) 2) fun r44 =>
      some ((V.agg [(V.int .i64 r12.1), (V.inl Zb []), (V.inl Zb r14.1), (V.int .i64 r44.1)]), (Za r44.2))
    else bif (decide (r12.1 = 2)) then
      Option.bind (Zh (Za r14.2) (IntKind.i64.wrap (index + 1))) fun r45 =>
      Option.bind (Zh (Za r45.2) 2) fun r46 =>
      some ((V.agg [(V.int .i64 r12.1), (V.inl Zb []), (V.inl Zb r14.1), (V.int .i64 (IntKind.i64.wrap (r45.1 * r46.1)))]), (Za r46.2))
    else bif (decide (r12.1 = 5)) then
      Option.bind (Zh (Za r14.2) 4) fun r47 =>
      bif (decide ((0 : Int) < index)) then
        Option.bind (Zh (Za r47.2) index) fun r48 =>
        some ((V.agg [(V.int .i64 r12.1), (V.inl Zb []), (V.inl Zb r14.1), (V.int .i64 (IntKind.i64.wrap (1 + r48.1)))]), (Za r48.2))
      else some ((V.agg [(V.int .i64 r12.1), (V.inl Zb []), (V.inl Zb r14.1), (V.int .i64 (IntKind.i64.wrap (1 + r47.1)))]), (Za r47.2))
    else bif (decide (r12.1 = 6)) then
      Option.bind (Zh (Za r14.2) 4) fun r49 =>
      bif (decide ((0 : Int) < index)) then
        Option.bind (Zh (Za r49.2) index) fun r50 =>
        some ((V.agg [(V.int .i64 r12.1), (V.inl Zb []), (V.inl Zb r14.1), (V.int .i64 (IntKind.i64.wrap (1 + r50.1)))]), (Za r50.2))
      else some ((V.agg [(V.int .i64 r12.1), (V.inl Zb []), (V.inl Zb r14.1), (V.int .i64 (IntKind.i64.wrap (1 + r49.1)))]), (Za r49.2))
    else bif (decide (r12.1 = 7)) then
      Option.bind (Zh (Za r14.2) 4) fun r51 =>
      bif (decide ((0 : Int) < index)) then
        Option.bind (Zh (Za r51.2) index) fun r52 =>
        some ((V.agg [(V.int .i64 r12.1), (V.inl Zb []), (V.inl Zb r14.1), (V.int .i64 (IntKind.i64.wrap (1 + r52.1)))]), (Za r52.2))
      else some ((V.agg [(V.int .i64 r12.1), (V.inl Zb []), (V.inl Zb r14.1), (V.int .i64 (IntKind.i64.wrap (1 + r51.1)))]), (Za r51.2))
    else some ((V.agg [(V.int .i64 r12.1), (V.inl Zb []), (V.inl Zb r14.1), (V.int .i64 0)]), (Za r14.2))
  else bif (decide (r12.1 = 2)) then
    Option.bind (ZbV (Za r12.2)) fun r53 =>
    bif (!(decide (r12.1 = 0))) then
      bif (!(decide (r12.1 = 4))) then
        bif (!(decide (r12.1 = 5))) then
          Option.bind (ZaN (Za r53.2)) fun r54 =>
          bif (decide (r12.1 = 4)) then
            Option.bind (Zh (Za r54.2) 2) fun r55 =>
            some ((V.agg [(V.int .i64 r12.1), (V.inl Zb r54.1), (V.inl Zb r53.1), (V.int .i64 r55.1)]), (Za r55.2))
          else bif (decide (r12.1 = 2)) then
            Option.bind (Zh (Za r54.2) (IntKind.i64.wrap (index + 1))) fun r56 =>
            Option.bind (Zh (Za r56.2) 2) fun r57 =>
            some ((V.agg [(V.int .i64 r12.1), (V.inl Zb r54.1), (V.inl Zb r53.1), (V.int .i64 (IntKind.i64.wrap (r56.1 * r57.1)))]), (Za r57.2))
          else bif (decide (r12.1 = 5)) then
            Option.bind (Zh (Za r54.2) 4) fun r58 =>
            bif (decide ((0 : Int) < index)) then
              Option.bind (Zh (Za r58.2) index) fun r59 =>
              some ((V.agg [(V.int .i64 r12.1), (V.inl Zb r54.1), (V.inl Zb r53.1), (V.int .i64 (IntKind.i64.wrap (1 + r59.1)))]), (Za r59.2))
            else some ((V.agg [(V.int .i64 r12.1), (V.inl Zb r54.1), (V.inl Zb r53.1), (V.int .i64 (IntKind.i64.wrap (1 + r58.1)))]), (Za r58.2))
          else bif (decide (r12.1 = 6)) then
            Option.bind (Zh (Za r54.2) 4) fun r60 =>
            bif (decide ((0 : Int) < index)) then
              Option.bind (Zh (Za r60.2) index) fun r61 =>
              some ((V.agg [(V.int .i64 r12.1), (V.inl Zb r54.1), (V.inl Zb r53.1), (V.int .i64 (IntKind.i64.wrap (1 + r61.1)))]), (Za r61.2))
            else some ((V.agg [(V.int .i64 r12.1), (V.inl Zb r54.1), (V.inl Zb r53.1), (V.int .i64 (IntKind.i64.wrap (1 + r60.1)))]), (Za r60.2))
          else bif (decide (r12.1 = 7)) then
            Option.bind (Zh (Za r54.2) 4) fun r62 =>
            bif (decide ((0 : Int) < index)) then
              Option.bind (Zh (Za r62.2) index) fun r63 =>
              some ((V.agg [(V.int .i64 r12.1), (V.inl Zb r54.1), (V.inl Zb r53.1), (V.int .i64 (IntKind.i64.wrap (1 + r63.1)))]), (Za r63.2))
            else some ((V.agg [(V.int .i64 r12.1), (V.inl Zb r54.1), (V.inl Zb r53.1), (V.int .i64 (IntKind.i64.wrap (1 + r62.1)))]), (Za r62.2))
          else some ((V.agg [(V.int .i64 r12.1), (V.inl Zb r54.1), (V.inl Zb r53.1), (V.int .i64 0)]), (Za r54.2))
        else bif (decide (r12.1 = 4)) then
          Option.bind (Zh (Za r53.2) 2) fun r64 =>
          some ((V.agg [(V.int .i64 r12.1), (V.inl Zb []), (V.inl Zb r53.1), (V.int .i64 r64.1)]), (Za r64.2))
        else bif (decide (r12.1 = 2)) then
          Option.bind (Zh (Za r53.2) (IntKind.i64.wrap (index + 1))) fun r65 =>
          Option.bind (Zh (Za r65.2) 2) fun r66 =>
          some ((V.agg [(V.int .i64 r12.1), (V.inl Zb []), (V.inl Zb r53.1), (V.int .i64 (IntKind.i64.wrap (r65.1 * r66.1)))]), (Za r66.2))
        else bif (decide (r12.1 = 5)) then
          Option.bind (Zh (Za r53.2) 4) fun r67 =>
          bif (decide ((0 : Int) < index)) then
            Option.bind (Zh (Za r67.2) index) fun r68 =>
            some ((V.agg [(V.int .i64 r12.1), (V.inl Zb []), (V.inl Zb r53.1), (V.int .i64 (IntKind.i64.wrap (1 + r68.1)))]), (Za r68.2))
          else some ((V.agg [(V.int .i64 r12.1), (V.inl Zb []), (V.inl Zb r53.1), (V.int .i64 (IntKind.i64.wrap (1 + r67.1)))]), (Za r67.2))
        else bif (decide (r12.1 = 6)) then
          Option.bind (Zh (Za r53.2) 4) fun r69 =>
          bif (decide ((0 : Int) < index)) then
            Option.bind (Zh (Za r69.2) index) fun r70 =>
            some ((V.agg [(V.int .i64 r12.1), (V.inl Zb []), (V.inl Zb r53.1), (V.int .i64 (IntKind.i64.wrap (1 + r70.1)))]), (Za r70.2))
          else some ((V.agg [(V.int .i64 r12.1), (V.inl Zb []), (V.inl Zb r53.1), (V.int .i64 (IntKind.i64.wrap (1 + r69.1)))]), (Za r69.2))
        else bif (decide (r12.1 = 7)) then
          Option.bind (Zh (Za r53.2) 4) fun r71 =>
          bif (decide ((0 : Int) < index)) then
            Option.bind (Zh (Za r71.2) index) fun r72 =>
            some ((V.agg [(V.int .i64 r12.1), (V.inl Zb []), (V.inl Zb r53.1), (V.int .i64 (IntKind.i64.wrap (1 + r72.1)))]), (Za r72.2))
          else some ((V.agg [(V.int .i64 r12.1), (V.inl Zb []), (V.inl Zb r53.1), (V.int .i64 (IntKind.i64.wrap (1 + r71.1)))]), (Za r71.2))
        else some ((V.agg [(V.int .i64 r12.1), (V.inl Zb []), (V.inl Zb r53.1), (V.int .i64 0)]), (Za r53.2))
      else bif (decide (r12.1 = 4)) then
        Option.bind (Zh (Za r53.2) 2) fun r73 =>
        some ((V.agg [(V.int .i64 r12.1), (V.inl Zb []), (V.inl Zb r53.1), (V.int .i64 r73.1)]), (Za r73.2))
      else bif (decide (r12.1 = 2)) then
        Option.bind (Zh (Za r53.2) (IntKind.i64.wrap (index + 1))) fun r74 =>
        Option.bind (Zh (Za r74.2) 2) fun r75 =>
        some ((V.agg [(V.int .i64 r12.1), (V.inl Zb []), (V.inl Zb r53.1), (V.int .i64 (IntKind.i64.wrap (r74.1 * r75.1)))]), (Za r75.2))
      else bif (decide (r12.1 = 5)) then
        Option.bind (Zh (Za r53.2) 4) fun r76 =>
        bif (decide ((0 : Int) < index)) then
          Option.bind (Zh (Za r76.2) index) fun r77 =>
          some ((V.agg [(V.int .i64 r12.1), (V.inl Zb []), (V.inl Zb r53.1), (V.int .i64 (IntKind.i64.wrap (1 + r77.1)))]), (Za r77.2))
        else some ((V.agg [(V.int .i64 r12.1), (V.inl Zb []), (V.inl Zb r53.1), (V.int .i64 (IntKind.i64.wrap (1 + r76.1)))]), (Za r76.2))
      else bif (decide (r12.1 = 6)) then
        Option.bind (Zh (Za r53.2) 4) fun r78 =>
        bif (decide ((0 : Int) < index)) then
          Option.bind (Zh (Za r78.2) index) fun r79 =>
          some ((V.agg [(V.int .i64 r12.1), (V.inl Zb []), (V.inl Zb r53.1), (V.int .i64 (IntKind.i64.wrap (1 + r79.1)))]), (Za r79.2))
        else some ((V.agg [(V.int .i64 r12.1), (V.inl Zb []), (V.inl Zb r53.1), (V.int .i64 (IntKind.i64.wrap (1 + r78.1)))]), (Za r78.2))
      else bif (decide (r12.1 = 7)) then
        Option.bind (Zh (Za r53.2) 4) fun r80 =>
        bif (decide ((0 : Int) < index)) then
          Option.bind (Zh (Za r80.2) index) fun r81 =>
          some ((V.agg [(V.int .i64 r12.1), (V.inl Zb []), (V.inl Zb r53.1), (V.int .i64 (IntKind.i64.wrap (1 + r81.1)))]), (Za r81.2))
        else some ((V.agg [(V.int .i64 r12.1), (V.inl Zb []), (V.inl Zb r53.1), (V.int .i64 (IntKind.i64.wrap (1 + r80.1)))]), (Za r80.2))
      else some ((V.agg [(V.int .i64 r12.1), (V.inl Zb []), (V.inl Zb r53.1), (V.int .i64 0)]), (Za r53.2))
    else bif (decide (r12.1 = 4)) then
      Option.bind (Zh (Za r53.2) 2) fun r82 =>
      some ((V.agg [(V.int .i64 r12.1), (V.inl Zb []), (V.inl Zb r53.1), (V.int .i64 r82.1)]), (Za r82.2))
    else bif (decide (r12.1 = 2)) then
      Option.bind (Zh (Za r53.2) (IntKind.i64.wrap (index + 1))) fun r83 =>
      Option.bind (Zh (Za r83.2) 2) fun r84 =>
      some ((V.agg [(V.int .i64 r12.1), (V.inl Zb []), (V.inl Zb r53.1), (V.int .i64 (IntKind.i64.wrap (r83.1 * r84.1)))]), (Za r84.2))
    else bif (decide (r12.1 = 5)) then
      Option.bind (Zh (Za r53.2) 4) fun r85 =>
      bif (decide ((0 : Int) < index)) then
        Option.bind (Zh (Za r85.2) index) fun r86 =>
        some ((V.agg [(V.int .i64 r12.1), (V.inl Zb []), (V.inl Zb r53.1), (V.int .i64 (IntKind.i64.wrap (1 + r86.1)))]), (Za r86.2))
      else some ((V.agg [(V.int .i64 r12.1), (V.inl Zb []), (V.inl Zb r53.1), (V.int .i64 (IntKind.i64.wrap (1 + r85.1)))]), (Za r85.2))
    else bif (decide (r12.1 = 6)) then
      Option.bind (Zh (Za r53.2) 4) fun r87 =>
      bif (decide ((0 : Int) < index)) then
        Option.bind (Zh (Za r87.2) index) fun r88 =>
        some ((V.agg [(V.int .i64 r12.1), (V.inl Zb []), (V.inl Zb r53.1), (V.int .i64 (IntKind.i64.wrap (1 + r88.1)))]), (Za r88.2))
      else some ((V.agg [(V.int .i64 r12.1), (V.inl Zb []), (V.inl Zb r53.1), (V.int .i64 (IntKind.i64.wrap (1 + r87.1)))]), (Za r87.2))
    else bif (decide (r12.1 = 7)) then
      Option.bind (Zh (Za r53.2) 4) fun r89 =>
      bif (decide ((0 : Int) < index)) then
        Option.bind (Zh (Za r89.2) index) fun r90 =>
        some ((V.agg [(V.int .i64 r12.1), (V.inl Zb []), (V.inl Zb r53.1), (V.int .i64 (IntKind.i64.wrap (1 + r90.1)))]), (Za r90.2))
      else some ((V.agg [(V.int .i64 r12.1), (V.inl Zb []), (V.inl Zb r53.1), (V.int .i64 (IntKind.i64.wrap (1 + r89.1)))]), (Za r89.2))
    else some ((V.agg [(V.int .i64 r12.1), (V.inl Zb []), (V.inl Zb r53.1), (V.int .i64 0)]), (Za r53.2))
  else bif (decide (r12.1 = 6)) then
    Option.bind (ZbV (Za r12.2)) fun r91 =>
    bif (!(decide (r12.1 = 0))) then
      bif (!(decide (r12.1 = 4))) then
        bif (!(decide (r12.1 = 5))) then
          Option.bind (ZaN (Za r91.2)) fun r92 =>
          bif (decide (r12.1 = 4)) then
            Option.bind (Zh (Za r92.2) 2) fun r93 =>
            some ((V.agg [(V.int .i64 r12.1), (V.inl Zb r92.1), (V.inl Zb r91.1), (V.int .i64 r93.1)]), (Za r93.2))
          else bif (decide (r12.1 = 2)) then
            Option.bind (Zh (Za r92.2) (IntKind.i64.wrap (index + 1))) fun r94 =>
            Option.bind (Zh (Za r94.2) 2) fun r95 =>
            some ((V.agg [(V.int .i64 r12.1), (V.inl Zb r92.1), (V.inl Zb r91.1), (V.int .i64 (IntKind.i64.wrap (r94.1 * r95.1)))]), (Za r95.2))
          else bif (decide (r12.1 = 5)) then
            Option.bind (Zh (Za r92.2) 4) fun r96 =>
            bif (decide ((0 : Int) < index)) then
              Option.bind (Zh (Za r96.2) index) fun r97 =>
              some ((V.agg [(V.int .i64 r12.1), (V.inl Zb r92.1), (V.inl Zb r91.1), (V.int .i64 (IntKind.i64.wrap (1 + r97.1)))]), (Za r97.2))
            else some ((V.agg [(V.int .i64 r12.1), (V.inl Zb r92.1), (V.inl Zb r91.1), (V.int .i64 (IntKind.i64.wrap (1 + r96.1)))]), (Za r96.2))
          else bif (decide (r12.1 = 6)) then
            Option.bind (Zh (Za r92.2) 4) fun r98 =>
            bif (decide ((0 : Int) < index)) then
              Option.bind (Zh (Za r98.2) index) fun r99 =>
              some ((V.agg [(V.int .i64 r12.1), (V.inl Zb r92.1), (V.inl Zb r91.1), (V.int .i64 (IntKind.i64.wrap (1 + r99.1)))]), (Za r99.2))
            else some ((V.agg [(V.int .i64 r12.1), (V.inl Zb r92.1), (V.inl Zb r91.1), (V.int .i64 (IntKind.i64.wrap (1 + r98.1)))]), (Za r98.2))
          else bif (decide (r12.1 = 7)) then
            Option.bind (Zh (Za r92.2) 4) fun r100 =>
            bif (decide ((0 : Int) < index)) then
              Option.bind (Zh (Za r100.2) index) fun r101 =>
              some ((V.agg [(V.int .i64 r12.1), (V.inl Zb r92.1), (V.inl Zb r91.1), (V.int .i64 (IntKind.i64.wrap (1 + r101.1)))]), (Za r101.2))
            else some ((V.agg [(V.int .i64 r12.1), (V.inl Zb r92.1), (V.inl Zb r91.1), (V.int .i64 (IntKind.i64.wrap (1 + r100.1)))]), (Za r100.2))
          else some ((V.agg [(V.int .i64 r12.1), (V.inl Zb r92.1), (V.inl Zb r91.1), (V.int .i64 0)]), (Za r92.2))
        else bif (decide (r12.1 = 4)) then
          Option.bind (Zh (Za r91.2) 2) fun r102 =>
          some ((V.agg [(V.int .i64 r12.1), (V.inl Zb []), (V.inl Zb r91.1), (V.int .i64 r102.1)]), (Za r102.2))
        else bif (decide (r12.1 = 2)) then
          Option.bind (Zh (Za r91.2) (IntKind.i64.wrap (index + 1))) fun r103 =>
          Option.bind (Zh (Za r103.2) 2) fun r104 =>
          some ((V.agg [(V.int .i64 r12.1), (V.inl Zb []), (V.inl Zb r91.1), (V.int .i64 (IntKind.i64.wrap (r103.1 * r104.1)))]), (Za r104.2))
        else bif (decide (r12.1 = 5)) then
          Option.bind (Zh (Za r91.2) 4) fun r105 =>
          bif (decide ((0 : Int) < index)) then
            Option.bind (Zh (Za r105.2) index) fun r106 =>
            some ((V.agg [(V.int .i64 r12.1), (V.inl Zb []), (V.inl Zb r91.1), (V.int .i64 (IntKind.i64.wrap (1 + r106.1)))]), (Za r106.2))
          else some ((V.agg [(V.int .i64 r12.1), (V.inl Zb []), (V.inl Zb r91.1), (V.int .i64 (IntKind.i64.wrap (1 + r105.1)))]), (Za r105.2))
        else bif (decide (r12.1 = 6)) then
          Option.bind (Zh (Za r91.2) 4) fun r107 =>
          bif (decide ((0 : Int) < index)) then
            Option.bind (Zh (Za r107.2) index) fun r108 =>
            some ((V.agg [(V.int .i64 r12.1), (V.inl Zb []), (V.inl Zb r91.1), (V.int .i64 (IntKind.i64.wrap (1 + r108.1)))]), (Za r108.2))
          else some ((V.agg [(V.int .i64 r12.1), (V.inl Zb []), (V.inl Zb r91.1), (V.int .i64 (IntKind.i64.wrap (1 + r107.1)))]), (Za r107.2))
        else bif (decide (r12.1 = 7)) then
          Option.bind (Zh (Za r91.2) 4) fun r109 =>
          bif (decide ((0 : Int) < index)) then
            Option.bind (Zh (Za r109.2) index) fun r110 =>
            some ((V.agg [(V.int .i64 r12.1), (V.inl Zb []), (V.inl Zb r91.1), (V.int .i64 (IntKind.i64.wrap (1 + r110.1)))]), (Za r110.2))
          else some ((V.agg [(V.int .i64 r12.1), (V.inl Zb []), (V.inl Zb r91.1), (V.int .i64 (IntKind.i64.wrap (1 + r109.1)))]), (Za r109.2))
        else some ((V.agg [(V.int .i64 r12.1), (V.inl Zb []), (V.inl Zb r91.1), (V.int .i64 0)]), (Za r91.2))
      else bif (decide (r12.1 = 4)) then
        Option.bind (Zh (Za r91.2) 2) fun r111 =>
        some ((V.agg [(V.int .i64 r12.1), (V.inl Zb []), (V.inl Zb r91.1), (V.int .i64 r111.1)]), (Za r111.2))
      else bif (decide (r12.1 = 2)) then
        Option.bind (Zh (Za r91.2) (IntKind.i64.wrap (index + 1))) fun r112 =>
        Option.bind (Zh (Za r112.2) 2) fun r113 =>
        some ((V.agg [(V.int .i64 r12.1), (V.inl Zb []), (V.inl Zb r91.1), (V.int .i64 (IntKind.i64.wrap (r112.1 * r113.1)))]), (Za r113.2))
      else bif (decide (r12.1 = 5)) then
        Option.bind (Zh (Za r91.2) 4) fun r114 =>
        bif (decide ((0 : Int) < index)) then
          Option.bind (Zh (Za r114.2) index) fun r115 =>
          some ((V.agg [(V.int .i64 r12.1), (V.inl Zb []), (V.inl Zb r91.1), (V.int .i64 (IntKind.i64.wrap (1 + r115.1)))]), (Za r115.2))
        else some ((V.agg [(V.int .i64 r12.1), (V.inl Zb []), (V.inl Zb r91.1), (V.int .i64 (IntKind.i64.wrap (1 + r114.1)))]), (Za r114.2))
      else bif (decide (r12.1 = 6)) then
        Option.bind (Zh (Za r91.2) 4) fun r116 =>
        bif (decide ((0 : Int) < index)) then
          Option.bind (Zh (Za r116.2) index) fun r117 =>
          some ((V.agg [(V.int .i64 r12.1), (V.inl Zb []), (V.inl Zb r91.1), (V.int .i64 (IntKind.i64.wrap (1 + r117.1)))]), (Za r117.2))
        else some ((V.agg [(V.int .i64 r12.1), (V.inl Zb []), (V.inl Zb r91.1), (V.int .i64 (IntKind.i64.wrap (1 + r116.1)))]), (Za r116.2))
      else bif (decide (r12.1 = 7)) then
        Option.bind (Zh (Za r91.2) 4) fun r118 =>
        bif (decide ((0 : Int) < index)) then
          Option.bind (Zh (Za r118.2) index) fun r119 =>
          some ((V.agg [(V.int .i64 r12.1), (V.inl Zb []), (V.inl Zb r91.1), (V.int .i64 (IntKind.i64.wrap (1 + r119.1)))]), (Za r119.2))
        else some ((V.agg [(V.int .i64 r12.1), (V.inl Zb []), (V.inl Zb r91.1), (V.int .i64 (IntKind.i64.wrap (1 + r118.1)))]), (Za r118.2))
      else some ((V.agg [(V.int .i64 r12.1), (V.inl Zb []), (V.inl Zb r91.1), (V.int .i64 0)]), (Za r91.2))
    else bif (decide (r12.1 = 4)) then
      Option.bind (Zh (Za r91.2) 2) fun r120 =>
      some ((V.agg [(V.int .i64 r12.1), (V.inl Zb []), (V.inl Zb r91.1), (V.int .i64 r120.1)]), (Za r120.2))
    else bif (decide (r12.1 = 2)) then
      Option.bind (Zh (Za r91.2) (IntKind.i64.wrap (index + 1))) fun r121 =>
      Option.bind (Zh (Za r121.2) 2) fun r122 =>
      some ((V.agg [(V.int .i64 r12.1), (V.inl Zb []), (V.inl Zb r91.1), (V.int .i64 (IntKind.i64.wrap (r121.1 * r122.1)))]), (Za r122.2))
    else bif (decide (r12.1 = 5)) then
      Option.bind (Zh (Za r91.2) 4) fun r123 =>
      bif (decide ((0 : Int) < index)) then
        Option.bind (Zh (Za r123.2) index) fun r124 =>
        some ((V.agg [(V.int .i64 r12.1), (V.inl Zb []), (V.inl Zb r91.1), (V.int .i64 (IntKind.i64.wrap (1 + r124.1)))]), (Za r124.2))
      else some ((V.agg [(V.int .i64 r12.1), (V.inl Zb []), (V.inl Zb r91.1), (V.int .i64 (IntKind.i64.wrap (1 + r123.1)))]), (Za r123.2))
    else bif (decide (r12.1 = 6)) then
      Option.bind (Zh (Za r91.2) 4) fun r125 =>
      bif (decide ((0 : Int) < index)) then
        Option.bind (Zh (Za r125.2) index) fun r126 =>
        some ((V.agg [(V.int .i64 r12.1), (V.inl Zb []), (V.inl Zb r91.1), (V.int .i64 (IntKind.i64.wrap (1 + r126.1)))]), (Za r126.2))
      else some ((V.agg [(V.int .i64 r12.1), (V.inl Zb []), (V.inl Zb r91.1), (V.int .i64 (IntKind.i64.wrap (1 + r125.1)))]), (Za r125.2))
    else bif (decide (r12.1 = 7)) then
      Option.bind (Zh (Za r91.2) 4) fun r127 =>
      bif (decide ((0 : Int) < index)) then
        Option.bind (Zh (Za r127.2) index) fun r128 =>
        some ((V.agg [(V.int .i64 r12.1), (V.inl Zb []), (V.inl Zb r91.1), (V.int .i64 (IntKind.i64.wrap (1 + r128.1)))]), (Za r128.2))
      else some ((V.agg [(V.int .i64 r12.1), (V.inl Zb []), (V.inl Zb r91.1), (V.int .i64 (IntKind.i64.wrap (1 + r127.1)))]), (Za r127.2))
    else some ((V.agg [(V.int .i64 r12.1), (V.inl Zb []), (V.inl Zb r91.1), (V.int .i64 0)]), (Za r91.2))
  else bif (!(decide (r12.1 = 0))) then
    bif (!(decide (r12.1 = 4))) then
      bif (!(decide (r12.1 = 5))) then
        Option.bind (ZaN (Za r12.2)) fun r129 =>
        bif (decide (r12.1 = 4)) then
          Option.bind (Zh (Za r129.2) 2) fun r130 =>
          some ((V.agg [(V.int .i64 r12.1), (V.inl Zb r129.1), (V.inl Zb []), (V.int .i64 r130.1)]), (Za r130.2))
        else bif (decide (r12.1 = 2)) then
          Option.bind (Zh (Za r129.2) (IntKind.i64.wrap (index + 1))) fun r131 =>
          Option.bind (Zh (Za r131.2) 2) fun r132 =>
          some ((V.agg [(V.int .i64 r12.1), (V.inl Zb r129.1), (V.inl Zb []), (V.int .i64 (IntKind.i64.wrap (r131.1 * r132.1)))]), (Za r132.2))
        else bif (decide (r12.1 = 5)) then
          Option.bind (Zh (Za r129.2) 4) fun r133 =>
          bif (decide ((0 : Int) < index)) then
            Option.bind (Zh (Za r133.2) index) fun r134 =>
            some ((V.agg [(V.int .i64 r12.1), (V.inl Zb r129.1), (V.inl Zb []), (V.int .i64 (IntKind.i64.wrap (1 + r134.1)))]), (Za r134.2))
          else some ((V.agg [(V.int .i64 r12.1), (V.inl Zb r129.1), (V.inl Zb []), (V.int .i64 (IntKind.i64.wrap (1 + r133.1)))]), (Za r133.2))
        else bif (decide (r12.1 = 6)) then
          Option.bind (Zh (Za r129.2) 4) fun r135 =>
          bif (decide ((0 : Int) < index)) then
            Option.bind (Zh (Za r135.2) index) fun r136 =>
            some ((V.agg [(V.int .i64 r12.1), (V.inl Zb r129.1), (V.inl Zb []), (V.int .i64 (IntKind.i64.wrap (1 + r136.1)))]), (Za r136.2))
          else some ((V.agg [(V.int .i64 r12.1), (V.inl Zb r129.1), (V.inl Zb []), (V.int .i64 (IntKind.i64.wrap (1 + r135.1)))]), (Za r135.2))
        else bif (decide (r12.1 = 7)) then
          Option.bind (Zh (Za r129.2) 4) fun r137 =>
          bif (decide ((0 : Int) < index)) then
            Option.bind (Zh (Za r137.2) index) fun r138 =>
            some ((V.agg [(V.int .i64 r12.1), (V.inl Zb r129.1), (V.inl Zb []), (V.int .i64 (IntKind.i64.wrap (1 + r138.1)))]), (Za r138.2))
          else some ((V.agg [(V.int .i64 r12.1), (V.inl Zb r129.1), (V.inl Zb []), (V.int .i64 (IntKind.i64.wrap (1 + r137.1)))]), (Za r137.2))
        else some ((V.agg [(V.int .i64 r12.1), (V.inl Zb r129.1), (V.inl Zb []), (V.int .i64 0)]), (Za r129.2))
      else bif (decide (r12.1 = 4)) then
        Option.bind (Zh (Za r12.2) 2) fun r139 =>
        some ((V.agg [(V.int .i64 r12.1), (V.inl Zb []), (V.inl Zb []), (V.int .i64 r139.1)]), (Za r139.2))
      else bif (decide (r12.1 = 2)) then
        Option.bind (Zh (Za r12.2) (IntKind.i64.wrap (index + 1))) fun r140 =>
        Option.bind (Zh (Za r140.2) 2) fun r141 =>
        some ((V.agg [(V.int .i64 r12.1), (V.inl Zb []), (V.inl Zb []), (V.int .i64 (IntKind.i64.wrap (r140.1 * r141.1)))]), (Za r141.2))
      else bif (decide (r12.1 = 5)) then
        Option.bind (Zh (Za r12.2) 4) fun r142 =>
        bif (decide ((0 : Int) < index)) then
          Option.bind (Zh (Za r142.2) index) fun r143 =>
          some ((V.agg [(V.int .i64 r12.1), (V.inl Zb []), (V.inl Zb []), (V.int .i64 (IntKind.i64.wrap (1 + r143.1)))]), (Za r143.2))
        else some ((V.agg [(V.int .i64 r12.1), (V.inl Zb []), (V.inl Zb []), (V.int .i64 (IntKind.i64.wrap (1 + r142.1)))]), (Za r142.2))
      else bif (decide (r12.1 = 6)) then
        Option.bind (Zh (Za r12.2) 4) fun r144 =>
        bif (decide ((0 : Int) < index)) then
          Option.bind (Zh (Za r144.2) index) fun r145 =>
          some ((V.agg [(V.int .i64 r12.1), (V.inl Zb []), (V.inl Zb []), (V.int .i64 (IntKind.i64.wrap (1 + r145.1)))]), (Za r145.2))
        else some ((V.agg [(V.int .i64 r12.1), (V.inl Zb []), (V.inl Zb []), (V.int .i64 (IntKind.i64.wrap (1 + r144.1)))]), (Za r144.2))
      else bif (decide (r12.1 = 7)) then
        Option.bind (Zh (Za r12.2) 4) fun r146 =>
        bif (decide ((0 : Int) < index)) then
          Option.bind (Zh (Za r146.2) index) fun r147 =>
          some ((V.agg [(V.int .i64 r12.1), (V.inl Zb []), (V.inl Zb []), (V.int .i64 (IntKind.i64.wrap (1 + r147.1)))]), (Za r147.2))
        else some ((V.agg [(V.int .i64 r12.1), (V.inl Zb []), (V.inl Zb []), (V.int .i64 (IntKind.i64.wrap (1 + r146.1)))]), (Za r146.2))
      else some ((V.agg [(V.int .i64 r12.1), (V.inl Zb []), (V.inl Zb []), (V.int .i64 0)]), (Za r12.2))
    else bif (decide (r12.1 = 4)) then
      Option.bind (Zh (Za r12.2) 2) fun r148 =>
      some ((V.agg [(V.int .i64 r12.1), (V.inl Zb []), (V.inl Zb []), (V.int .i64 r148.1)]), (Za r148.2))
    else bif (decide (r12.1 = 2)) then
      Option.bind (Zh (Za r12.2) (IntKind.i64.wrap (index + 1))) fun r149 =>
      Option.bind (Zh (Za r149.2) 2) fun r150 =>
      some ((V.agg [(V.int .i64 r12.1), (V.inl Zb []), (V.inl Zb []), (V.int .i64 (IntKind.i64.wrap (r149.1 * r150.1)))]), (Za r150.2))
    else bif (decide (r12.1 = 5)) then
      Option.bind (Zh (Za r12.2) 4) fun r151 =>
      bif (decide ((0 : Int) < index)) then
        Option.bind (Zh (Za r151.2) index) fun r152 =>
        some ((V.agg [(V.int .i64 r12.1), (V.inl Zb []), (V.inl Zb []), (V.int .i64 (IntKind.i64.wrap (1 + r152.1)))]), (Za r152.2))
      else some ((V.agg [(V.int .i64 r12.1), (V.inl Zb []), (V.inl Zb []), (V.int .i64 (IntKind.i64.wrap (1 + r151.1)))]), (Za r151.2))
    else bif (decide (r12.1 = 6)) then
      Option.bind (Zh (Za r12.2) 4) fun r153 =>
      bif (decide ((0 : Int) < index)) then
        Option.bind (Zh (Za r153.2) index) fun r154 =>
        some ((V.agg [(V.int .i64 r12.1), (V.inl Zb []), (V.inl Zb []), (V.int .i64 (IntKind.i64.wrap (1 + r154.1)))]), (Za r154.2))
      else some ((V.agg [(V.int .i64 r12.1), (V.inl Zb []), (V.inl Zb []), (V.int .i64 (IntKind.i64.wrap (1 + r153.1)))]), (Za r153.2))
    else bif (decide (r12.1 = 7)) then
      Option.bind (Zh (Za r12.2) 4) fun r155 =>
      bif (decide ((0 : Int) < index)) then
        Option.bind (Zh (Za r155.2) index) fun r156 =>
        some ((V.agg [(V.int .i64 r12.1), (V.inl Zb []), (V.inl Zb []), (V.int .i64 (IntKind.i64.wrap (1 + r156.1)))]), (Za r156.2))
      else some ((V.agg [(V.int .i64 r12.1), (V.inl Zb []), (V.inl Zb []), (V.int .i64 (IntKind.i64.wrap (1 + r155.1)))]), (Za r155.2))
    else some ((V.agg [(V.int .i64 r12.1), (V.inl Zb []), (V.inl Zb []), (V.int .i64 0)]), (Za r12.2))
  else bif (decide (r12.1 = 4)) then
    Option.bind (Zh (Za r12.2) 2) fun r157 =>
    some ((V.agg [(V.int .i64 r12.1), (V.inl Zb []), (V.inl Zb []), (V.int .i64 r157.1)]), (Za r157.2))
  else bif (decide (r12.1 = 2)) then
    Option.bind (Zh (Za r12.2) (IntKind.i64.wrap (index + 1))) fun r158 =>
    Option.bind (Zh (Za r158.2) 2) fun r159 =>
    some ((V.agg [(V.int .i64 r12.1), (V.inl Zb []), (V.inl Zb []), (V.int .i64 (IntKind.i64.wrap (r158.1 * r159.1)))]), (Za r159.2))
  else bif (decide (r12.1 = 5)) then
    Option.bind (Zh (Za r12.2) 4) fun r160 =>
    bif (decide ((0 : Int) < index)) then
      Option.bind (Zh (Za r160.2) index) fun r161 =>
      some ((V.agg [(V.int .i64 r12.1), (V.inl Zb []), (V.inl Zb []), (V.int .i64 (IntKind.i64.wrap (1 + r161.1)))]), (Za r161.2))
    else some ((V.agg [(V.int .i64 r12.1), (V.inl Zb []), (V.inl Zb []), (V.int .i64 (IntKind.i64.wrap (1 + r160.1)))]), (Za r160.2))
  else bif (decide (r12.1 = 6)) then
    Option.bind (Zh (Za r12.2) 4) fun r162 =>
    bif (decide ((0 : Int) < index)) then
      Option.bind (Zh (Za r162.2) index) fun r163 =>
      some ((V.agg [(V.int .i64 r12.1), (V.inl Zb []), (V.inl Zb []), (V.int .i64 (IntKind.i64.wrap (1 + r163.1)))]), (Za r163.2))
    else some ((V.agg [(V.int .i64 r12.1), (V.inl Zb []), (V.inl Zb []), (V.int .i64 (IntKind.i64.wrap (1 + r162.1)))]), (Za r162.2))
  else bif (decide (r12.1 = 7)) then
    Option.bind (Zh (Za r12.2) 4) fun r164 =>
    bif (decide ((0 : Int) < index)) then
      Option.bind (Zh (Za r164.2) index) fun r165 =>
      some ((V.agg [(V.int .i64 r12.1), (V.inl Zb []), (V.inl Zb []), (V.int .i64 (IntKind.i64.wrap (1 + r165.1)))]), (Za r165.2))
    else some ((V.agg [(V.int .i64 r12.1), (V.inl Zb []), (V.inl Zb []), (V.int .i64 (IntKind.i64.wrap (1 + r164.1)))]), (Za r164.2))
  else some ((V.agg [(V.int .i64 r12.1), (V.inl Zb []), (V.inl Zb []), (V.int .i64 0)]), (Za r12.2))
def ZG (c : V) (n : Int) : Option (Bool × V) :=
  Option.bind (Zh (Za c) n) fun r168 =>
  some ((decide (r168.1 = 0)), (Za r168.2))
def ZbI : Nat → List V → Int → V → Option (Nat × Int)
  | 0, _, _, _ => none
  | k_ + 1, key1, i5, b0 =>
    bif (decide (i5 < (((gl b0 1).length : Nat) : Int))) then
      bif (Zm i5 ((gl b0 1).length)) then
        bif (Zba ((gl (rd (gl b0 1) i5.toNat) 0).map ZaB) (key1.map ZaB)) then
          some (0, i5)
        else ZbI k_ key1 (IntKind.i64.wrap (i5 + 1)) (Zc b0)
      else none
    else some (1, 0)
def Za1 (s : V) (key : List V) : Option (Int) :=
  Option.bind (ZbI (((((gl (Zc s) 1).length : Nat) : Int) - 0).toNat + 1) key 0 (Zc s)) fun r171 =>
  bif (Nat.beq r171.1 0) then
    some r171.2
  else some (-1)
def Zbt : Nat → List V → Int → V → Option (Nat × Int)
  | 0, _, _, _ => none
  | k_ + 1, key1, i5, b0 =>
    bif (decide (i5 < (((gl b0 2).length : Nat) : Int))) then
      bif (Zm i5 ((gl b0 2).length)) then
        bif (Zba ((gl (rd (gl b0 2) i5.toNat) 0).map ZaB) (key1.map ZaB)) then
          some (0, i5)
        else Zbt k_ key1 (IntKind.i64.wrap (i5 + 1)) (Zc b0)
      else none
    else some (1, 0)
def Zde (s : V) (key : List V) : Option (Int) :=
  Option.bind (Zbt (((((gl (Zc s) 2).length : Nat) : Int) - 0).toNat + 1) key 0 (Zc s)) fun r174 =>
  bif (Nat.beq r174.1 0) then
    some r174.2
  else some (-1)
def Zbu : Nat → Int → Int → V → Option (Nat × Int)
  | 0, _, _, _ => none
  | k_ + 1, id1, i5, b0 =>
    bif (decide (i5 < (((gl b0 4).length : Nat) : Int))) then
      bif (Zm i5 ((gl b0 4).length)) then
        bif (decide ((gi (rd (gl b0 4) i5.toNat) 0) = id1)) then
          some (0, i5)
        else Zbu k_ id1 (IntKind.i64.wrap (i5 + 1)) (Zc b0)
      else none
    else some (1, 0)
def ZbB (s : V) (id : Int) : Option (Int) :=
  Option.bind (Zbu (((((gl (Zc s) 4).length : Nat) : Int) - 0).toNat + 1) id 0 (Zc s)) fun r183 =>
  bif (Nat.beq r183.1 0) then
    some r183.2
  else some (-1)
def ZbK : Nat → V → List V → List V → List V → List V → Option (V × List V × List V × List V × List V)
  | 0, _, _, _, _, _ => none
  | k_ + 1, b0, r1, r2, r3, r4 =>
    bif (decide ((10 : Int) < ((r2.length : Nat) : Int))) then
      bif (Zm 0 r2.length) then
        bif (decide ((1 : Int) ≤ ((r2.length : Nat) : Int))) then
          none
        else none
      else none
    else some ((V.agg [(V.int .i64 (gi b0 0)), (V.sl 1 Zg 0 none), (V.sl 2 Zf 0 none), (V.int .i64 (gi b0 3)), (V.sl 3 Zd 0 none), (V.sl 4 Ze 0 none)]), r1, r2, r3, r4)
def Zcy (s : V) (i : Int) : Option (V) :=
  bif (Zm i ((gl s 1).length)) then
    bif ((decide ((0 : Int) ≤ i)) && (decide (i ≤ (((gl s 1).length : Nat) : Int)))) then
      bif ((Zu (0 + (((gl s 1).take i.toNat).length)) 64) && true) then
        bif ((decide ((0 : Int) ≤ (IntKind.i64.wrap (i + 1)))) && (decide ((IntKind.i64.wrap (i + 1)) ≤ (((gl s 1).length : Nat) : Int)))) then
          bif ((Zu ((((gl s 1).take i.toNat).length) + ((((gl s 1).drop (0 + ((IntKind.i64.wrap (i + 1)).toNat))).take (((gl s 1).length) - ((IntKind.i64.wrap (i + 1)).toNat))).length)) 64) && true) then
            bif ((Zu (0 + ((gl s 2).length)) 32) && true) then
              bif ((Zu (((gl s 2).length) + 1) 32) && true) then
                Option.bind (ZbK ((((((gl s 2) ++ [(V.agg [(V.inl Zb (gl (rd (gl s 1) (0 + i.toNat)) 0)), (V.int .i64 (gi s 0))])]).length : Nat) : Int) - 10).toNat + 1) (V.agg [(V.int .i64 (gi s 0)), (V.sl 1 Zg 0 none), (V.sl 2 Zf 0 none), (V.int .i64 (gi s 3)), (V.sl 3 Zd 0 none), (V.sl 4 Ze 0 none)]) (((gl s 1).take i.toNat) ++ (((gl s 1).drop (0 + ((IntKind.i64.wrap (i + 1)).toNat))).take (((gl s 1).length) - ((IntKind.i64.wrap (i + 1)).toNat)))) ((gl s 2) ++ [(V.agg [(V.inl Zb (gl (rd (gl s 1) (0 + i.toNat)) 0)), (V.int .i64 (gi s 0))])]) (gl s 4) (gl s 5)) fun r186 =>
                some (V.agg [(V.int .i64 (gi r186.1 0)), (V.inl Zg r186.2.1), (V.inl Zf r186.2.2.1), (V.int .i64 (gi r186.1 3)), (V.inl Zd r186.2.2.2.1), (V.inl Ze r186.2.2.2.2)])
              else none
            else none
          else none
        else none
      else none
    else none
  else none
def Z2 : Nat → List V → List V → Int → V → List V → List V → List V → List V → Option (List V × List V × Int × V × List V × List V × List V × List V)
  | 0, _, _, _, _, _, _, _, _ => none
  | k_ + 1, key1, val2, i7, b0, r1, r2, r3, r4 =>
    bif (decide (i7 < ((r1.length : Nat) : Int))) then
      bif (Zm i7 r1.length) then
        bif (Zcb ((gl (rd r1 (0 + i7.toNat)) 0).map ZaB) (key1.map ZaB)) then
          Z2 k_ key1 val2 (IntKind.i64.wrap (i7 + 1)) (V.agg [(V.int .i64 (gi b0 0)), (V.sl 1 Zg 0 none), (V.sl 2 Zf 0 none), (V.int .i64 (gi b0 3)), (V.sl 3 Zd 0 none), (V.sl 4 Ze 0 none)]) r1 r2 r3 r4
        else some (key1, val2, i7, (V.agg [(V.int .i64 (gi b0 0)), (V.sl 1 Zg 0 none), (V.sl 2 Zf 0 none), (V.int .i64 (gi b0 3)), (V.sl 3 Zd 0 none), (V.sl 4 Ze 0 none)]), r1, r2, r3, r4)
      else none
    else some (key1, val2, i7, (V.agg [(V.int .i64 (gi b0 0)), (V.sl 1 Zg 0 none), (V.sl 2 Zf 0 none), (V.int .i64 (gi b0 3)), (V.sl 3 Zd 0 none), (V.sl 4 Ze 0 none)]), r1, r2, r3, r4)
def Zae (s : V) (key : List V) (val : List V) : Option (Bool × V) :=
  Option.bind (Za1 (Zc s) key) fun r215 =>
  bif (decide ((0 : Int) ≤ r215)) then
    bif ((Zu (0 + val.length) 1) && true) then
      bif (Zm r215 ((gl s 1).length)) then
        bif (Zm r215 (((gl s 1).set (0 + r215.toNat) (V.agg [(V.inl Zb (gl (rd (gl s 1) (0 + r215.toNat)) 0)), (V.inl Zb val), (V.int .i64 (gi (rd (gl s 1) (0 + r215.toNat)) 2)), (V.int .i64 (gi (rd (gl s 1) (0 + r215.toNat)) 3))])).length)) then
          some (true, (V.agg [(V.int .i64 (gi s 0)), (V.inl Zg (((gl s 1).set (0 + r215.toNat) (V.agg [(V.inl Zb (gl (rd (gl s 1) (0 + r215.toNat)) 0)), (V.inl Zb val), (V.int .i64 (gi (rd (gl s 1) (0 + r215.toNat)) 2)), (V.int .i64 (gi (rd (gl s 1) (0 + r215.toNat)) 3))])).set (0 + r215.toNat) (V.agg [(V.inl Zb (gl (rd ((gl s 1).set (0 + r215.toNat) (V.agg [(V.inl Zb (gl (rd (gl s 1) (0 + r215.toNat)) 0)), (V.inl Zb val), (V.int .i64 (gi (rd (gl s 1) (0 + r215.toNat)) 2)), (V.int .i64 (gi (rd (gl s 1) (0 + r215.toNat)) 3))])) (0 + r215.toNat)) 0)), (V.inl Zb (gl (rd ((gl s 1).set (0 + r215.toNat) (V.agg [(V.inl Zb (gl (rd (gl s 1) (0 + r215.toNat)) 0)), (V.inl Zb val), (V.int .i64 (gi (rd (gl s 1) (0 + r215.toNat)) 2)), (V.int .i64 (gi (rd (gl s 1) (0 + r215.toNat)) 3))])) (0 + r215.toNat)) 1)), (V.int .i64 (gi s 0)), (V.int .i64 (gi (rd ((gl s 1).set (0 + r215.toNat) (V.agg [(V.inl Zb (gl (rd (gl s 1) (0 + r215.toNat)) 0)), (V.inl Zb val), (V.int .i64 (gi (rd (gl s 1) (0 + r215.toNat)) 2)), (V.int .i64 (gi (rd (gl s 1) (0 + r215.toNat)) 3))])) (0 + r215.toNat)) 3))]))), (V.inl Zf (gl s 2)), (V.int .i64 (gi s 3)), (V.inl Zd (gl s 4)), (V.inl Ze (gl s 5))]))
        else none
      else none
    else none
  else bif (decide ((20 : Int) ≤ (((gl s 1).length : Nat) : Int))) then
    some (false, (Zc s))
  else Option.bind (Zde (Zc s) key) fun r216 =>
  bif (decide ((0 : Int) ≤ r216)) then
    bif ((decide ((0 : Int) ≤ r216)) && (decide (r216 ≤ (((gl s 2).length : Nat) : Int)))) then
      bif ((Zu (0 + (((gl s 2).take r216.toNat).length)) 32) && true) then
        bif ((decide ((0 : Int) ≤ (IntKind.i64.wrap (r216 + 1)))) && (decide ((IntKind.i64.wrap (r216 + 1)) ≤ (((gl s 2).length : Nat) : Int)))) then
          bif ((Zu ((((gl s 2).take r216.toNat).length) + ((((gl s 2).drop (0 + ((IntKind.i64.wrap (r216 + 1)).toNat))).take (((gl s 2).length) - ((IntKind.i64.wrap (r216 + 1)).toNat))).length)) 32) && true) then
            Option.bind (Z2 (((((gl s 1).length : Nat) : Int) - 0).toNat + 1) key val 0 (V.agg [(V.int .i64 (gi s 0)), (V.sl 1 Zg 0 none), (V.sl 2 Zf 0 none), (V.int .i64 (gi s 3)), (V.sl 3 Zd 0 none), (V.sl 4 Ze 0 none)]) (gl s 1) (((gl s 2).take r216.toNat) ++ (((gl s 2).drop (0 + ((IntKind.i64.wrap (r216 + 1)).toNat))).take (((gl s 2).length) - ((IntKind.i64.wrap (r216 + 1)).toNat)))) (gl s 4) (gl s 5)) fun r217 =>
            bif ((decide ((0 : Int) ≤ r217.2.2.1)) && (decide (r217.2.2.1 ≤ ((r217.2.2.2.2.1.length : Nat) : Int)))) then
              bif ((Zu (0 + ((r217.2.2.2.2.1.take r217.2.2.1.toNat).length)) 64) && true) then
                bif ((Zu (0 + r217.1.length) 1) && true) then
                  bif ((Zu (0 + r217.2.1.length) 1) && true) then
                    bif ((Zu (((r217.2.2.2.2.1.take r217.2.2.1.toNat).length) + 1) 64) && true) then
                      bif ((decide ((0 : Int) ≤ r217.2.2.1)) && (decide (r217.2.2.1 ≤ ((r217.2.2.2.2.1.length : Nat) : Int)))) then
                        bif ((Zu ((((r217.2.2.2.2.1.take r217.2.2.1.toNat) ++ [(V.agg [(V.inl Zb r217.1), (V.inl Zb r217.2.1), (V.int .i64 (gi r217.2.2.2.1 0)), (V.int .i64 0)])]).length) + (((r217.2.2.2.2.1.drop (0 + r217.2.2.1.toNat)).take (r217.2.2.2.2.1.length - r217.2.2.1.toNat)).length)) 64) && true) then
                          some (true, (V.agg [(V.int .i64 (gi r217.2.2.2.1 0)), (V.inl Zg (((r217.2.2.2.2.1.take r217.2.2.1.toNat) ++ [(V.agg [(V.inl Zb r217.1), (V.inl Zb r217.2.1), (V.int .i64 (gi r217.2.2.2.1 0)), (V.int .i64 0)])]) ++ ((r217.2.2.2.2.1.drop (0 + r217.2.2.1.toNat)).take (r217.2.2.2.2.1.length - r217.2.2.1.toNat)))), (V.inl Zf r217.2.2.2.2.2.1), (V.int .i64 (gi r217.2.2.2.1 3)), (V.inl Zd r217.2.2.2.2.2.2.1), (V.inl Ze r217.2.2.2.2.2.2.2)]))
                        else none
                      else none
                    else none
                  else none
                else none
              else none
            else none
          else none
        else none
      else none
    else none
  else Option.bind (Z2 (((((gl s 1).length : Nat) : Int) - 0).toNat + 1) key val 0 (V.agg [(V.int .i64 (gi s 0)), (V.sl 1 Zg 0 none), (V.sl 2 Zf 0 none), (V.int .i64 (gi s 3)), (V.sl 3 Zd 0 none), (V.sl 4 Ze 0 none)]) (gl s 1) (gl s 2) (gl s 4) (gl s 5)) fun r218 =>
  bif ((decide ((0 : Int) ≤ r218.2.2.1)) && (decide (r218.2.2.1 ≤ ((r218.2.2.2.2.1.length : Nat) : Int)))) then
    bif ((Zu (0 + ((r218.2.2.2.2.1.take r218.2.2.1.toNat).length)) 64) && true) then
      bif ((Zu (0 + r218.1.length) 1) && true) then
        bif ((Zu (0 + r218.2.1.length) 1) && true) then
          bif ((Zu (((r218.2.2.2.2.1.take r218.2.2.1.toNat).length) + 1) 64) && true) then
            bif ((decide ((0 : Int) ≤ r218.2.2.1)) && (decide (r218.2.2.1 ≤ ((r218.2.2.2.2.1.length : Nat) : Int)))) then
              bif ((Zu ((((r218.2.2.2.2.1.take r218.2.2.1.toNat) ++ [(V.agg [(V.inl Zb r218.1), (V.inl Zb r218.2.1), (V.int .i64 (gi r218.2.2.2.1 0)), (V.int .i64 0)])]).length) + (((r218.2.2.2.2.1.drop (0 + r218.2.2.1.toNat)).take (r218.2.2.2.2.1.length - r218.2.2.1.toNat)).length)) 64) && true) then
                some (true, (V.agg [(V.int .i64 (gi r218.2.2.2.1 0)), (V.inl Zg (((r218.2.2.2.2.1.take r218.2.2.1.toNat) ++ [(V.agg [(V.inl Zb r218.1), (V.inl Zb r218.2.1), (V.int .i64 (gi r218.2.2.2.1 0)), (V.int .i64 0)])]) ++ ((r218.2.2.2.2.1.drop (0 + r218.2.2.1.toNat)).take (r218.2.2.2.2.1.length - r218.2.2.1.toNat)))), (V.inl Zf r218.2.2.2.2.2.1), (V.int .i64 (gi r218.2.2.2.1 3)), (V.inl Zd r218.2.2.2.2.2.2.1), (V.inl Ze r218.2.2.2.2.2.2.2)]))
              else none
            else none
          else none
        else none
      else none
    else none
  else none
def Zai : Nat → Int → V → V → List V → List V → List V → List V → Option (V × List V × List V × List V × List V)
  | 0, _, _, _, _, _, _, _ => none
  | k_ + 1, k5, b0, b1, r2, r3, r4, r5 =>
    bif (decide (k5 < ((r2.length : Nat) : Int))) then
      bif (Zm k5 r2.length) then
        bif (!(decide ((gi (rd r2 (0 + k5.toNat)) 3) = (gi b1 0)))) then
          Zai k_ (IntKind.i64.wrap (k5 + 1)) (V.agg [(V.int .i64 (gi b0 0)), (V.sl 2 Zg 0 none), (V.sl 3 Zf 0 none), (V.int .i64 (gi b0 3)), (V.sl 4 Zd 0 none), (V.sl 5 Ze 0 none)]) (Zcx b1) r2 r3 r4 r5
        else bif (gb b1 1) then
          Option.bind (Zcy (V.agg [(V.int .i64 (gi b0 0)), (V.inl Zg r2), (V.inl Zf r3), (V.int .i64 (gi b0 3)), (V.inl Zd r4), (V.inl Ze r5)]) k5) fun r224 =>
          Zai k_ (IntKind.i64.wrap ((IntKind.i64.wrap (k5 - 1)) + 1)) (V.agg [(V.int .i64 (gi r224 0)), (V.sl 2 Zg 0 none), (V.sl 3 Zf 0 none), (V.int .i64 (gi r224 3)), (V.sl 4 Zd 0 none), (V.sl 5 Ze 0 none)]) (Zcx b1) (gl r224 1) (gl r224 2) (gl r224 4) (gl r224 5)
        else bif (Zm k5 r2.length) then
          bif (Zm k5 ((r2.set (0 + k5.toNat) (V.agg [(V.inl Zb (gl (rd r2 (0 + k5.toNat)) 0)), (V.inl Zb (gl (rd r2 (0 + k5.toNat)) 1)), (V.int .i64 (gi (rd r2 (0 + k5.toNat)) 2)), (V.int .i64 0)])).length)) then
            Zai k_ (IntKind.i64.wrap (k5 + 1)) (V.agg [(V.int .i64 (gi b0 0)), (V.sl 2 Zg 0 none), (V.sl 3 Zf 0 none), (V.int .i64 (gi b0 3)), (V.sl 4 Zd 0 none), (V.sl 5 Ze 0 none)]) (Zcx b1) ((r2.set (0 + k5.toNat) (V.agg [(V.inl Zb (gl (rd r2 (0 + k5.toNat)) 0)), (V.inl Zb (gl (rd r2 (0 + k5.toNat)) 1)), (V.int .i64 (gi (rd r2 (0 + k5.toNat)) 2)), (V.int .i64 0)])).set (0 + k5.toNat) (V.agg [(V.inl Zb (gl (rd (r2.set (0 + k5.toNat) (V.agg [(V.inl Zb (gl (rd r2 (0 + k5.toNat)) 0)), (V.inl Zb (gl (rd r2 (0 + k5.toNat)) 1)), (V.int .i64 (gi (rd r2 (0 + k5.toNat)) 2)), (V.int .i64 0)])) (0 + k5.toNat)) 0)), (V.inl Zb (gl (rd (r2.set (0 + k5.toNat) (V.agg [(V.inl Zb (gl (rd r2 (0 + k5.toNat)) 0)), (V.inl Zb (gl (rd r2 (0 + k5.toNat)) 1)), (V.int .i64 (gi (rd r2 (0 + k5.toNat)) 2)), (V.int .i64 0)])) (0 + k5.toNat)) 1)), (V.int .i64 (gi b0 0)), (V.int .i64 (gi (rd (r2.set (0 + k5.toNat) (V.agg [(V.inl Zb (gl (rd r2 (0 + k5.toNat)) 0)), (V.inl Zb (gl (rd r2 (0 + k5.toNat)) 1)), (V.int .i64 (gi (rd r2 (0 + k5.toNat)) 2)), (V.int .i64 0)])) (0 + k5.toNat)) 3))])) r3 r4 r5
          else none
        else none
      else none
    else some ((V.agg [(V.int .i64 (gi b0 0)), (V.sl 1 Zg 0 none), (V.sl 2 Zf 0 none), (V.int .i64 (gi b0 3)), (V.sl 3 Zd 0 none), (V.sl 4 Ze 0 none)]), r2, r3, r4, r5)
def Zcz (s : V) (i : Int) : Option (V) :=
  bif (Zm i ((gl s 4).length)) then
    bif ((decide ((0 : Int) ≤ i)) && (decide (i ≤ (((gl s 4).length : Nat) : Int)))) then
      bif ((Zu (0 + (((gl s 4).take i.toNat).length)) 16) && true) then
        bif ((decide ((0 : Int) ≤ (IntKind.i64.wrap (i + 1)))) && (decide ((IntKind.i64.wrap (i + 1)) ≤ (((gl s 4).length : Nat) : Int)))) then
          bif ((Zu ((((gl s 4).take i.toNat).length) + (((gl s 4).drop (0 + ((IntKind.i64.wrap (i + 1)).toNat))).length)) 16) && true) then
            Option.bind (Zai (((((gl s 1).length : Nat) : Int) - 0).toNat + 1) 0 (V.agg [(V.int .i64 (gi s 0)), (V.sl 2 Zg 0 none), (V.sl 3 Zf 0 none), (V.int .i64 (gi s 3)), (V.sl 4 Zd 0 none), (V.sl 5 Ze 0 none)]) (Zcx (rd (gl s 4) (0 + i.toNat))) (gl s 1) (gl s 2) (((gl s 4).take i.toNat) ++ ((gl s 4).drop (0 + ((IntKind.i64.wrap (i + 1)).toNat)))) (gl s 5)) fun r225 =>
            some (V.agg [(V.int .i64 (gi r225.1 0)), (V.inl Zg r225.2.1), (V.inl Zf r225.2.2.1), (V.int .i64 (gi r225.1 3)), (V.inl Zd r225.2.2.2.1), (V.inl Ze r225.2.2.2.2)])
          else none
        else none
      else none
    else none
  else none
def ZaX (s : V) (o : V) : Option (Int × V) :=
  bif (decide ((0 : Int) < (((gl o 1).length : Nat) : Int))) then
    Option.bind (Za1 (Zc s) (gl o 1)) fun r214 =>
    bif (decide ((gi o 0) = 1)) then
      Option.bind (Zae (Zc s) (gl o 1) (gl o 2)) fun r219 =>
      bif (!r219.1) then
        some (4, (Zc r219.2))
      else some (0, (Zc r219.2))
    else bif (decide ((gi o 0) = 2)) then
      bif (decide ((0 : Int) ≤ r214)) then
        bif (Zm r214 ((gl s 1).length)) then
          bif (!(decide ((gi (rd (gl s 1) (0 + r214.toNat)) 2) = (gi o 3)))) then
            some (3, (Zc s))
          else Option.bind (Zae (Zc s) (gl o 1) (gl o 2)) fun r220 =>
          bif (!r220.1) then
            some (4, (Zc r220.2))
          else some (0, (Zc r220.2))
        else none
      else bif (!(decide ((0 : Int) = (gi o 3)))) then
        some (3, (Zc s))
      else Option.bind (Zae (Zc s) (gl o 1) (gl o 2)) fun r221 =>
      bif (!r221.1) then
        some (4, (Zc r221.2))
      else some (0, (Zc r221.2))
    else bif (decide ((gi o 0) = 3)) then
      bif (decide (r214 < 0)) then
        some (1, (Zc s))
      else Option.bind (Zcy (Zc s) r214) fun r222 =>
      some (0, (Zc r222))
    else bif (decide ((gi o 0) = 4)) then
      bif (decide ((8 : Int) ≤ (((gl s 4).length : Nat) : Int))) then
        some (4, (Zc s))
      else bif ((Zu (0 + ((gl s 4).length)) 16) && true) then
        bif ((Zu (((gl s 4).length) + 1) 16) && true) then
          some (0, (V.agg [(V.int .i64 (gi s 0)), (V.inl Zg (gl s 1)), (V.inl Zf (gl s 2)), (V.int .i64 (gi s 3)), (V.inl Zd ((gl s 4) ++ [(V.agg [(V.int .i64 (gi s 0)), (V.bool (decide ((gi o 3) = 1)))])])), (V.inl Ze (gl s 5))]))
        else none
      else none
    else bif (decide ((gi o 0) = 5)) then
      Option.bind (ZbB (Zc s) (gi o 3)) fun r223 =>
      bif (decide (r223 < 0)) then
        some (1, (Zc s))
      else Option.bind (Zcz (Zc s) r223) fun r226 =>
      some (0, (Zc r226))
    else bif (decide ((gi o 0) = 6)) then
      Option.bind (ZbB (Zc s) (gi o 3)) fun r227 =>
      bif (decide (r227 < 0)) then
        some (1, (Zc s))
      else bif (decide ((0 : Int) ≤ r214)) then
        bif (Zm r214 ((gl s 1).length)) then
          bif (!(decide ((gi (rd (gl s 1) (0 + r214.toNat)) 3) = 0))) then
            bif (Zm r214 ((gl s 1).length)) then
              bif (!(decide ((gi (rd (gl s 1) (0 + r214.toNat)) 3) = (gi o 3)))) then
                some (2, (Zc s))
              else Option.bind (Zae (Zc s) (gl o 1) (gl o 2)) fun r228 =>
              bif (!r228.1) then
                some (4, (Zc r228.2))
              else Option.bind (Za1 (Zc r228.2) (gl o 1)) fun r229 =>
              bif (Zm r229 ((gl r228.2 1).length)) then
                some (0, (V.agg [(V.int .i64 (gi r228.2 0)), (V.inl Zg ((gl r228.2 1).set (0 + r229.toNat) (V.agg [(V.inl Zb (gl (rd (gl r228.2 1) (0 + r229.toNat)) 0)), (V.inl Zb (gl (rd (gl r228.2 1) (0 + r229.toNat)) 1)), (V.int .i64 (gi (rd (gl r228.2 1) (0 + r229.toNat)) 2)), (V.int .i64 (gi o 3))]))), (V.inl Zf (gl r228.2 2)), (V.int .i64 (gi r228.2 3)), (V.inl Zd (gl r228.2 4)), (V.inl Ze (gl r228.2 5))]))
              else none
            else none
          else Option.bind (Zae (Zc s) (gl o 1) (gl o 2)) fun r230 =>
          bif (!r230.1) then
            some (4, (Zc r230.2))
          else Option.bind (Za1 (Zc r230.2) (gl o 1)) fun r231 =>
          bif (Zm r231 ((gl r230.2 1).length)) then
            some (0, (V.agg [(V.int .i64 (gi r230.2 0)), (V.inl Zg ((gl r230.2 1).set (0 + r231.toNat) (V.agg [(V.inl Zb (gl (rd (gl r230.2 1) (0 + r231.toNat)) 0)), (V.inl Zb (gl (rd (gl r230.2 1) (0 + r231.toNat)) 1)), (V.int .i64 (gi (rd (gl r230.2 1) (0 + r231.toNat)) 2)), (V.int .i64 (gi o 3))]))), (V.inl Zf (gl r230.2 2)), (V.int .i64 (gi r230.2 3)), (V.inl Zd (gl r230.2 4)), (V.inl Ze (gl r230.2 5))]))
          else none
        else none
      else Option.bind (Zae (Zc s) (gl o 1) (gl o 2)) fun r232 =>
      bif (!r232.1) then
        some (4, (Zc r232.2))
      else Option.bind (Za1 (Zc r232.2) (gl o 1)) fun r233 =>
      bif (Zm r233 ((gl r232.2 1).length)) then
        some (0, (V.agg [(V.int .i64 (gi r232.2 0)), (V.inl Zg ((gl r232.2 1).set (0 + r233.toNat) (V.agg [(V.inl Zb (gl (rd (gl r232.2 1) (0 + r233.toNat)) 0)), (V.inl Zb (gl (rd (gl r232.2 1) (0 + r233.toNat)) 1)), (V.int .i64 (gi (rd (gl r232.2 1) (0 + r233.toNat)) 2)), (V.int .i64 (gi o 3))]))), (V.inl Zf (gl r232.2 2)), (V.int .i64 (gi r232.2 3)), (V.inl Zd (gl r232.2 4)), (V.inl Ze (gl r232.2 5))]))
      else none
    else bif (decide ((gi o 0) = 7)) then
      bif (decide (r214 < 0)) then
        some (1, (Zc s))
      else bif (Zm r214 ((gl s 1).length)) then
        bif (!(decide ((gi (rd (gl s 1) (0 + r214.toNat)) 3) = (gi o 3)))) then
          some (1, (Zc s))
        else bif (Zm r214 ((gl s 1).length)) then
          bif (Zm r214 (((gl s 1).set (0 + r214.toNat) (V.agg [(V.inl Zb (gl (rd (gl s 1) (0 + r214.toNat)) 0)), (V.inl Zb (gl (rd (gl s 1) (0 + r214.toNat)) 1)), (V.int .i64 (gi (rd (gl s 1) (0 + r214.toNat)) 2)), (V.int .i64 0)])).length)) then
            some (0, (V.agg [(V.int .i64 (gi s 0)), (V.inl Zg (((gl s 1).set (0 + r214.toNat) (V.agg [(V.inl Zb (gl (rd (gl s 1) (0 + r214.toNat)) 0)), (V.inl Zb (gl (rd (gl s 1) (0 + r214.toNat)) 1)), (V.int .i64 (gi (rd (gl s 1) (0 + r214.toNat)) 2)), (V.int .i64 0)])).set (0 + r214.toNat) (V.agg [(V.inl Zb (gl (rd ((gl s 1).set (0 + r214.toNat) (V.agg [(V.inl Zb (gl (rd (gl s 1) (0 + r214.toNat)) 0)), (V.inl Zb (gl (rd (gl s 1) (0 + r214.toNat)) 1)), (V.int .i64 (gi (rd (gl s 1) (0 + r214.toNat)) 2)), (V.int .i64 0)])) (0 + r214.toNat)) 0)), (V.inl Zb (gl (rd ((gl s 1).set (0 + r214.toNat) (V.agg [(V.inl Zb (gl (rd (gl s 1) (0 + r214.toNat)) 0)), (V.inl Zb (gl (rd (gl s 1) (0 + r214.toNat)) 1)), (V.int .i64 (gi (rd (gl s 1) (0 + r214.toNat)) 2)), (V.int .i64 0)])) (0 + r214.toNat)) 1)), (V.int .i64 (gi s 0)), (V.int .i64 (gi (rd ((gl s 1).set (0 + r214.toNat) (V.agg [(V.inl Zb (gl (rd (gl s 1) (0 + r214.toNat)) 0)), (V.inl Zb (gl (rd (gl s 1) (0 + r214.toNat)) 1)), (V.int .i64 (gi (rd (gl s 1) (0 + r214.toNat)) 2)), (V.int .i64 0)])) (0 + r214.toNat)) 3))]))), (V.inl Zf (gl s 2)), (V.int .i64 (gi s 3)), (V.inl Zd (gl s 4)), (V.inl Ze (gl s 5))]))
          else none
        else none
      else none
    else some (0, (Zc s))
  else bif (decide ((gi o 0) = 1)) then
    Option.bind (Zae (Zc s) (gl o 1) (gl o 2)) fun r234 =>
    bif (!r234.1) then
      some (4, (Zc r234.2))
    else some (0, (Zc r234.2))
  else bif (decide ((gi o 0) = 2)) then
    bif (!(decide ((0 : Int) = (gi o 3)))) then
      some (3, (Zc s))
    else Option.bind (Zae (Zc s) (gl o 1) (gl o 2)) fun r235 =>
    bif (!r235.1) then
      some (4, (Zc r235.2))
    else some (0, (Zc r235.2))
  else bif (decide ((gi o 0) = 3)) then
    some (1, (Zc s))
  else bif (decide ((gi o 0) = 4)) then
    bif (decide ((8 : Int) ≤ (((gl s 4).length : Nat) : Int))) then
      some (4, (Zc s))
    else bif ((Zu (0 + ((gl s 4).length)) 16) && true) then
      bif ((Zu (((gl s 4).length) + 1) 16) && true) then
        some (0, (V.agg [(V.int .i64 (gi s 0)), (V.inl Zg (gl s 1)), (V.inl Zf (gl s 2)), (V.int .i64 (gi s 3)), (V.inl Zd ((gl s 4) ++ [(V.agg [(V.int .i64 (gi s 0)), (V.bool (decide ((gi o 3) = 1)))])])), (V.inl Ze (gl s 5))]))
      else none
    else none
  else bif (decide ((gi o 0) = 5)) then
    Option.bind (ZbB (Zc s) (gi o 3)) fun r236 =>
    bif (decide (r236 < 0)) then
      some (1, (Zc s))
    else Option.bind (Zcz (Zc s) r236) fun r237 =>
    some (0, (Zc r237))
  else bif (decide ((gi o 0) = 6)) then
    Option.bind (ZbB (Zc s) (gi o 3)) fun r238 =>
    bif (decide (r238 < 0)) then
      some (1, (Zc s))
    else Option.bind (Zae (Zc s) (gl o 1) (gl o 2)) fun r239 =>
    bif (!r239.1) then
      some (4, (Zc r239.2))
    else Option.bind (Za1 (Zc r239.2) (gl o 1)) fun r240 =>
    bif (Zm r240 ((gl r239.2 1).length)) then
      some (0, (V.agg [(V.int .i64 (gi r239.2 0)), (V.inl Zg ((gl r239.2 1).set (0 + r240.toNat) (V.agg [(V.inl Zb (gl (rd (gl r239.2 1) (0 + r240.toNat)) 0)), (V.inl Zb (gl (rd (gl r239.2 1) (0 + r240.toNat)) 1)), (V.int .i64 (gi (rd (gl r239.2 1) (0 + r240.toNat)) 2)), (V.int .i64 (gi o 3))]))), (V.inl Zf (gl r239.2 2)), (V.int .i64 (gi r239.2 3)), (V.inl Zd (gl r239.2 4)), (V.inl Ze (gl r239.2 5))]))
    else none
  else bif (decide ((gi o 0) = 7)) then
    some (1, (Zc s))
  else some (0, (Zc s))
def Zab : Nat → Int → V → V → V → V → List V → List V → List V → List V → Option (Int × V × V × V × V × List V × List V × List V × List V)
  | 0, _, _, _, _, _, _, _, _, _ => none
  | k_ + 1, k6, b0, b1, b2, b3, r4, r5, r6, r7 =>
    bif (decide (k6 < ((r7.length : Nat) : Int))) then
      bif (Zm k6 r7.length) then
        bif (decide ((gi (rd r7 (0 + k6.toNat)) 0) < (gi b1 0))) then
          Zab k_ (IntKind.i64.wrap (k6 + 1)) (V.agg [(V.int .i64 (gi b0 0)), (V.sl 4 Zg 0 none), (V.sl 5 Zf 0 none), (V.int .i64 (gi b0 3)), (V.sl 6 Zd 0 none), (V.sl 7 Ze 0 none)]) (Zn b1) (Zy b2) (Zy b3) r4 r5 r6 r7
        else some (k6, (V.agg [(V.int .i64 (gi b0 0)), (V.sl 4 Zg 0 none), (V.sl 5 Zf 0 none), (V.int .i64 (gi b0 3)), (V.sl 6 Zd 0 none), (V.sl 7 Ze 0 none)]), (Zn b1), (Zy b2), (Zy b3), r4, r5, r6, r7)
      else none
    else some (k6, (V.agg [(V.int .i64 (gi b0 0)), (V.sl 4 Zg 0 none), (V.sl 5 Zf 0 none), (V.int .i64 (gi b0 3)), (V.sl 6 Zd 0 none), (V.sl 7 Ze 0 none)]), (Zn b1), (Zy b2), (Zy b3), r4, r5, r6, r7)
def ZF (s : V) (c : V) : Option (V × V) :=
  bif (decide ((gi c 0) < 0)) then
    some ((V.agg [(V.int .i64 0), (V.int .i64 (IntKind.i64.wrap ((gi s 0) + 1)))]), (V.agg [(V.int .i64 (IntKind.i64.wrap ((gi s 0) + 1))), (V.inl Zg (gl s 1)), (V.inl Zf (gl s 2)), (V.int .i64 (gi s 3)), (V.inl Zd (gl s 4)), (V.inl Ze (gl s 5))]))
  else Option.bind (Zab (((((gl s 5).length : Nat) : Int) - 0).toNat + 1) 0 (V.agg [(V.int .i64 (IntKind.i64.wrap ((gi s 0) + 1))), (V.sl 4 Zg 0 none), (V.sl 5 Zf 0 none), (V.int .i64 (gi s 3)), (V.sl 6 Zd 0 none), (V.sl 7 Ze 0 none)]) (Zn c) (V.agg [(V.int .i64 0), (V.int .i64 0)]) (V.agg [(V.int .i64 0), (V.int .i64 (IntKind.i64.wrap ((gi s 0) + 1)))]) (gl s 1) (gl s 2) (gl s 4) (gl s 5)) fun r213 =>
  bif (decide (r213.1 < ((r213.2.2.2.2.2.2.2.2.length : Nat) : Int))) then
    bif (Zm r213.1 r213.2.2.2.2.2.2.2.2.length) then
      bif (decide ((gi (rd r213.2.2.2.2.2.2.2.2 (0 + r213.1.toNat)) 0) = (gi r213.2.2.1 0))) then
        bif (Zm r213.1 r213.2.2.2.2.2.2.2.2.length) then
          bif (decide ((gi (rd r213.2.2.2.2.2.2.2.2 (0 + r213.1.toNat)) 1) = (gi r213.2.2.1 1))) then
            bif (Zm r213.1 r213.2.2.2.2.2.2.2.2.length) then
              some ((V.agg [(V.int .i64 (gi (rd r213.2.2.2.2.2.2.2.2 (0 + r213.1.toNat)) 2)), (V.int .i64 (gi (rd r213.2.2.2.2.2.2.2.2 (0 + r213.1.toNat)) 3))]), (V.agg [(V.int .i64 (gi r213.2.1 0)), (V.inl Zg r213.2.2.2.2.2.1), (V.inl Zf r213.2.2.2.2.2.2.1), (V.int .i64 (gi r213.2.1 3)), (V.inl Zd r213.2.2.2.2.2.2.2.1), (V.inl Ze r213.2.2.2.2.2.2.2.2)]))
            else none
          else bif (Zm r213.1 r213.2.2.2.2.2.2.2.2.length) then
            bif (decide ((gi r213.2.2.1 1) < (gi (rd r213.2.2.2.2.2.2.2.2 (0 + r213.1.toNat)) 1))) then
              some ((V.agg [(V.int .i64 5), (V.int .i64 (gi r213.2.2.2.2.1 1))]), (V.agg [(V.int .i64 (gi r213.2.1 0)), (V.inl Zg r213.2.2.2.2.2.1), (V.inl Zf r213.2.2.2.2.2.2.1), (V.int .i64 (gi r213.2.1 3)), (V.inl Zd r213.2.2.2.2.2.2.2.1), (V.inl Ze r213.2.2.2.2.2.2.2.2)]))
            else Option.bind (ZaX (V.agg [(V.int .i64 (gi r213.2.1 0)), (V.inl Zg r213.2.2.2.2.2.1), (V.inl Zf r213.2.2.2.2.2.2.1), (V.int .i64 (gi r213.2.1 3)), (V.inl Zd r213.2.2.2.2.2.2.2.1), (V.inl Ze r213.2.2.2.2.2.2.2.2)]) (V.agg [(V.int .i64 (gi r213.2.2.1 2)), (V.inl Zb (gl r213.2.2.1 3)), (V.inl Zb (gl r213.2.2.1 4)), (V.int .i64 (gi r213.2.2.1 5))])) fun r241 =>
            bif (Zm r213.1 ((gl r241.2 5).length)) then
              bif (Zm r213.1 (((gl r241.2 5).set (0 + r213.1.toNat) (V.agg [(V.int .i64 (gi (rd (gl r241.2 5) (0 + r213.1.toNat)) 0)), (V.int .i64 (gi r213.2.2.1 1)), (V.int .i64 (gi (rd (gl r241.2 5) (0 + r213.1.toNat)) 2)), (V.int .i64 (gi (rd (gl r241.2 5) (0 + r213.1.toNat)) 3))])).length)) then
                some ((V.agg [(V.int .i64 r241.1), (V.int .i64 (gi r213.2.2.2.2.1 1))]), (V.agg [(V.int .i64 (gi r241.2 0)), (V.inl Zg (gl r241.2 1)), (V.inl Zf (gl r241.2 2)), (V.int .i64 (gi r241.2 3)), (V.inl Zd (gl r241.2 4)), (V.inl Ze (((gl r241.2 5).set (0 + r213.1.toNat) (V.agg [(V.int .i64 (gi (rd (gl r241.2 5) (0 + r213.1.toNat)) 0)), (V.int .i64 (gi r213.2.2.1 1)), (V.int .i64 (gi (rd (gl r241.2 5) (0 + r213.1.toNat)) 2)), (V.int .i64 (gi (rd (gl r241.2 5) (0 + r213.1.toNat)) 3))])).set (0 + r213.1.toNat) (V.agg [(V.int .i64 (gi (rd ((gl r241.2 5).set (0 + r213.1.toNat) (V.agg [(V.int .i64 (gi (rd (gl r241.2 5) (0 + r213.1.toNat)) 0)), (V.int .i64 (gi r213.2.2.1 1)), (V.int .i64 (gi (rd (gl r241.2 5) (0 + r213.1.toNat)) 2)), (V.int .i64 (gi (rd (gl r241.2 5) (0 + r213.1.toNat)) 3))])) (0 + r213.1.toNat)) 0)), (V.int .i64 (gi (rd ((gl r241.2 5).set (0 + r213.1.toNat) (V.agg [(V.int .i64 (gi (rd (gl r241.2 5) (0 + r213.1.toNat)) 0)), (V.int .i64 (gi r213.2.2.1 1)), (V.int .i64 (gi (rd (gl r241.2 5) (0 + r213.1.toNat)) 2)), (V.int .i64 (gi (rd (gl r241.2 5) (0 + r213.1.toNat)) 3))])) (0 + r213.1.toNat)) 1)), (V.int .i64 r241.1), (V.int .i64 (gi r213.2.2.2.2.1 1))])))]))
              else none
            else none
          else none
        else none
      else Option.bind (ZaX (V.agg [(V.int .i64 (gi r213.2.1 0)), (V.inl Zg r213.2.2.2.2.2.1), (V.inl Zf r213.2.2.2.2.2.2.1), (V.int .i64 (gi r213.2.1 3)), (V.inl Zd r213.2.2.2.2.2.2.2.1), (V.inl Ze r213.2.2.2.2.2.2.2.2)]) (V.agg [(V.int .i64 (gi r213.2.2.1 2)), (V.inl Zb (gl r213.2.2.1 3)), (V.inl Zb (gl r213.2.2.1 4)), (V.int .i64 (gi r213.2.2.1 5))])) fun r242 =>
      bif ((decide ((0 : Int) ≤ r213.1)) && (decide (r213.1 ≤ (((gl r242.2 5).length : Nat) : Int)))) then
        bif ((Zu (0 + (((gl r242.2 5).take r213.1.toNat).length)) 32) && true) then
          bif ((Zu ((((gl r242.2 5).take r213.1.toNat).length) + 1) 32) && true) then
            bif ((decide ((0 : Int) ≤ r213.1)) && (decide (r213.1 ≤ (((gl r242.2 5).length : Nat) : Int)))) then
              bif ((Zu (((((gl r242.2 5).take r213.1.toNat) ++ [(V.agg [(V.int .i64 (gi r213.2.2.1 0)), (V.int .i64 (gi r213.2.2.1 1)), (V.int .i64 r242.1), (V.int .i64 (gi r213.2.2.2.2.1 1))])]).length) + (((gl r242.2 5).drop (0 + r213.1.toNat)).length)) 32) && true) then
                some ((V.agg [(V.int .i64 r242.1), (V.int .i64 (gi r213.2.2.2.2.1 1))]), (V.agg [(V.int .i64 (gi r242.2 0)), (V.inl Zg (gl r242.2 1)), (V.inl Zf (gl r242.2 2)), (V.int .i64 (gi r242.2 3)), (V.inl Zd (gl r242.2 4)), (V.inl Ze ((((gl r242.2 5).take r213.1.toNat) ++ [(V.agg [(V.int .i64 (gi r213.2.2.1 0)), (V.int .i64 (gi r213.2.2.1 1)), (V.int .i64 r242.1), (V.int .i64 (gi r213.2.2.2.2.1 1))])]) ++ ((gl r242.2 5).drop (0 + r213.1.toNat))))]))
              else none
            else none
          else none
        else none
      else none
    else none
  else Option.bind (ZaX (V.agg [(V.int .i64 (gi r213.2.1 0)), (V.inl Zg r213.2.2.2.2.2.1), (V.inl Zf r213.2.2.2.2.2.2.1), (V.int .i64 (gi r213.2.1 3)), (V.inl Zd r213.2.2.2.2.2.2.2.1), (V.inl Ze r213.2.2.2.2.2.2.2.2)]) (V.agg [(V.int .i64 (gi r213.2.2.1 2)), (V.inl Zb (gl r213.2.2.1 3)), (V.inl Zb (gl r213.2.2.1 4)), (V.int .i64 (gi r213.2.2.1 5))])) fun r243 =>
  bif ((decide ((0 : Int) ≤ r213.1)) && (decide (r213.1 ≤ (((gl r243.2 5).length : Nat) : Int)))) then
    bif ((Zu (0 + (((gl r243.2 5).take r213.1.toNat).length)) 32) && true) then
      bif ((Zu ((((gl r243.2 5).take r213.1.toNat).length) + 1) 32) && true) then
        bif ((decide ((0 : Int) ≤ r213.1)) && (decide (r213.1 ≤ (((gl r243.2 5).length : Nat) : Int)))) then
          bif ((Zu (((((gl r243.2 5).take r213.1.toNat) ++ [(V.agg [(V.int .i64 (gi r213.2.2.1 0)), (V.int .i64 (gi r213.2.2.1 1)), (V.int .i64 r243.1), (V.int .i64 (gi r213.2.2.2.2.1 1))])]).length) + (((gl r243.2 5).drop (0 + r213.1.toNat)).length)) 32) && true) then
            some ((V.agg [(V.int .i64 r243.1), (V.int .i64 (gi r213.2.2.2.2.1 1))]), (V.agg [(V.int .i64 (gi r243.2 0)), (V.inl Zg (gl r243.2 1)), (V.inl Zf (gl r243.2 2)), (V.int .i64 (gi r243.2 3)), (V.inl Zd (gl r243.2 4)), (V.inl Ze ((((gl r243.2 5).take r213.1.toNat) ++ [(V.agg [(V.int .i64 (gi r213.2.2.1 0)), (V.int .i64 (gi r213.2.2.1 1)), (V.int .i64 r243.1), (V.int .i64 (gi r213.2.2.2.2.1 1))])]) ++ ((gl r243.2 5).drop (0 + r213.1.toNat))))]))
          else none
        else none
      else none
    else none
  else none
def ZA : Nat → Int → Int → V → V → V → List V → List V → List V → List V → List V → List V → List V → List V → Option (V × V × V × List V × List V × List V × List V × List V × List V × List V × List V)
  | 0, _, _, _, _, _, _, _, _, _, _, _, _, _ => none
  | k_ + 1, n4, i5, b0, b1, b2, r3, r4, r5, r6, r7, r8, r9, r10 =>
    bif (decide (i5 < n4)) then
      Option.bind (Zh (Za b0) 3) fun r209 =>
      Option.bind (spec_l2op (Za r209.2) (gi b2 0)) fun r210 =>
      bif (decide (i5 = 0)) then
        Option.bind (Zh (Za r210.2) 2) fun r211 =>
        Option.bind (ZG (Za r211.2) 9) fun r212 =>
        bif r212.1 then
          Option.bind (ZF (V.agg [(V.int .i64 (gi b2 0)), (V.inl Zg r7), (V.inl Zf r8), (V.int .i64 (gi b2 3)), (V.inl Zd r9), (V.inl Ze r10)]) (V.agg [(V.int .i64 (-1)), (V.int .i64 0), (V.int .i64 0), (V.inl Zb []), (V.inl Zb []), (V.int .i64 0)])) fun r244 =>
          ZA k_ n4 (IntKind.i64.wrap (i5 + 1)) (Za r212.2) (V.agg [(V.int .i64 (gi b1 0)), (V.sl 3 Zg 0 none), (V.sl 4 Zf 0 none), (V.int .i64 (gi b1 3)), (V.sl 5 Zd 0 none), (V.sl 6 Ze 0 none)]) (V.agg [(V.int .i64 (gi r244.2 0)), (V.sl 7 Zg 0 none), (V.sl 8 Zf 0 none), (V.int .i64 (gi r244.2 3)), (V.sl 9 Zd 0 none), (V.sl 10 Ze 0 none)]) r3 r4 r5 r6 (gl r244.2 1) (gl r244.2 2) (gl r244.2 4) (gl r244.2 5)
        else Option.bind (ZF (V.agg [(V.int .i64 (gi b2 0)), (V.inl Zg r7), (V.inl Zf r8), (V.int .i64 (gi b2 3)), (V.inl Zd r9), (V.inl Ze r10)]) (V.agg [(V.int .i64 r209.1), (V.int .i64 (IntKind.i64.wrap (1 + i5))), (V.int .i64 4), (V.inl Zb []), (V.inl Zb []), (V.int .i64 r211.1)])) fun r245 =>
        ZA k_ n4 (IntKind.i64.wrap (i5 + 1)) (Za r212.2) (V.agg [(V.int .i64 (gi b1 0)), (V.sl 3 Zg 0 none), (V.sl 4 Zf 0 none), (V.int .i64 (gi b1 3)), (V.sl 5 Zd 0 none), (V.sl 6 Ze 0 none)]) (V.agg [(V.int .i64 (gi r245.2 0)), (V.sl 7 Zg 0 none), (V.sl 8 Zf 0 none), (V.int .i64 (gi r245.2 3)), (V.sl 9 Zd 0 none), (V.sl 10 Ze 0 none)]) r3 r4 r5 r6 (gl r245.2 1) (gl r245.2 2) (gl r245.2 4) (gl r245.2 5)
      else bif (decide ((5 : Int) ≤ (gi r210.1 0))) then
        bif (decide ((0 : Int) < ((r9.length : Nat) : Int))) then
          Option.bind (ZG (Za r210.2) 3) fun r246 =>
          bif (!r246.1) then
            Option.bind (Zh (Za r246.2) ((r9.length : Nat) : Int)) fun r247 =>
            bif (Zm r247.1 r9.length) then
              Option.bind (ZG (Za r247.2) 9) fun r248 =>
              bif r248.1 then
                Option.bind (ZF (V.agg [(V.int .i64 (gi b2 0)), (V.inl Zg r7), (V.inl Zf r8), (V.int .i64 (gi b2 3)), (V.inl Zd r9), (V.inl Ze r10)]) (V.agg [(V.int .i64 (-1)), (V.int .i64 0), (V.int .i64 0), (V.inl Zb []), (V.inl Zb []), (V.int .i64 0)])) fun r249 =>
                ZA k_ n4 (IntKind.i64.wrap (i5 + 1)) (Za r248.2) (V.agg [(V.int .i64 (gi b1 0)), (V.sl 3 Zg 0 none), (V.sl 4 Zf 0 none), (V.int .i64 (gi b1 3)), (V.sl 5 Zd 0 none), (V.sl 6 Ze 0 none)]) (V.agg [(V.int .i64 (gi r249.2 0)), (V.sl 7 Zg 0 none), (V.sl 8 Zf 0 none), (V.int .i64 (gi r249.2 3)), (V.sl 9 Zd 0 none), (V.sl 10 Ze 0 none)]) r3 r4 r5 r6 (gl r249.2 1) (gl r249.2 2) (gl r249.2 4) (gl r249.2 5)
              else Option.bind (ZF (V.agg [(V.int .i64 (gi b2 0)), (V.inl Zg r7), (V.inl Zf r8), (V.int .i64 (gi b2 3)), (V.inl Zd r9), (V.inl Ze r10)]) (V.agg [(V.int .i64 r209.1), (V.int .i64 (IntKind.i64.wrap (1 + i5))), (V.int .i64 (gi r210.1 0)), (V.inl Zb (gl r210.1 1)), (V.inl Zb (gl r210.1 2)), (V.int .i64 (gi (rd r9 (0 + r247.1.toNat)) 0))])) fun r250 =>
              ZA k_ n4 (IntKind.i64.wrap (i5 + 1)) (Za r248.2) (V.agg [(V.int .i64 (gi b1 0)), (V.sl 3 Zg 0 none), (V.sl 4 Zf 0 none), (V.int .i64 (gi b1 3)), (V.sl 5 Zd 0 none), (V.sl 6 Ze 0 none)]) (V.agg [(V.int .i64 (gi r250.2 0)), (V.sl 7 Zg 0 none), (V.sl 8 Zf 0 none), (V.int .i64 (gi r250.2 3)), (V.sl 9 Zd 0 none), (V.sl 10 Ze 0 none)]) r3 r4 r5 r6 (gl r250.2 1) (gl r250.2 2) (gl r250.2 4) (gl r250.2 5)
            else none
          else Option.bind (ZG (Za r246.2) 9) fun r251 =>
          bif r251.1 then
            Option.bind (ZF (V.agg [(V.int .i64 (gi b2 0)), (V.inl Zg r7), (V.inl Zf r8), (V.int .i64 (gi b2 3)), (V.inl Zd r9), (V.inl Ze r10)]) (V.agg [(V.int .i64 (-1)), (V.int .i64 0), (V.int .i64 0), (V.inl Zb []), (V.inl Zb []), (V.int .i64 0)])) fun r252 =>
            ZA k_ n4 (IntKind.i64.wrap (i5 + 1)) (Za r251.2) (V.agg [(V.int .i64 (gi b1 0)), (V.sl 3 Zg 0 none), (V.sl 4 Zf 0 none), (V.int .i64 (gi b1 3)), (V.sl 5 Zd 0 none), (V.sl 6 Ze 0 none)]) (V.agg [(V.int .i64 (gi r252.2 0)), (V.sl 7 Zg 0 none), (V.sl 8 Zf 0 none), (V.int .i64 (gi r252.2 3)), (V.sl 9 Zd 0 none), (V.sl 10 Ze 0 none)]) r3 r4 r5 r6 (gl r252.2 1) (gl r252.2 2) (gl r252.2 4) (gl r252.2 5)
          else Option.bind (ZF (V.agg [(V.int .i64 (gi b2 0)), (V.inl Zg r7), (V.inl Zf r8), (V.int .i64 (gi b2 3)), (V.inl Zd r9), (V.inl Ze r10)]) (V.agg [(V.int .i64 r209.1), (V.int .i64 (IntKind.i64.wrap (1 + i5))), (V.int .i64 (gi r210.1 0)), (V.inl Zb (gl r210.1 1)), (V.inl Zb (gl r210.1 2)), (V.int .i64 (gi r210.1 3))])) fun r253 =>
          ZA k_ n4 (IntKind.i64.wrap (i5 + 1)) (Za r251.2) (V.agg [(V.int .i64 (gi b1 0)), (V.sl 3 Zg 0 none), (V.sl 4 Zf 0 none), (V.int .i64 (gi b1 3)), (V.sl 5 Zd 0 none), (V.sl 6 Ze 0 none)]) (V.agg [(V.int .i64 (gi r253.2 0)), (V.sl 7 Zg 0 none), (V.sl 8 Zf 0 none), (V.int .i64 (gi r253.2 3)), (V.sl 9 Zd 0 none), (V.sl 10 Ze 0 none)]) r3 r4 r5 r6 (gl r253.2 1) (gl r253.2 2) (gl r253.2 4) (gl r253.2 5)
        else Option.bind (ZG (Za r210.2) 9) fun r254 =>
        bif r254.1 then
          Option.bind (ZF (V.agg [(V.int .i64 (gi b2 0)), (V.inl Zg r7), (V.inl Zf r8), (V.int .i64 (gi b2 3)), (V.inl Zd r9), (V.inl Ze r10)]) (V.agg [(V.int .i64 (-1)), (V.int .i64 0), (V.int .i64 0), (V.inl Zb []), (V.inl Zb []), (V.int .i64 0)])) fun r255 =>
          ZA k_ n4 (IntKind.i64.wrap (i5 + 1)) (Za r254.2) (V.agg [(V.int .i64 (gi b1 0)), (V.sl 3 Zg 0 none), (V.sl 4 Zf 0 none), (V.int .i64 (gi b1 3)), (V.sl 5 Zd 0 none), (V.sl 6 Ze 0 none)]) (V.agg [(V.int .i64 (gi r255.2 0)), (V.sl 7 Zg 0 none), (V.sl 8 Zf 0 none), (V.int .i64 (gi r255.2 3)), (V.sl 9 Zd 0 none), (V.sl 10 Ze 0 none)]) r3 r4 r5 r6 (gl r255.2 1) (gl r255.2 2) (gl r255.2 4) (gl r255.2 5)
        else Option.bind (ZF (V.agg [(V.int .i64 (gi b2 0)), (V.inl Zg r7), (V.inl Zf r8), (V.int .i64 (gi b2 3)), (V.inl Zd r9), (V.inl Ze r10)]) (V.agg [(V.int .i64 r209.1), (V.int .i64 (IntKind.i64.wrap (1 + i5))), (V.int .i64 (gi r210.1 0)), (V.inl Zb (gl r210.1 1)), (V.inl Zb (gl r210.1 2)), (V.int .i64 (gi r210.1 3))])) fun r256 =>
        ZA k_ n4 (IntKind.i64.wrap (i5 + 1)) (Za r254.2) (V.agg [(V.int .i64 (gi b1 0)), (V.sl 3 Zg 0 none), (V.sl 4 Zf 0 none), (V.int .i64 (gi b1 3)), (V.sl 5 Zd 0 none), (V.sl 6 Ze 0 none)]) (V.agg [(V.int .i64 (gi r256.2 0)), (V.sl 7 Zg 0 none), (V.sl 8 Zf 0 none), (V.int .i64 (gi r256.2 3)), (V.sl 9 Zd 0 none), (V.sl 10 Ze 0 none)]) r3 r4 r5 r6 (gl r256.2 1) (gl r256.2 2) (gl r256.2 4) (gl r256.2 5)
      else Option.bind (ZG (Za r210.2) 9) fun r257 =>
      bif r257.1 then
        Option.bind (ZF (V.agg [(V.int .i64 (gi b2 0)), (V.inl Zg r7), (V.inl Zf r8), (V.int .i64 (gi b2 3)), (V.inl Zd r9), (V.inl Ze r10)]) (V.agg [(V.int .i64 (-1)), (V.int .i64 0), (V.int .i64 0), (V.inl Zb []), (V.inl Zb []), (V.int .i64 0)])) fun r258 =>
        ZA k_ n4 (IntKind.i64.wrap (i5 + 1)) (Za r257.2) (V.agg [(V.int .i64 (gi b1 0)), (V.sl 3 Zg 0 none), (V.sl 4 Zf 0 none), (V.int .i64 (gi b1 3)), (V.sl 5 Zd 0 none), (V.sl 6 Ze 0 none)]) (V.agg [(V.int .i64 (gi r258.2 0)), (V.sl 7 Zg 0 none), (V.sl 8 Zf 0 none), (V.int .i64 (gi r258.2 3)), (V.sl 9 Zd 0 none), (V.sl 10 Ze 0 none)]) r3 r4 r5 r6 (gl r258.2 1) (gl r258.2 2) (gl r258.2 4) (gl r258.2 5)
      else Option.bind (ZF (V.agg [(V.int .i64 (gi b2 0)), (V.inl Zg r7), (V.inl Zf r8), (V.int .i64 (gi b2 3)), (V.inl Zd r9), (V.inl Ze r10)]) (V.agg [(V.int .i64 r209.1), (V.int .i64 (IntKind.i64.wrap (1 + i5))), (V.int .i64 (gi r210.1 0)), (V.inl Zb (gl r210.1 1)), (V.inl Zb (gl r210.1 2)), (V.int .i64 (gi r210.1 3))])) fun r259 =>
      ZA k_ n4 (IntKind.i64.wrap (i5 + 1)) (Za r257.2) (V.agg [(V.int .i64 (gi b1 0)), (V.sl 3 Zg 0 none), (V.sl 4 Zf 0 none), (V.int .i64 (gi b1 3)), (V.sl 5 Zd 0 none), (V.sl 6 Ze 0 none)]) (V.agg [(V.int .i64 (gi r259.2 0)), (V.sl 7 Zg 0 none), (V.sl 8 Zf 0 none), (V.int .i64 (gi r259.2 3)), (V.sl 9 Zd 0 none), (V.sl 10 Ze 0 none)]) r3 r4 r5 r6 (gl r259.2 1) (gl r259.2 2) (gl r259.2 4) (gl r259.2 5)
    else some ((Za b0), (V.agg [(V.int .i64 (gi b1 0)), (V.sl 3 Zg 0 none), (V.sl 4 Zf 0 none), (V.int .i64 (gi b1 3)), (V.sl 5 Zd 0 none), (V.sl 6 Ze 0 none)]), (V.agg [(V.int .i64 (gi b2 0)), (V.sl 7 Zg 0 none), (V.sl 8 Zf 0 none), (V.int .i64 (gi b2 3)), (V.sl 9 Zd 0 none), (V.sl 10 Ze 0 none)]), r3, r4, r5, r6, r7, r8, r9, r10)
def ZdI (c : V) : Option (V × V) :=
  Option.bind (Zh (Za c) 20) fun r208 =>
  Option.bind (ZA ((r208.1 - 0).toNat + 1) r208.1 0 (Za r208.2) (V.agg [(V.int .i64 0), (V.sl 3 Zg 0 none), (V.sl 4 Zf 0 none), (V.int .i64 0), (V.sl 5 Zd 0 none), (V.sl 6 Ze 0 none)]) (V.agg [(V.int .i64 0), (V.sl 7 Zg 0 none), (V.sl 8 Zf 0 none), (V.int .i64 0), (V.sl 9 Zd 0 none), (V.sl 10 Ze 0 none)]) [] [] [] [] [] [] [] []) fun r260 =>
  some ((V.agg [(V.int .i64 (gi r260.2.2.1 0)), (V.inl Zg r260.2.2.2.2.2.2.2.1), (V.inl Zf r260.2.2.2.2.2.2.2.2.1), (V.int .i64 (gi r260.2.2.1 3)), (V.inl Zd r260.2.2.2.2.2.2.2.2.2.1), (V.inl Ze r260.2.2.2.2.2.2.2.2.2.2)]), (Za r260.1))
def ZdU (c : V) : Option (V × V) :=
  Option.bind (ZdI (Za c)) fun r261 =>
  Option.bind (ZG (Za r261.2) 6) fun r262 =>
  bif (!r262.1) then
    some ((Zc r261.1), (Za r262.2))
  else Option.bind (Zh (Za r262.2) 8) fun r263 =>
  bif (decide (r263.1 = 0)) then
    Option.bind (ZI (Za r263.2) [(V.int .i64 (-1)), (V.int .i64 0), (V.int .i64 1000000), (V.int .i64 1000001)]) fun r264 =>
    some ((V.agg [(V.int .i64 r264.1), (V.inl Zg (gl r261.1 1)), (V.inl Zf (gl r261.1 2)), (V.int .i64 (gi r261.1 3)), (V.inl Zd (gl r261.1 4)), (V.inl Ze (gl r261.1 5))]), (Za r264.2))
  else bif (decide (r263.1 = 1)) then
    bif (decide ((0 : Int) < (((gl r261.1 1).length : Nat) : Int))) then
      Option.bind (Zh (Za r263.2) 9) fun r265 =>
      bif (Zm 0 ((gl r261.1 1).length)) then
        some ((V.agg [(V.int .i64 (gi r261.1 0)), (V.inl Zg ((gl r261.1 1).set 0 (V.agg [(V.inl Zb (gl (rd (gl r261.1 1) 0) 0)), (V.inl Zb (gl (rd (gl r261.1 1) 0) 1)), (V.int .i64 (gi (rd (gl r261.1 1) 0) 2)), (V.int .i64 r265.1)]))), (V.inl Zf (gl r261.1 2)), (V.int .i64 (gi r261.1 3)), (V.inl Zd (gl r261.1 4)), (V.inl Ze (gl r261.1 5))]), (Za r265.2))
      else none
    else some ((Zc r261.1), (Za r263.2))
  else bif (decide (r263.1 = 2)) then
    bif (decide ((0 : Int) < (((gl r261.1 1).length : Nat) : Int))) then
      Option.bind (ZI (Za r263.2) [(V.int .i64 0), (V.int .i64 1), (V.int .i64 999)]) fun r266 =>
      bif (Zm 0 ((gl r261.1 1).length)) then
        some ((V.agg [(V.int .i64 (gi r261.1 0)), (V.inl Zg ((gl r261.1 1).set 0 (V.agg [(V.inl Zb (gl (rd (gl r261.1 1) 0) 0)), (V.inl Zb (gl (rd (gl r261.1 1) 0) 1)), (V.int .i64 r266.1), (V.int .i64 (gi (rd (gl r261.1 1) 0) 3))]))), (V.inl Zf (gl r261.1 2)), (V.int .i64 (gi r261.1 3)), (V.inl Zd (gl r261.1 4)), (V.inl Ze (gl r261.1 5))]), (Za r266.2))
      else none
    else some ((Zc r261.1), (Za r263.2))
  else bif (decide (r263.1 = 3)) then
    Option.bind (ZaN (Za r263.2)) fun r267 =>
    bif ((Zu (((gl r261.1 2).length) + 1) 32) && true) then
      some ((V.agg [(V.int .i64 (gi r261.1 0)), (V.inl Zg (gl r261.1 1)), (V.inl Zf ((gl r261.1 2) ++ [(V.agg [(V.inl Zb r267.1), (V.int .i64 (gi r261.1 0))])])), (V.int .i64 (gi r261.1 3)), (V.inl Zd (gl r261.1 4)), (V.inl Ze (gl r261.1 5))]), (Za r267.2))
    else none
  else bif (decide (r263.1 = 4)) then
    Option.bind (ZI (Za r263.2) [(V.int .i64 (-1)), (V.int .i64 1), (V.int .i64 5)]) fun r268 =>
    some ((V.agg [(V.int .i64 (gi r261.1 0)), (V.inl Zg (gl r261.1 1)), (V.inl Zf (gl r261.1 2)), (V.int .i64 r268.1), (V.inl Zd (gl r261.1 4)), (V.inl Ze (gl r261.1 5))]), (Za r268.2))
  else bif (decide (r263.1 = 5)) then
    Option.bind (Zh (Za r263.2) 9) fun r269 =>
    bif ((Zu (((gl r261.1 4).length) + 1) 16) && true) then
      some ((V.agg [(V.int .i64 (gi r261.1 0)), (V.inl Zg (gl r261.1 1)), (V.inl Zf (gl r261.1 2)), (V.int .i64 (gi r261.1 3)), (V.inl Zd ((gl r261.1 4) ++ [(V.agg [(V.int .i64 r269.1), (V.bool false)])])), (V.inl Ze (gl r261.1 5))]), (Za r269.2))
    else none
  else bif (decide (r263.1 = 6)) then
    Option.bind (Zh (Za r263.2) 6) fun r270 =>
    bif ((Zu (((gl r261.1 5).length) + 1) 32) && true) then
      some ((V.agg [(V.int .i64 (gi r261.1 0)), (V.inl Zg (gl r261.1 1)), (V.inl Zf (gl r261.1 2)), (V.int .i64 (gi r261.1 3)), (V.inl Zd (gl r261.1 4)), (V.inl Ze ((gl r261.1 5) ++ [(V.agg [(V.int .i64 (IntKind.i64.wrap (r270.1 - 1))), (V.int .i64 1), (V.int .i64 0), (V.int .i64 1)])]))]), (Za r270.2))
    else none
  else bif (decide ((0 : Int) < (((gl r261.1 1).length : Nat) : Int))) then
    Option.bind (Zh (Za r263.2) 3) fun r271 =>
    bif (Zm r271.1 3) then
      bif (Zm 0 ((gl r261.1 1).length)) then
        some ((V.agg [(V.int .i64 (gi r261.1 0)), (V.inl Zg ((gl r261.1 1).set 0 (V.agg [(V.inl Zb (gs (rd [(V.str []), (V.str [(V.int .u8 65)]), (V.str [(V.int .u8 122), (V.int .u8 122)])] (0 + r271.1.toNat)) 0)), (V.inl Zb (gl (rd (gl r261.1 1) 0) 1)), (V.int .i64 (gi (rd (gl r261.1 1) 0) 2)), (V.int .i64 (gi (rd (gl r261.1 1) 0) 3))]))), (V.inl Zf (gl r261.1 2)), (V.int .i64 (gi r261.1 3)), (V.inl Zd (gl r261.1 4)), (V.inl Ze (gl r261.1 5))]), (Za r271.2))
      else none
    else none
  else some ((Zc r261.1), (Za r263.2))
def Zdl (c : V) : Option (V × V) :=
  Option.bind (spec_l2op (Za c) 6) fun r275 =>
  Option.bind (ZG (Za r275.2) 6) fun r276 =>
  bif r276.1 then
    Option.bind (Zh (Za r276.2) 4) fun r277 =>
    bif (decide (r277.1 = 0)) then
      Option.bind (ZI (Za r277.2) [(V.int .i64 (-1)), (V.int .i64 8), (V.int .i64 0), (V.int .i64 2)]) fun r278 =>
      some ((V.agg [(V.int .i64 r278.1), (V.inl Zb (gl r275.1 1)), (V.inl Zb (gl r275.1 2)), (V.int .i64 (gi r275.1 3))]), (Za r278.2))
    else bif (decide (r277.1 = 1)) then
      bif ((Zu (((gl r275.1 1).length) + 1) 1) && true) then
        some ((V.agg [(V.int .i64 (gi r275.1 0)), (V.inl Zb ((gl r275.1 1) ++ [(V.int .u8 65)])), (V.inl Zb (gl r275.1 2)), (V.int .i64 (gi r275.1 3))]), (Za r277.2))
      else none
    else bif (decide (r277.1 = 2)) then
      Option.bind (Zh (Za r277.2) 2) fun r279 =>
      bif (((decide ((0 : Int) ≤ (IntKind.i64.wrap (20 + r279.1)))) && decide ((IntKind.i64.wrap (20 + r279.1)) = (IntKind.i64.wrap (20 + r279.1)))) && (Zu ((IntKind.i64.wrap (20 + r279.1)).toNat) 1)) then
        some ((V.agg [(V.int .i64 (gi r275.1 0)), (V.inl Zb (gl r275.1 1)), (V.inl Zb (List.replicate ((IntKind.i64.wrap (20 + r279.1)).toNat) (V.int .u8 0))), (V.int .i64 (gi r275.1 3))]), (Za r279.2))
      else none
    else Option.bind (ZI (Za r277.2) [(V.int .i64 (-1)), (V.int .i64 0), (V.int .i64 1), (V.int .i64 2), (V.int .i64 1000000), (V.int .i64 1000001)]) fun r280 =>
    some ((V.agg [(V.int .i64 (gi r275.1 0)), (V.inl Zb (gl r275.1 1)), (V.inl Zb (gl r275.1 2)), (V.int .i64 r280.1)]), (Za r280.2))
  else some ((n_impl_Op r275.1), (Za r276.2))
def Zc7 (c : V) : Option (V × V) :=
  Option.bind (Zh (Za c) 4) fun r273 =>
  Option.bind (Zh (Za r273.2) 25) fun r274 =>
  Option.bind (Zdl (Za r274.2)) fun r281 =>
  Option.bind (ZG (Za r281.2) 8) fun r282 =>
  bif r282.1 then
    Option.bind (ZG (Za r282.2) 10) fun r283 =>
    bif r283.1 then
      Option.bind (ZI (Za r283.2) [(V.int .i64 (-1)), (V.int .i64 0), (V.int .i64 1), (V.int .i64 1000000), (V.int .i64 1000001)]) fun r284 =>
      Option.bind (ZG (Za r284.2) 20) fun r285 =>
      bif r285.1 then
        Option.bind (ZI (Za r285.2) [(V.int .i64 (-2)), (V.int .i64 (-1)), (V.int .i64 3), (V.int .i64 4)]) fun r286 =>
        some ((V.agg [(V.int .i64 r286.1), (V.int .i64 r284.1), (V.int .i64 0), (V.inl Zb []), (V.inl Zb []), (V.int .i64 0)]), (Za r286.2))
      else some ((V.agg [(V.int .i64 (-1)), (V.int .i64 r284.1), (V.int .i64 0), (V.inl Zb []), (V.inl Zb []), (V.int .i64 0)]), (Za r285.2))
    else Option.bind (ZG (Za r283.2) 20) fun r287 =>
    bif r287.1 then
      Option.bind (ZI (Za r287.2) [(V.int .i64 (-2)), (V.int .i64 (-1)), (V.int .i64 3), (V.int .i64 4)]) fun r288 =>
      some ((V.agg [(V.int .i64 r288.1), (V.int .i64 0), (V.int .i64 0), (V.inl Zb []), (V.inl Zb []), (V.int .i64 0)]), (Za r288.2))
    else some ((V.agg [(V.int .i64 (-1)), (V.int .i64 0), (V.int .i64 0), (V.inl Zb []), (V.inl Zb []), (V.int .i64 0)]), (Za r287.2))
  else Option.bind (ZG (Za r282.2) 10) fun r289 =>
  bif r289.1 then
    Option.bind (ZI (Za r289.2) [(V.int .i64 (-1)), (V.int .i64 0), (V.int .i64 1), (V.int .i64 1000000), (V.int .i64 1000001)]) fun r290 =>
    Option.bind (ZG (Za r290.2) 20) fun r291 =>
    bif r291.1 then
      Option.bind (ZI (Za r291.2) [(V.int .i64 (-2)), (V.int .i64 (-1)), (V.int .i64 3), (V.int .i64 4)]) fun r292 =>
      some ((V.agg [(V.int .i64 r292.1), (V.int .i64 r290.1), (V.int .i64 (gi r281.1 0)), (V.inl Zb (gl r281.1 1)), (V.inl Zb (gl r281.1 2)), (V.int .i64 (gi r281.1 3))]), (Za r292.2))
    else some ((V.agg [(V.int .i64 r273.1), (V.int .i64 r290.1), (V.int .i64 (gi r281.1 0)), (V.inl Zb (gl r281.1 1)), (V.inl Zb (gl r281.1 2)), (V.int .i64 (gi r281.1 3))]), (Za r291.2))
  else Option.bind (ZG (Za r289.2) 20) fun r293 =>
  bif r293.1 then
    Option.bind (ZI (Za r293.2) [(V.int .i64 (-2)), (V.int .i64 (-1)), (V.int .i64 3), (V.int .i64 4)]) fun r294 =>
    some ((V.agg [(V.int .i64 r294.1), (V.int .i64 (IntKind.i64.wrap (1 + r274.1))), (V.int .i64 (gi r281.1 0)), (V.inl Zb (gl r281.1 1)), (V.inl Zb (gl r281.1 2)), (V.int .i64 (gi r281.1 3))]), (Za r294.2))
  else some ((V.agg [(V.int .i64 r273.1), (V.int .i64 (IntKind.i64.wrap (1 + r274.1))), (V.int .i64 (gi r281.1 0)), (V.inl Zb (gl r281.1 1)), (V.inl Zb (gl r281.1 2)), (V.int .i64 (gi r281.1 3))]), (Za r293.2))
def Zc8 (code : List V) : Option (V × V) :=
  Option.bind (ZdH code) fun r2 =>
  Option.bind (ZdU (Za r2)) fun r272 =>
  Option.bind (Zc7 (Za r272.2)) fun r295 =>
  bif (decide ((0 : Int) < (((gl r272.1 4).length : Nat) : Int))) then
    bif (decide ((5 : Int) ≤ (gi r295.1 2))) then
      Option.bind (ZG (Za r295.2) 2) fun r296 =>
      bif r296.1 then
        Option.bind (Zh (Za r296.2) (((gl r272.1 4).length : Nat) : Int)) fun r297 =>
        bif (Zm r297.1 ((gl r272.1 4).length)) then
          Option.bind (ZG (Za r297.2) 2) fun r298 =>
          bif r298.1 then
            some ((Zc r272.1), (V.agg [(V.int .i64 (gi r295.1 0)), (V.int .i64 (IntKind.i64.wrap ((gi r295.1 1) + 20))), (V.int .i64 (gi r295.1 2)), (V.inl Zb (gl r295.1 3)), (V.inl Zb (gl r295.1 4)), (V.int .i64 (gi (rd (gl r272.1 4) (0 + r297.1.toNat)) 0))]))
          else some ((Zc r272.1), (V.agg [(V.int .i64 (gi r295.1 0)), (V.int .i64 (gi r295.1 1)), (V.int .i64 (gi r295.1 2)), (V.inl Zb (gl r295.1 3)), (V.inl Zb (gl r295.1 4)), (V.int .i64 (gi (rd (gl r272.1 4) (0 + r297.1.toNat)) 0))]))
        else none
      else Option.bind (ZG (Za r296.2) 2) fun r299 =>
      bif r299.1 then
        some ((Zc r272.1), (V.agg [(V.int .i64 (gi r295.1 0)), (V.int .i64 (IntKind.i64.wrap ((gi r295.1 1) + 20))), (V.int .i64 (gi r295.1 2)), (V.inl Zb (gl r295.1 3)), (V.inl Zb (gl r295.1 4)), (V.int .i64 (gi r295.1 5))]))
      else some ((Zc r272.1), (Zn r295.1))
    else Option.bind (ZG (Za r295.2) 2) fun r300 =>
    bif r300.1 then
      some ((Zc r272.1), (V.agg [(V.int .i64 (gi r295.1 0)), (V.int .i64 (IntKind.i64.wrap ((gi r295.1 1) + 20))), (V.int .i64 (gi r295.1 2)), (V.inl Zb (gl r295.1 3)), (V.inl Zb (gl r295.1 4)), (V.int .i64 (gi r295.1 5))]))
    else some ((Zc r272.1), (Zn r295.1))
  else Option.bind (ZG (Za r295.2) 2) fun r301 =>
  bif r301.1 then
    some ((Zc r272.1), (V.agg [(V.int .i64 (gi r295.1 0)), (V.int .i64 (IntKind.i64.wrap ((gi r295.1 1) + 20))), (V.int .i64 (gi r295.1 2)), (V.inl Zb (gl r295.1 3)), (V.inl Zb (gl r295.1 4)), (V.int .i64 (gi r295.1 5))]))
  else some ((Zc r272.1), (Zn r295.1))
def ZL (n : Int) (low : Int) (high : Int) : Bool :=
  bif (decide (low ≤ n)) then
    (decide (n ≤ high))
  else false
def Za9 : Nat → List V → List V → Int → Int → Option (Nat × List V × Bool)
  | 0, _, _, _, _ => none
  | k_ + 1, b0, v5, v6, v7 =>
    bif (decide (v7 < v6)) then
      bif (Zm v7 v5.length) then
        bif (decide ((gi (rd v5 v7.toNat) 0) < 97)) then
          bif (!(decide ((gi (rd v5 v7.toNat) 0) = 47))) then
            some (0, b0, false)
          else Za9 k_ b0 v5 v6 (IntKind.i64.wrap (v7 + 1))
        else bif (decide ((122 : Int) < (gi (rd v5 v7.toNat) 0))) then
          bif (!(decide ((gi (rd v5 v7.toNat) 0) = 47))) then
            some (0, b0, false)
          else Za9 k_ b0 v5 v6 (IntKind.i64.wrap (v7 + 1))
        else Za9 k_ b0 v5 v6 (IntKind.i64.wrap (v7 + 1))
      else none
    else some (1, b0, false)
def Zbi (b : List V) : Option (Bool) :=
  Option.bind (Za9 ((((b.length : Nat) : Int) - 0).toNat + 1) b b ((b.length : Nat) : Int) 0) fun r303 =>
  bif (Nat.beq r303.1 0) then
    some r303.2.2
  else some (ZL ((r303.2.1.length : Nat) : Int) 1 20)
def Zb0 (b : List V) : Bool :=
  (decide (((b.length : Nat) : Int) ≤ 20))
def ZdJ (x : V) (a1 : V) : Bool :=
  (decide ((gi x 0) = (gi a1 0)))
def Z7 : Nat → List V → V → Int → Int → Option (Nat × Int)
  | 0, _, _, _, _ => none
  | k_ + 1, s0, f1_0, v7, v8 =>
    bif (decide (v8 < v7)) then
      bif (Zm v8 s0.length) then
        bif ZdJ (Zcx (rd s0 v8.toNat)) (V.agg [(V.int .i64 (gi f1_0 0))]) then
          some (0, v8)
        else Z7 k_ s0 (V.agg [(V.int .i64 (gi f1_0 0))]) v7 (IntKind.i64.wrap (v8 + 1))
      else none
    else some (1, 0)
def Zb1 (s : List V) (f_0 : V) : Option (Int) :=
  Option.bind (Z7 ((((s.length : Nat) : Int) - 0).toNat + 1) s (V.agg [(V.int .i64 (gi f_0 0))]) ((s.length : Nat) : Int) 0) fun r305 =>
  bif (Nat.beq r305.1 0) then
    some r305.2
  else some (-1)
def ZaY (s : V) (id : Int) : Option (Int) :=
  Option.bind (Zb1 (gl s 4) (V.agg [(V.int .i64 id)])) fun r306 =>
  some r306
def ZcK (r : V) (key : List V) : Int :=
  (cmpV (gl r 0) key)
def ZJ : Nat → List V → List V → Int → Int → Int → Option (List V × List V × Int × Int)
  | 0, _, _, _, _, _ => none
  | k_ + 1, x0, target1, n8, i9, j10 =>
    bif (decide (i9 < j10)) then
      bif (Zm (IntKind.i64.wrap (sShr .u64 (IntKind.u64.wrap (IntKind.i64.wrap (i9 + j10))) 1)) x0.length) then
        bif (decide ((ZcK (n_impl_Row (rd x0 ((IntKind.i64.wrap (sShr .u64 (IntKind.u64.wrap (IntKind.i64.wrap (i9 + j10))) 1)).toNat))) target1) < 0)) then
          ZJ k_ x0 target1 n8 (IntKind.i64.wrap ((IntKind.i64.wrap (sShr .u64 (IntKind.u64.wrap (IntKind.i64.wrap (i9 + j10))) 1)) + 1)) j10
        else ZJ k_ x0 target1 n8 i9 (IntKind.i64.wrap (sShr .u64 (IntKind.u64.wrap (IntKind.i64.wrap (i9 + j10))) 1))
      else none
    else some (x0, target1, n8, i9)
def Za2 (x : List V) (target : List V) : Option (Int × Bool) :=
  Option.bind (ZJ ((((x.length : Nat) : Int) - 0).toNat + 1) x target ((x.length : Nat) : Int) 0 ((x.length : Nat) : Int)) fun r309 =>
  bif (decide (r309.2.2.2 < r309.2.2.1)) then
    bif (Zm r309.2.2.2 r309.1.length) then
      some (r309.2.2.2, (decide ((ZcK (n_impl_Row (rd r309.1 r309.2.2.2.toNat)) r309.2.1) = 0)))
    else none
  else some (r309.2.2.2, false)
def Zbc (s : V) (key : List V) : Option (Int × Bool) :=
  Option.bind (Za2 (gl s 1) key) fun r310 =>
  some (r310.1, r310.2)
def Zdf (a : List V) (b : List V) : Bool :=
  (Zba (a.map ZaB) (b.map ZaB))
def Zd0 (t : V) (a1 : V) : Bool :=
  (Zdf (gl t 0) (gl a1 0))
def Zag : Nat → List V → V → Int → Int → Option (Nat × Int)
  | 0, _, _, _, _ => none
  | k_ + 1, s0, f1_0, v7, v8 =>
    bif (decide (v8 < v7)) then
      bif (Zm v8 s0.length) then
        bif Zd0 (n_impl_Tomb (rd s0 v8.toNat)) (V.agg [(V.inl Zb (gl f1_0 0))]) then
          some (0, v8)
        else Zag k_ s0 (V.agg [(V.inl Zb (gl f1_0 0))]) v7 (IntKind.i64.wrap (v8 + 1))
      else none
    else some (1, 0)
def ZcA (s : List V) (f_0 : V) : Option (Int) :=
  Option.bind (Zag ((((s.length : Nat) : Int) - 0).toNat + 1) s (V.agg [(V.inl Zb (gl f_0 0))]) ((s.length : Nat) : Int) 0) fun r313 =>
  bif (Nat.beq r313.1 0) then
    some r313.2
  else some (-1)
def Zbj (s : V) (key : List V) : Option (Int) :=
  Option.bind (ZcA (gl s 2) (V.agg [(V.inl Zb key)])) fun r314 =>
  some r314
def Zaq : Nat → List V → Int → Int → V → Option (Nat × Bool × V)
  | 0, _, _, _, _ => none
  | k_ + 1, v51, v52, v53, b0 =>
    bif (decide (v53 < v52)) then
      bif (Zm v53 v51.length) then
        Option.bind (Zbi (gl (rd v51 v53.toNat) 0)) fun r304 =>
        bif (!r304) then
          some (0, false, (Zc b0))
        else bif (!(Zb0 (gl (rd v51 v53.toNat) 1))) then
          some (0, false, (Zc b0))
        else bif (!(ZL (gi (rd v51 v53.toNat) 2) 1 (gi b0 0))) then
          some (0, false, (Zc b0))
        else bif (!(decide ((gi (rd v51 v53.toNat) 3) = 0))) then
          Option.bind (ZaY (Zc b0) (gi (rd v51 v53.toNat) 3)) fun r307 =>
          bif (decide (r307 < 0)) then
            some (0, false, (Zc b0))
          else bif (decide ((0 : Int) < v53)) then
            bif (Zm (IntKind.i64.wrap (v53 - 1)) ((gl b0 1).length)) then
              bif (decide ((0 : Int) ≤ (cmpV (gl (rd (gl b0 1) ((IntKind.i64.wrap (v53 - 1)).toNat)) 0) (gl (rd v51 v53.toNat) 0)))) then
                some (0, false, (Zc b0))
              else Zaq k_ v51 v52 (IntKind.i64.wrap (v53 + 1)) (Zc b0)
            else none
          else Zaq k_ v51 v52 (IntKind.i64.wrap (v53 + 1)) (Zc b0)
        else bif (decide ((0 : Int) < v53)) then
          bif (Zm (IntKind.i64.wrap (v53 - 1)) ((gl b0 1).length)) then
            bif (decide ((0 : Int) ≤ (cmpV (gl (rd (gl b0 1) ((IntKind.i64.wrap (v53 - 1)).toNat)) 0) (gl (rd v51 v53.toNat) 0)))) then
              some (0, false, (Zc b0))
            else Zaq k_ v51 v52 (IntKind.i64.wrap (v53 + 1)) (Zc b0)
          else none
        else Zaq k_ v51 v52 (IntKind.i64.wrap (v53 + 1)) (Zc b0)
      else none
    else some (1, false, (Zc b0))
def ZaG : Nat → Int → List V → Int → Int → V → Option (Nat × Bool × V)
  | 0, _, _, _, _, _ => none
  | k_ + 1, before5, v110, v111, v112, b0 =>
    bif (decide (v112 < v111)) then
      bif (Zm v112 v110.length) then
        Option.bind (Zbc (Zc b0) (gl (rd v110 v112.toNat) 0)) fun r311 =>
        bif r311.2 then
          some (0, false, (Zc b0))
        else Option.bind (Zbi (gl (rd v110 v112.toNat) 0)) fun r312 =>
        bif (!r312) then
          some (0, false, (Zc b0))
        else Option.bind (Zbj (Zc b0) (gl (rd v110 v112.toNat) 0)) fun r315 =>
        bif (!(decide (r315 = v112))) then
          some (0, false, (Zc b0))
        else bif (!(ZL (gi (rd v110 v112.toNat) 1) before5 (gi b0 0))) then
          some (0, false, (Zc b0))
        else ZaG k_ (gi (rd v110 v112.toNat) 1) v110 v111 (IntKind.i64.wrap (v112 + 1)) (Zc b0)
      else none
    else some (1, false, (Zc b0))
def ZaH : Nat → List V → Int → Int → V → Option (Nat × Bool × V)
  | 0, _, _, _, _ => none
  | k_ + 1, v152, v153, v154, b0 =>
    bif (decide (v154 < v153)) then
      bif (Zm v154 v152.length) then
        bif (!(ZL (gi (rd v152 v154.toNat) 0) 1 (gi b0 0))) then
          some (0, false, (Zc b0))
        else bif (decide ((0 : Int) < v154)) then
          bif (Zm (IntKind.i64.wrap (v154 - 1)) ((gl b0 4).length)) then
            bif (decide ((gi (rd v152 v154.toNat) 0) ≤ (gi (rd (gl b0 4) ((IntKind.i64.wrap (v154 - 1)).toNat)) 0))) then
              some (0, false, (Zc b0))
            else ZaH k_ v152 v153 (IntKind.i64.wrap (v154 + 1)) (Zc b0)
          else none
        else ZaH k_ v152 v153 (IntKind.i64.wrap (v154 + 1)) (Zc b0)
      else none
    else some (1, false, (Zc b0))
def ZaI : Nat → List V → Int → Int → V → Option (Nat × Bool)
  | 0, _, _, _, _ => none
  | k_ + 1, v183, v184, v185, b0 =>
    bif (decide (v185 < v184)) then
      bif (Zm v185 v183.length) then
        bif (!(ZL (gi (rd v183 v185.toNat) 0) 0 3)) then
          some (0, false)
        else bif (!(ZL (gi (rd v183 v185.toNat) 1) 1 1000000)) then
          some (0, false)
        else bif (!(ZL (gi (rd v183 v185.toNat) 2) 0 5)) then
          some (0, false)
        else bif (!(ZL (gi (rd v183 v185.toNat) 3) 1 (gi b0 0))) then
          some (0, false)
        else bif (decide ((0 : Int) < v185)) then
          bif (Zm (IntKind.i64.wrap (v185 - 1)) ((gl b0 5).length)) then
            bif (decide ((gi (rd v183 v185.toNat) 0) ≤ (gi (rd (gl b0 5) ((IntKind.i64.wrap (v185 - 1)).toNat)) 0))) then
              some (0, false)
            else ZaI k_ v183 v184 (IntKind.i64.wrap (v185 + 1)) (Zc b0)
          else none
        else ZaI k_ v183 v184 (IntKind.i64.wrap (v185 + 1)) (Zc b0)
      else none
    else some (1, false)
def Zc0 (s : V) : Option (Bool) :=
  bif (!(ZL (gi s 0) 0 1000000)) then
    some false
  else bif (!(ZL (gi s 3) 0 (gi s 0))) then
    some false
  else bif (decide ((20 : Int) < (((gl s 1).length : Nat) : Int))) then
    some false
  else bif (decide ((10 : Int) < (((gl s 2).length : Nat) : Int))) then
    some false
  else bif (decide ((8 : Int) < (((gl s 4).length : Nat) : Int))) then
    some false
  else bif (decide ((4 : Int) < (((gl s 5).length : Nat) : Int))) then
    some false
  else Option.bind (Zaq (((((gl s 1).length : Nat) : Int) - 0).toNat + 1) (gl s 1) (((gl s 1).length : Nat) : Int) 0 (Zc s)) fun r308 =>
  bif (Nat.beq r308.1 0) then
    some r308.2.1
  else Option.bind (ZaG (((((gl r308.2.2 2).length : Nat) : Int) - 0).toNat + 1) (mxI 1 (gi r308.2.2 3)) (gl r308.2.2 2) (((gl r308.2.2 2).length : Nat) : Int) 0 (Zc r308.2.2)) fun r316 =>
  bif (Nat.beq r316.1 0) then
    some r316.2.1
  else Option.bind (ZaH (((((gl r316.2.2 4).length : Nat) : Int) - 0).toNat + 1) (gl r316.2.2 4) (((gl r316.2.2 4).length : Nat) : Int) 0 (Zc r316.2.2)) fun r317 =>
  bif (Nat.beq r317.1 0) then
    some r317.2.1
  else Option.bind (ZaI (((((gl r317.2.2 5).length : Nat) : Int) - 0).toNat + 1) (gl r317.2.2 5) (((gl r317.2.2 5).length : Nat) : Int) 0 (Zc r317.2.2)) fun r318 =>
  bif (Nat.beq r318.1 0) then
    some r318.2
  else some true
def impl_noOp : V :=
  (V.agg [(V.int .i64 (-1)), (V.int .i64 0), (V.int .i64 0), (V.inl Zb []), (V.inl Zb []), (V.int .i64 0)])
def impl_Op_same (o : V) (p : V) : Bool :=
  bif (decide ((gi o 0) = (gi p 0))) then
    bif Zdf (gl o 1) (gl p 1) then
      bif Zdf (gl o 2) (gl p 2) then
        (decide ((gi o 3) = (gi p 3)))
      else false
    else false
  else false
def Zdm (c : V) (d : V) : Bool :=
  bif (decide ((gi c 0) = (gi d 0))) then
    bif (decide ((gi c 1) = (gi d 1))) then
      (impl_Op_same (V.agg [(V.int .i64 (gi c 2)), (V.inl Zb (gl c 3)), (V.inl Zb (gl c 4)), (V.int .i64 (gi c 5))]) (V.agg [(V.int .i64 (gi d 2)), (V.inl Zb (gl d 3)), (V.inl Zb (gl d 4)), (V.int .i64 (gi d 5))]))
    else false
  else false
def impl_OpOk (o : V) : Option (Bool) :=
  bif (decide ((gi o 0) = 0)) then
    bif ZL (gi o 3) 0 0 then
      bif (decide ((((gl o 1).length : Nat) : Int) = 0)) then
        some (decide ((((gl o 2).length : Nat) : Int) = 0))
      else some false
    else some false
  else bif (decide ((gi o 0) = 1)) then
    bif ZL (gi o 3) 0 0 then
      Option.bind (Zbi (gl o 1)) fun r320 =>
      bif r320 then
        bif Zb0 (gl o 2) then
          some true
        else some false
      else some false
    else some false
  else bif (decide ((gi o 0) = 2)) then
    bif ZL (gi o 3) 0 1000000 then
      Option.bind (Zbi (gl o 1)) fun r321 =>
      bif r321 then
        bif Zb0 (gl o 2) then
          some true
        else some false
      else some false
    else some false
  else bif (decide ((gi o 0) = 3)) then
    bif ZL (gi o 3) 0 0 then
      Option.bind (Zbi (gl o 1)) fun r322 =>
      bif r322 then
        some (decide ((((gl o 2).length : Nat) : Int) = 0))
      else some false
    else some false
  else bif (decide ((gi o 0) = 4)) then
    bif ZL (gi o 3) 0 1 then
      bif (decide ((((gl o 1).length : Nat) : Int) = 0)) then
        some (decide ((((gl o 2).length : Nat) : Int) = 0))
      else some false
    else some false
  else bif (decide ((gi o 0) = 5)) then
    bif ZL (gi o 3) 1 1000000 then
      bif (decide ((((gl o 1).length : Nat) : Int) = 0)) then
        some (decide ((((gl o 2).length : Nat) : Int) = 0))
      else some false
    else some false
  else bif (decide ((gi o 0) = 6)) then
    bif ZL (gi o 3) 1 1000000 then
      Option.bind (Zbi (gl o 1)) fun r323 =>
      bif r323 then
        bif Zb0 (gl o 2) then
          some true
        else some false
      else some false
    else some false
  else bif (decide ((gi o 0) = 7)) then
    bif ZL (gi o 3) 1 1000000 then
      Option.bind (Zbi (gl o 1)) fun r324 =>
      bif r324 then
        some (decide ((((gl o 2).length : Nat) : Int) = 0))
      else some false
    else some false
  else some false
def Zc9 (c : V) : Option (Bool) :=
  bif Zdm (Zn c) (Zn impl_noOp) then
    some true
  else bif ZL (gi c 0) 0 3 then
    bif ZL (gi c 1) 1 1000000 then
      Option.bind (impl_OpOk (V.agg [(V.int .i64 (gi c 2)), (V.inl Zb (gl c 3)), (V.inl Zb (gl c 4)), (V.int .i64 (gi c 5))])) fun r325 =>
      some r325
    else some false
  else some false
def Zb2 (s : List V) : Option (List V) :=
  bif ((Zu (0 + s.length) 64) && true) then
    some s
  else none
def ZbL (s : List V) : Option (List V) :=
  bif ((Zu (0 + s.length) 32) && true) then
    some s
  else none
def Zbk (s : List V) : Option (List V) :=
  bif ((Zu (0 + s.length) 16) && true) then
    some s
  else none
def ZbM (s : List V) : Option (List V) :=
  bif ((Zu (0 + s.length) 32) && true) then
    some s
  else none
def Z3 (s : List V) : Option (List V) :=
  bif ((Zu (0 + s.length) 1) && true) then
    some s
  else none
def ZaP : Nat → Int → Int → V → V → List V → List V → List V → List V → List V → List V → List V → List V → Option (V × V × List V × List V × List V × List V × List V × List V × List V × List V)
  | 0, _, _, _, _, _, _, _, _, _, _, _, _ => none
  | k_ + 1, v25, v26, b0, b1, r2, r3, r4, r5, r6, r7, r8, r9 =>
    bif (decide (v26 < v25)) then
      bif (Zm v26 r2.length) then
        Option.bind (Z3 (gl (rd r2 (0 + v26.toNat)) 0)) fun r335 =>
        Option.bind (Z3 (gl (rd r2 (0 + v26.toNat)) 1)) fun r336 =>
        bif (Zm v26 r2.length) then
          bif (Zm v26 ((r2.set (0 + v26.toNat) (V.agg [(V.inl Zb r335), (V.inl Zb (gl (rd r2 (0 + v26.toNat)) 1)), (V.int .i64 (gi (rd r2 (0 + v26.toNat)) 2)), (V.int .i64 (gi (rd r2 (0 + v26.toNat)) 3))])).length)) then
            ZaP k_ v25 (IntKind.i64.wrap (v26 + 1)) (V.agg [(V.int .i64 (gi b0 0)), (V.sl 2 Zg 0 none), (V.sl 3 Zf 0 none), (V.int .i64 (gi b0 3)), (V.sl 4 Zd 0 none), (V.sl 5 Ze 0 none)]) (V.agg [(V.int .i64 (gi b1 0)), (V.sl 6 Zg 0 none), (V.sl 7 Zf 0 none), (V.int .i64 (gi b1 3)), (V.sl 8 Zd 0 none), (V.sl 9 Ze 0 none)]) ((r2.set (0 + v26.toNat) (V.agg [(V.inl Zb r335), (V.inl Zb (gl (rd r2 (0 + v26.toNat)) 1)), (V.int .i64 (gi (rd r2 (0 + v26.toNat)) 2)), (V.int .i64 (gi (rd r2 (0 + v26.toNat)) 3))])).set (0 + v26.toNat) (V.agg [(V.inl Zb (gl (rd (r2.set (0 + v26.toNat) (V.agg [(V.inl Zb r335), (V.inl Zb (gl (rd r2 (0 + v26.toNat)) 1)), (V.int .i64 (gi (rd r2 (0 + v26.toNat)) 2)), (V.int .i64 (gi (rd r2 (0 + v26.toNat)) 3))])) (0 + v26.toNat)) 0)), (V.inl Zb r336), (V.int .i64 (gi (rd (r2.set (0 + v26.toNat) (V.agg [(V.inl Zb r335), (V.inl Zb (gl (rd r2 (0 + v26.toNat)) 1)), (V.int .i64 (gi (rd r2 (0 + v26.toNat)) 2)), (V.int .i64 (gi (rd r2 (0 + v26.toNat)) 3))])) (0 + v26.toNat)) 2)), (V.int .i64 (gi (rd (r2.set (0 + v26.toNat) (V.agg [(V.inl Zb r335), (V.inl Zb (gl (rd r2 (0 + v26.toNat)) 1)), (V.int .i64 (gi (rd r2 (0 + v26.toNat)) 2)), (V.int .i64 (gi (rd r2 (0 + v26.toNat)) 3))])) (0 + v26.toNat)) 3))])) r3 r4 r5 r6 r7 r8 r9
          else none
        else none
      else none
    else some ((V.agg [(V.int .i64 (gi b0 0)), (V.sl 2 Zg 0 none), (V.sl 3 Zf 0 none), (V.int .i64 (gi b0 3)), (V.sl 4 Zd 0 none), (V.sl 5 Ze 0 none)]), (V.agg [(V.int .i64 (gi b1 0)), (V.sl 6 Zg 0 none), (V.sl 7 Zf 0 none), (V.int .i64 (gi b1 3)), (V.sl 8 Zd 0 none), (V.sl 9 Ze 0 none)]), r2, r3, r4, r5, r6, r7, r8, r9)
def ZaQ : Nat → Int → Int → V → V → List V → List V → List V → List V → List V → List V → List V → List V → Option (V × V × List V × List V × List V × List V × List V × List V × List V × List V)
  | 0, _, _, _, _, _, _, _, _, _, _, _, _ => none
  | k_ + 1, v50, v51, b0, b1, r2, r3, r4, r5, r6, r7, r8, r9 =>
    bif (decide (v51 < v50)) then
      bif (Zm v51 r2.length) then
        Option.bind (Z3 (gl (rd r2 (0 + v51.toNat)) 0)) fun r338 =>
        bif (Zm v51 r2.length) then
          ZaQ k_ v50 (IntKind.i64.wrap (v51 + 1)) (V.agg [(V.int .i64 (gi b0 0)), (V.sl 3 Zg 0 none), (V.sl 2 Zf 0 none), (V.int .i64 (gi b0 3)), (V.sl 4 Zd 0 none), (V.sl 5 Ze 0 none)]) (V.agg [(V.int .i64 (gi b1 0)), (V.sl 6 Zg 0 none), (V.sl 7 Zf 0 none), (V.int .i64 (gi b1 3)), (V.sl 8 Zd 0 none), (V.sl 9 Ze 0 none)]) (r2.set (0 + v51.toNat) (V.agg [(V.inl Zb r338), (V.int .i64 (gi (rd r2 (0 + v51.toNat)) 1))])) r3 r4 r5 r6 r7 r8 r9
        else none
      else none
    else some ((V.agg [(V.int .i64 (gi b0 0)), (V.sl 2 Zg 0 none), (V.sl 3 Zf 0 none), (V.int .i64 (gi b0 3)), (V.sl 4 Zd 0 none), (V.sl 5 Ze 0 none)]), (V.agg [(V.int .i64 (gi b1 0)), (V.sl 6 Zg 0 none), (V.sl 7 Zf 0 none), (V.int .i64 (gi b1 3)), (V.sl 8 Zd 0 none), (V.sl 9 Ze 0 none)]), r3, r2, r4, r5, r6, r7, r8, r9)
def ZcB (s : V) : Option (V) :=
  Option.bind (Zb2 (gl s 1)) fun r331 =>
  Option.bind (ZbL (gl s 2)) fun r332 =>
  Option.bind (Zbk (gl s 4)) fun r333 =>
  Option.bind (ZbM (gl s 5)) fun r334 =>
  Option.bind (ZaP ((((r331.length : Nat) : Int) - 0).toNat + 1) ((r331.length : Nat) : Int) 0 (V.agg [(V.int .i64 (gi s 0)), (V.sl 2 Zg 0 none), (V.sl 3 Zf 0 none), (V.int .i64 (gi s 3)), (V.sl 4 Zd 0 none), (V.sl 5 Ze 0 none)]) (V.agg [(V.int .i64 0), (V.sl 6 Zg 0 none), (V.sl 7 Zf 0 none), (V.int .i64 0), (V.sl 8 Zd 0 none), (V.sl 9 Ze 0 none)]) r331 r332 r333 r334 [] [] [] []) fun r337 =>
  Option.bind (ZaQ ((((r337.2.2.2.1.length : Nat) : Int) - 0).toNat + 1) ((r337.2.2.2.1.length : Nat) : Int) 0 (V.agg [(V.int .i64 (gi r337.1 0)), (V.sl 3 Zg 0 none), (V.sl 2 Zf 0 none), (V.int .i64 (gi r337.1 3)), (V.sl 4 Zd 0 none), (V.sl 5 Ze 0 none)]) (V.agg [(V.int .i64 (gi r337.2.1 0)), (V.sl 6 Zg 0 none), (V.sl 7 Zf 0 none), (V.int .i64 (gi r337.2.1 3)), (V.sl 8 Zd 0 none), (V.sl 9 Ze 0 none)]) r337.2.2.2.1 r337.2.2.1 r337.2.2.2.2.1 r337.2.2.2.2.2.1 r337.2.2.2.2.2.2.1 r337.2.2.2.2.2.2.2.1 r337.2.2.2.2.2.2.2.2.1 r337.2.2.2.2.2.2.2.2.2) fun r339 =>
  some (V.agg [(V.int .i64 (gi r339.1 0)), (V.inl Zg r339.2.2.1), (V.inl Zf r339.2.2.2.1), (V.int .i64 (gi r339.1 3)), (V.inl Zd r339.2.2.2.2.1), (V.inl Ze r339.2.2.2.2.2.1)])
def ZbN (l : V) (client : Int) : Int :=
  (IntKind.i64.wrap ((gi l 0) - client))
def ZN : Nat → List V → Int → Int → Int → Int → Option (List V × Int × Int × Int)
  | 0, _, _, _, _, _ => none
  | k_ + 1, x0, target1, n8, i9, j10 =>
    bif (decide (i9 < j10)) then
      bif (Zm (IntKind.i64.wrap (sShr .u64 (IntKind.u64.wrap (IntKind.i64.wrap (i9 + j10))) 1)) x0.length) then
        bif (decide ((ZbN (ZdT (rd x0 ((IntKind.i64.wrap (sShr .u64 (IntKind.u64.wrap (IntKind.i64.wrap (i9 + j10))) 1)).toNat))) target1) < 0)) then
          ZN k_ x0 target1 n8 (IntKind.i64.wrap ((IntKind.i64.wrap (sShr .u64 (IntKind.u64.wrap (IntKind.i64.wrap (i9 + j10))) 1)) + 1)) j10
        else ZN k_ x0 target1 n8 i9 (IntKind.i64.wrap (sShr .u64 (IntKind.u64.wrap (IntKind.i64.wrap (i9 + j10))) 1))
      else none
    else some (x0, target1, n8, i9)
def ZaF (x : List V) (target : Int) : Option (Int × Bool) :=
  Option.bind (ZN ((((x.length : Nat) : Int) - 0).toNat + 1) x target ((x.length : Nat) : Int) 0 ((x.length : Nat) : Int)) fun r341 =>
  bif (decide (r341.2.2.2 < r341.2.2.1)) then
    bif (Zm r341.2.2.2 r341.1.length) then
      some (r341.2.2.2, (decide ((ZbN (ZdT (rd r341.1 r341.2.2.2.toNat)) r341.2.1) = 0)))
    else none
  else some (r341.2.2.2, false)
def ZcU (s : V) (client : Int) : Option (Int × Bool) :=
  Option.bind (ZaF (gl s 5) client) fun r342 =>
  some (r342.1, r342.2)
def ZY (s : V) (key : List V) (val : List V) : Option (Bool × V) :=
  Option.bind (Zbc (Zc s) key) fun r345 =>
  bif (!r345.2) then
    bif (decide ((((gl s 1).length : Nat) : Int) = 20)) then
      some (false, (Zc s))
    else Option.bind (Z3 key) fun r346 =>
    Option.bind (insV 64 (gl s 1) r345.1 [(V.agg [(V.inl Zb r346), (V.inl Zb []), (V.int .i64 0), (V.int .i64 0)])]) fun r347 =>
    Option.bind (Zbj (V.agg [(V.int .i64 (gi s 0)), (V.inl Zg r347), (V.inl Zf (gl s 2)), (V.int .i64 (gi s 3)), (V.inl Zd (gl s 4)), (V.inl Ze (gl s 5))]) key) fun r348 =>
    bif (decide ((0 : Int) ≤ r348)) then
      Option.bind (delV (gl s 2) r348 (IntKind.i64.wrap (r348 + 1))) fun r349 =>
      Option.bind (Z3 val) fun r350 =>
      bif (Zm r345.1 r347.length) then
        bif (Zm r345.1 ((r347.set (0 + r345.1.toNat) (V.agg [(V.inl Zb (gl (rd r347 (0 + r345.1.toNat)) 0)), (V.inl Zb r350), (V.int .i64 (gi (rd r347 (0 + r345.1.toNat)) 2)), (V.int .i64 (gi (rd r347 (0 + r345.1.toNat)) 3))])).length)) then
          some (true, (V.agg [(V.int .i64 (gi s 0)), (V.inl Zg ((r347.set (0 + r345.1.toNat) (V.agg [(V.inl Zb (gl (rd r347 (0 + r345.1.toNat)) 0)), (V.inl Zb r350), (V.int .i64 (gi (rd r347 (0 + r345.1.toNat)) 2)), (V.int .i64 (gi (rd r347 (0 + r345.1.toNat)) 3))])).set (0 + r345.1.toNat) (V.agg [(V.inl Zb (gl (rd (r347.set (0 + r345.1.toNat) (V.agg [(V.inl Zb (gl (rd r347 (0 + r345.1.toNat)) 0)), (V.inl Zb r350), (V.int .i64 (gi (rd r347 (0 + r345.1.toNat)) 2)), (V.int .i64 (gi (rd r347 (0 + r345.1.toNat)) 3))])) (0 + r345.1.toNat)) 0)), (V.inl Zb (gl (rd (r347.set (0 + r345.1.toNat) (V.agg [(V.inl Zb (gl (rd r347 (0 + r345.1.toNat)) 0)), (V.inl Zb r350), (V.int .i64 (gi (rd r347 (0 + r345.1.toNat)) 2)), (V.int .i64 (gi (rd r347 (0 + r345.1.toNat)) 3))])) (0 + r345.1.toNat)) 1)), (V.int .i64 (gi s 0)), (V.int .i64 (gi (rd (r347.set (0 + r345.1.toNat) (V.agg [(V.inl Zb (gl (rd r347 (0 + r345.1.toNat)) 0)), (V.inl Zb r350), (V.int .i64 (gi (rd r347 (0 + r345.1.toNat)) 2)), (V.int .i64 (gi (rd r347 (0 + r345.1.toNat)) 3))])) (0 + r345.1.toNat)) 3))]))), (V.inl Zf r349), (V.int .i64 (gi s 3)), (V.inl Zd (gl s 4)), (V.inl Ze (gl s 5))]))
        else none
      else none
    else Option.bind (Z3 val) fun r351 =>
    bif (Zm r345.1 r347.length) then
      bif (Zm r345.1 ((r347.set (0 + r345.1.toNat) (V.agg [(V.inl Zb (gl (rd r347 (0 + r345.1.toNat)) 0)), (V.inl Zb r351), (V.int .i64 (gi (rd r347 (0 + r345.1.toNat)) 2)), (V.int .i64 (gi (rd r347 (0 + r345.1.toNat)) 3))])).length)) then
        some (true, (V.agg [(V.int .i64 (gi s 0)), (V.inl Zg ((r347.set (0 + r345.1.toNat) (V.agg [(V.inl Zb (gl (rd r347 (0 + r345.1.toNat)) 0)), (V.inl Zb r351), (V.int .i64 (gi (rd r347 (0 + r345.1.toNat)) 2)), (V.int .i64 (gi (rd r347 (0 + r345.1.toNat)) 3))])).set (0 + r345.1.toNat) (V.agg [(V.inl Zb (gl (rd (r347.set (0 + r345.1.toNat) (V.agg [(V.inl Zb (gl (rd r347 (0 + r345.1.toNat)) 0)), (V.inl Zb r351), (V.int .i64 (gi (rd r347 (0 + r345.1.toNat)) 2)), (V.int .i64 (gi (rd r347 (0 + r345.1.toNat)) 3))])) (0 + r345.1.toNat)) 0)), (V.inl Zb (gl (rd (r347.set (0 + r345.1.toNat) (V.agg [(V.inl Zb (gl (rd r347 (0 + r345.1.toNat)) 0)), (V.inl Zb r351), (V.int .i64 (gi (rd r347 (0 + r345.1.toNat)) 2)), (V.int .i64 (gi (rd r347 (0 + r345.1.toNat)) 3))])) (0 + r345.1.toNat)) 1)), (V.int .i64 (gi s 0)), (V.int .i64 (gi (rd (r347.set (0 + r345.1.toNat) (V.agg [(V.inl Zb (gl (rd r347 (0 + r345.1.toNat)) 0)), (V.inl Zb r351), (V.int .i64 (gi (rd r347 (0 + r345.1.toNat)) 2)), (V.int .i64 (gi (rd r347 (0 + r345.1.toNat)) 3))])) (0 + r345.1.toNat)) 3))]))), (V.inl Zf (gl s 2)), (V.int .i64 (gi s 3)), (V.inl Zd (gl s 4)), (V.inl Ze (gl s 5))]))
      else none
    else none
  else Option.bind (Z3 val) fun r352 =>
  bif (Zm r345.1 ((gl s 1).length)) then
    bif (Zm r345.1 (((gl s 1).set (0 + r345.1.toNat) (V.agg [(V.inl Zb (gl (rd (gl s 1) (0 + r345.1.toNat)) 0)), (V.inl Zb r352), (V.int .i64 (gi (rd (gl s 1) (0 + r345.1.toNat)) 2)), (V.int .i64 (gi (rd (gl s 1) (0 + r345.1.toNat)) 3))])).length)) then
      some (true, (V.agg [(V.int .i64 (gi s 0)), (V.inl Zg (((gl s 1).set (0 + r345.1.toNat) (V.agg [(V.inl Zb (gl (rd (gl s 1) (0 + r345.1.toNat)) 0)), (V.inl Zb r352), (V.int .i64 (gi (rd (gl s 1) (0 + r345.1.toNat)) 2)), (V.int .i64 (gi (rd (gl s 1) (0 + r345.1.toNat)) 3))])).set (0 + r345.1.toNat) (V.agg [(V.inl Zb (gl (rd ((gl s 1).set (0 + r345.1.toNat) (V.agg [(V.inl Zb (gl (rd (gl s 1) (0 + r345.1.toNat)) 0)), (V.inl Zb r352), (V.int .i64 (gi (rd (gl s 1) (0 + r345.1.toNat)) 2)), (V.int .i64 (gi (rd (gl s 1) (0 + r345.1.toNat)) 3))])) (0 + r345.1.toNat)) 0)), (V.inl Zb (gl (rd ((gl s 1).set (0 + r345.1.toNat) (V.agg [(V.inl Zb (gl (rd (gl s 1) (0 + r345.1.toNat)) 0)), (V.inl Zb r352), (V.int .i64 (gi (rd (gl s 1) (0 + r345.1.toNat)) 2)), (V.int .i64 (gi (rd (gl s 1) (0 + r345.1.toNat)) 3))])) (0 + r345.1.toNat)) 1)), (V.int .i64 (gi s 0)), (V.int .i64 (gi (rd ((gl s 1).set (0 + r345.1.toNat) (V.agg [(V.inl Zb (gl (rd (gl s 1) (0 + r345.1.toNat)) 0)), (V.inl Zb r352), (V.int .i64 (gi (rd (gl s 1) (0 + r345.1.toNat)) 2)), (V.int .i64 (gi (rd (gl s 1) (0 + r345.1.toNat)) 3))])) (0 + r345.1.toNat)) 3))]))), (V.inl Zf (gl s 2)), (V.int .i64 (gi s 3)), (V.inl Zd (gl s 4)), (V.inl Ze (gl s 5))]))
    else none
  else none
def Zaa : Nat → V → List V → List V → List V → List V → Option (V × List V × List V × List V × List V)
  | 0, _, _, _, _, _ => none
  | k_ + 1, b0, r1, r2, r3, r4 =>
    bif (decide ((10 : Int) < ((r2.length : Nat) : Int))) then
      bif (Zm 0 r2.length) then
        Option.bind (delV r2 0 1) fun r362 =>
        Zaa k_ (V.agg [(V.int .i64 (gi b0 0)), (V.sl 1 Zg 0 none), (V.sl 2 Zf 0 none), (V.int .i64 (gi (rd r2 0) 1)), (V.sl 3 Zd 0 none), (V.sl 4 Ze 0 none)]) r1 r362 r3 r4
      else none
    else some ((V.agg [(V.int .i64 (gi b0 0)), (V.sl 1 Zg 0 none), (V.sl 2 Zf 0 none), (V.int .i64 (gi b0 3)), (V.sl 3 Zd 0 none), (V.sl 4 Ze 0 none)]), r1, r2, r3, r4)
def ZbO (s : V) (k : Int) : Option (V) :=
  bif (Zm k ((gl s 1).length)) then
    bif ((Zu (((gl s 2).length) + 1) 32) && true) then
      Option.bind (delV (gl s 1) k (IntKind.i64.wrap (k + 1))) fun r361 =>
      Option.bind (Zaa ((((((gl s 2) ++ [(V.agg [(V.inl Zb (gl (rd (gl s 1) (0 + k.toNat)) 0)), (V.int .i64 (gi s 0))])]).length : Nat) : Int) - 10).toNat + 1) (V.agg [(V.int .i64 (gi s 0)), (V.sl 1 Zg 0 none), (V.sl 2 Zf 0 none), (V.int .i64 (gi s 3)), (V.sl 3 Zd 0 none), (V.sl 4 Ze 0 none)]) r361 ((gl s 2) ++ [(V.agg [(V.inl Zb (gl (rd (gl s 1) (0 + k.toNat)) 0)), (V.int .i64 (gi s 0))])]) (gl s 4) (gl s 5)) fun r363 =>
      some (V.agg [(V.int .i64 (gi r363.1 0)), (V.inl Zg r363.2.1), (V.inl Zf r363.2.2.1), (V.int .i64 (gi r363.1 3)), (V.inl Zd r363.2.2.2.1), (V.inl Ze r363.2.2.2.2)])
    else none
  else none
def Zac : Nat → Int → Bool → Int → V → List V → List V → List V → List V → Option (V × List V × List V × List V × List V)
  | 0, _, _, _, _, _, _, _, _ => none
  | k_ + 1, id1, remove6, k7, b0, r1, r2, r3, r4 =>
    bif (decide (k7 < ((r1.length : Nat) : Int))) then
      bif (Zm k7 r1.length) then
        bif (!(decide ((gi (rd r1 (0 + k7.toNat)) 3) = id1))) then
          Zac k_ id1 remove6 (IntKind.i64.wrap (k7 + 1)) (V.agg [(V.int .i64 (gi b0 0)), (V.sl 1 Zg 0 none), (V.sl 2 Zf 0 none), (V.int .i64 (gi b0 3)), (V.sl 3 Zd 0 none), (V.sl 4 Ze 0 none)]) r1 r2 r3 r4
        else bif remove6 then
          Option.bind (ZbO (V.agg [(V.int .i64 (gi b0 0)), (V.inl Zg r1), (V.inl Zf r2), (V.int .i64 (gi b0 3)), (V.inl Zd r3), (V.inl Ze r4)]) k7) fun r367 =>
          Zac k_ id1 remove6 (IntKind.i64.wrap ((IntKind.i64.wrap (k7 - 1)) + 1)) (V.agg [(V.int .i64 (gi r367 0)), (V.sl 1 Zg 0 none), (V.sl 2 Zf 0 none), (V.int .i64 (gi r367 3)), (V.sl 3 Zd 0 none), (V.sl 4 Ze 0 none)]) (gl r367 1) (gl r367 2) (gl r367 4) (gl r367 5)
        else bif (Zm k7 r1.length) then
          bif (Zm k7 ((r1.set (0 + k7.toNat) (V.agg [(V.inl Zb (gl (rd r1 (0 + k7.toNat)) 0)), (V.inl Zb (gl (rd r1 (0 + k7.toNat)) 1)), (V.int .i64 (gi (rd r1 (0 + k7.toNat)) 2)), (V.int .i64 0)])).length)) then
            Zac k_ id1 remove6 (IntKind.i64.wrap (k7 + 1)) (V.agg [(V.int .i64 (gi b0 0)), (V.sl 1 Zg 0 none), (V.sl 2 Zf 0 none), (V.int .i64 (gi b0 3)), (V.sl 3 Zd 0 none), (V.sl 4 Ze 0 none)]) ((r1.set (0 + k7.toNat) (V.agg [(V.inl Zb (gl (rd r1 (0 + k7.toNat)) 0)), (V.inl Zb (gl (rd r1 (0 + k7.toNat)) 1)), (V.int .i64 (gi (rd r1 (0 + k7.toNat)) 2)), (V.int .i64 0)])).set (0 + k7.toNat) (V.agg [(V.inl Zb (gl (rd (r1.set (0 + k7.toNat) (V.agg [(V.inl Zb (gl (rd r1 (0 + k7.toNat)) 0)), (V.inl Zb (gl (rd r1 (0 + k7.toNat)) 1)), (V.int .i64 (gi (rd r1 (0 + k7.toNat)) 2)), (V.int .i64 0)])) (0 + k7.toNat)) 0)), (V.inl Zb (gl (rd (r1.set (0 + k7.toNat) (V.agg [(V.inl Zb (gl (rd r1 (0 + k7.toNat)) 0)), (V.inl Zb (gl (rd r1 (0 + k7.toNat)) 1)), (V.int .i64 (gi (rd r1 (0 + k7.toNat)) 2)), (V.int .i64 0)])) (0 + k7.toNat)) 1)), (V.int .i64 (gi b0 0)), (V.int .i64 (gi (rd (r1.set (0 + k7.toNat) (V.agg [(V.inl Zb (gl (rd r1 (0 + k7.toNat)) 0)), (V.inl Zb (gl (rd r1 (0 + k7.toNat)) 1)), (V.int .i64 (gi (rd r1 (0 + k7.toNat)) 2)), (V.int .i64 0)])) (0 + k7.toNat)) 3))])) r2 r3 r4
          else none
        else none
      else none
    else some ((V.agg [(V.int .i64 (gi b0 0)), (V.sl 1 Zg 0 none), (V.sl 2 Zf 0 none), (V.int .i64 (gi b0 3)), (V.sl 3 Zd 0 none), (V.sl 4 Ze 0 none)]), r1, r2, r3, r4)
def Zch (s : V) (id : Int) : Option (Int × V) :=
  Option.bind (ZaY (Zc s) id) fun r365 =>
  bif (decide (r365 < 0)) then
    some (1, (Zc s))
  else bif (Zm r365 ((gl s 4).length)) then
    Option.bind (delV (gl s 4) r365 (IntKind.i64.wrap (r365 + 1))) fun r366 =>
    Option.bind (Zac (((((gl s 1).length : Nat) : Int) - 0).toNat + 1) id (gb (rd (gl s 4) (0 + r365.toNat)) 1) 0 (V.agg [(V.int .i64 (gi s 0)), (V.sl 1 Zg 0 none), (V.sl 2 Zf 0 none), (V.int .i64 (gi s 3)), (V.sl 3 Zd 0 none), (V.sl 4 Ze 0 none)]) (gl s 1) (gl s 2) r366 (gl s 5)) fun r368 =>
    some (0, (V.agg [(V.int .i64 (gi r368.1 0)), (V.inl Zg r368.2.1), (V.inl Zf r368.2.2.1), (V.int .i64 (gi r368.1 3)), (V.inl Zd r368.2.2.2.1), (V.inl Ze r368.2.2.2.2)]))
  else none
def Zbm (s : V) (o : V) : Option (Int × V) :=
  Option.bind (Zbc (Zc s) (gl o 1)) fun r344 =>
  bif (decide ((gi o 0) = 1)) then
    bif r344.2 then
      bif (Zm r344.1 ((gl s 1).length)) then
        bif (decide ((gi o 0) = 2)) then
          bif (!(decide ((gi (rd (gl s 1) (0 + r344.1.toNat)) 2) = (gi o 3)))) then
            some (3, (Zc s))
          else Option.bind (ZY (Zc s) (gl o 1) (gl o 2)) fun r353 =>
          bif (!r353.1) then
            some (4, (Zc r353.2))
          else some (0, (Zc r353.2))
        else Option.bind (ZY (Zc s) (gl o 1) (gl o 2)) fun r354 =>
        bif (!r354.1) then
          some (4, (Zc r354.2))
        else some (0, (Zc r354.2))
      else none
    else bif (decide ((gi o 0) = 2)) then
      bif (!(decide ((0 : Int) = (gi o 3)))) then
        some (3, (Zc s))
      else Option.bind (ZY (Zc s) (gl o 1) (gl o 2)) fun r355 =>
      bif (!r355.1) then
        some (4, (Zc r355.2))
      else some (0, (Zc r355.2))
    else Option.bind (ZY (Zc s) (gl o 1) (gl o 2)) fun r356 =>
    bif (!r356.1) then
      some (4, (Zc r356.2))
    else some (0, (Zc r356.2))
  else bif (decide ((gi o 0) = 2)) then
    bif r344.2 then
      bif (Zm r344.1 ((gl s 1).length)) then
        bif (decide ((gi o 0) = 2)) then
          bif (!(decide ((gi (rd (gl s 1) (0 + r344.1.toNat)) 2) = (gi o 3)))) then
            some (3, (Zc s))
          else Option.bind (ZY (Zc s) (gl o 1) (gl o 2)) fun r357 =>
          bif (!r357.1) then
            some (4, (Zc r357.2))
          else some (0, (Zc r357.2))
        else Option.bind (ZY (Zc s) (gl o 1) (gl o 2)) fun r358 =>
        bif (!r358.1) then
          some (4, (Zc r358.2))
        else some (0, (Zc r358.2))
      else none
    else bif (decide ((gi o 0) = 2)) then
      bif (!(decide ((0 : Int) = (gi o 3)))) then
        some (3, (Zc s))
      else Option.bind (ZY (Zc s) (gl o 1) (gl o 2)) fun r359 =>
      bif (!r359.1) then
        some (4, (Zc r359.2))
      else some (0, (Zc r359.2))
    else Option.bind (ZY (Zc s) (gl o 1) (gl o 2)) fun r360 =>
    bif (!r360.1) then
      some (4, (Zc r360.2))
    else some (0, (Zc r360.2))
  else bif (decide ((gi o 0) = 3)) then
    bif (!r344.2) then
      some (1, (Zc s))
    else Option.bind (ZbO (Zc s) r344.1) fun r364 =>
    some (0, (Zc r364))
  else bif (decide ((gi o 0) = 4)) then
    bif (decide ((((gl s 4).length : Nat) : Int) = 8)) then
      some (4, (Zc s))
    else bif ((Zu (((gl s 4).length) + 1) 16) && true) then
      some (0, (V.agg [(V.int .i64 (gi s 0)), (V.inl Zg (gl s 1)), (V.inl Zf (gl s 2)), (V.int .i64 (gi s 3)), (V.inl Zd ((gl s 4) ++ [(V.agg [(V.int .i64 (gi s 0)), (V.bool (decide ((gi o 3) = 1)))])])), (V.inl Ze (gl s 5))]))
    else none
  else bif (decide ((gi o 0) = 5)) then
    Option.bind (Zch (Zc s) (gi o 3)) fun r369 =>
    some (r369.1, (Zc r369.2))
  else bif (decide ((gi o 0) = 6)) then
    Option.bind (ZaY (Zc s) (gi o 3)) fun r370 =>
    bif (decide (r370 < 0)) then
      some (1, (Zc s))
    else bif r344.2 then
      bif (Zm r344.1 ((gl s 1).length)) then
        bif (!(decide ((gi (rd (gl s 1) (0 + r344.1.toNat)) 3) = 0))) then
          bif (Zm r344.1 ((gl s 1).length)) then
            bif (!(decide ((gi (rd (gl s 1) (0 + r344.1.toNat)) 3) = (gi o 3)))) then
              some (2, (Zc s))
            else Option.bind (ZY (Zc s) (gl o 1) (gl o 2)) fun r371 =>
            bif (!r371.1) then
              some (4, (Zc r371.2))
            else bif (Zm r344.1 ((gl r371.2 1).length)) then
              some (0, (V.agg [(V.int .i64 (gi r371.2 0)), (V.inl Zg ((gl r371.2 1).set (0 + r344.1.toNat) (V.agg [(V.inl Zb (gl (rd (gl r371.2 1) (0 + r344.1.toNat)) 0)), (V.inl Zb (gl (rd (gl r371.2 1) (0 + r344.1.toNat)) 1)), (V.int .i64 (gi (rd (gl r371.2 1) (0 + r344.1.toNat)) 2)), (V.int .i64 (gi o 3))]))), (V.inl Zf (gl r371.2 2)), (V.int .i64 (gi r371.2 3)), (V.inl Zd (gl r371.2 4)), (V.inl Ze (gl r371.2 5))]))
            else none
          else none
        else Option.bind (ZY (Zc s) (gl o 1) (gl o 2)) fun r372 =>
        bif (!r372.1) then
          some (4, (Zc r372.2))
        else bif (Zm r344.1 ((gl r372.2 1).length)) then
          some (0, (V.agg [(V.int .i64 (gi r372.2 0)), (V.inl Zg ((gl r372.2 1).set (0 + r344.1.toNat) (V.agg [(V.inl Zb (gl (rd (gl r372.2 1) (0 + r344.1.toNat)) 0)), (V.inl Zb (gl (rd (gl r372.2 1) (0 + r344.1.toNat)) 1)), (V.int .i64 (gi (rd (gl r372.2 1) (0 + r344.1.toNat)) 2)), (V.int .i64 (gi o 3))]))), (V.inl Zf (gl r372.2 2)), (V.int .i64 (gi r372.2 3)), (V.inl Zd (gl r372.2 4)), (V.inl Ze (gl r372.2 5))]))
        else none
      else none
    else Option.bind (ZY (Zc s) (gl o 1) (gl o 2)) fun r373 =>
    bif (!r373.1) then
      some (4, (Zc r373.2))
    else bif (Zm r344.1 ((gl r373.2 1).length)) then
      some (0, (V.agg [(V.int .i64 (gi r373.2 0)), (V.inl Zg ((gl r373.2 1).set (0 + r344.1.toNat) (V.agg [(V.inl Zb (gl (rd (gl r373.2 1) (0 + r344.1.toNat)) 0)), (V.inl Zb (gl (rd (gl r373.2 1) (0 + r344.1.toNat)) 1)), (V.int .i64 (gi (rd (gl r373.2 1) (0 + r344.1.toNat)) 2)), (V.int .i64 (gi o 3))]))), (V.inl Zf (gl r373.2 2)), (V.int .i64 (gi r373.2 3)), (V.inl Zd (gl r373.2 4)), (V.inl Ze (gl r373.2 5))]))
    else none
  else bif (decide ((gi o 0) = 7)) then
    bif (!r344.2) then
      some (1, (Zc s))
    else bif (Zm r344.1 ((gl s 1).length)) then
      bif (!(decide ((gi (rd (gl s 1) (0 + r344.1.toNat)) 3) = (gi o 3)))) then
        some (1, (Zc s))
      else bif (Zm r344.1 ((gl s 1).length)) then
        bif (Zm r344.1 (((gl s 1).set (0 + r344.1.toNat) (V.agg [(V.inl Zb (gl (rd (gl s 1) (0 + r344.1.toNat)) 0)), (V.inl Zb (gl (rd (gl s 1) (0 + r344.1.toNat)) 1)), (V.int .i64 (gi (rd (gl s 1) (0 + r344.1.toNat)) 2)), (V.int .i64 0)])).length)) then
          some (0, (V.agg [(V.int .i64 (gi s 0)), (V.inl Zg (((gl s 1).set (0 + r344.1.toNat) (V.agg [(V.inl Zb (gl (rd (gl s 1) (0 + r344.1.toNat)) 0)), (V.inl Zb (gl (rd (gl s 1) (0 + r344.1.toNat)) 1)), (V.int .i64 (gi (rd (gl s 1) (0 + r344.1.toNat)) 2)), (V.int .i64 0)])).set (0 + r344.1.toNat) (V.agg [(V.inl Zb (gl (rd ((gl s 1).set (0 + r344.1.toNat) (V.agg [(V.inl Zb (gl (rd (gl s 1) (0 + r344.1.toNat)) 0)), (V.inl Zb (gl (rd (gl s 1) (0 + r344.1.toNat)) 1)), (V.int .i64 (gi (rd (gl s 1) (0 + r344.1.toNat)) 2)), (V.int .i64 0)])) (0 + r344.1.toNat)) 0)), (V.inl Zb (gl (rd ((gl s 1).set (0 + r344.1.toNat) (V.agg [(V.inl Zb (gl (rd (gl s 1) (0 + r344.1.toNat)) 0)), (V.inl Zb (gl (rd (gl s 1) (0 + r344.1.toNat)) 1)), (V.int .i64 (gi (rd (gl s 1) (0 + r344.1.toNat)) 2)), (V.int .i64 0)])) (0 + r344.1.toNat)) 1)), (V.int .i64 (gi s 0)), (V.int .i64 (gi (rd ((gl s 1).set (0 + r344.1.toNat) (V.agg [(V.inl Zb (gl (rd (gl s 1) (0 + r344.1.toNat)) 0)), (V.inl Zb (gl (rd (gl s 1) (0 + r344.1.toNat)) 1)), (V.int .i64 (gi (rd (gl s 1) (0 + r344.1.toNat)) 2)), (V.int .i64 0)])) (0 + r344.1.toNat)) 3))]))), (V.inl Zf (gl s 2)), (V.int .i64 (gi s 3)), (V.inl Zd (gl s 4)), (V.inl Ze (gl s 5))]))
        else none
      else none
    else none
  else some (0, (Zc s))
def ZcL (s : V) (c : V) : Option (V × V) :=
  bif (decide ((gi c 0) < 0)) then
    some ((V.agg [(V.int .i64 0), (V.int .i64 (IntKind.i64.wrap ((gi s 0) + 1)))]), (V.agg [(V.int .i64 (IntKind.i64.wrap ((gi s 0) + 1))), (V.inl Zg (gl s 1)), (V.inl Zf (gl s 2)), (V.int .i64 (gi s 3)), (V.inl Zd (gl s 4)), (V.inl Ze (gl s 5))]))
  else Option.bind (ZcU (V.agg [(V.int .i64 (IntKind.i64.wrap ((gi s 0) + 1))), (V.inl Zg (gl s 1)), (V.inl Zf (gl s 2)), (V.int .i64 (gi s 3)), (V.inl Zd (gl s 4)), (V.inl Ze (gl s 5))]) (gi c 0)) fun r343 =>
  bif r343.2 then
    bif (Zm r343.1 ((gl s 5).length)) then
      bif (decide ((gi (rd (gl s 5) (0 + r343.1.toNat)) 1) = (gi c 1))) then
        bif (Zm r343.1 ((gl s 5).length)) then
          some ((V.agg [(V.int .i64 (gi (rd (gl s 5) (0 + r343.1.toNat)) 2)), (V.int .i64 (gi (rd (gl s 5) (0 + r343.1.toNat)) 3))]), (V.agg [(V.int .i64 (IntKind.i64.wrap ((gi s 0) + 1))), (V.inl Zg (gl s 1)), (V.inl Zf (gl s 2)), (V.int .i64 (gi s 3)), (V.inl Zd (gl s 4)), (V.inl Ze (gl s 5))]))
        else none
      else bif r343.2 then
        bif (Zm r343.1 ((gl s 5).length)) then
          bif (decide ((gi c 1) < (gi (rd (gl s 5) (0 + r343.1.toNat)) 1))) then
            some ((V.agg [(V.int .i64 5), (V.int .i64 (IntKind.i64.wrap ((gi s 0) + 1)))]), (V.agg [(V.int .i64 (IntKind.i64.wrap ((gi s 0) + 1))), (V.inl Zg (gl s 1)), (V.inl Zf (gl s 2)), (V.int .i64 (gi s 3)), (V.inl Zd (gl s 4)), (V.inl Ze (gl s 5))]))
          else Option.bind (Zbm (V.agg [(V.int .i64 (IntKind.i64.wrap ((gi s 0) + 1))), (V.inl Zg (gl s 1)), (V.inl Zf (gl s 2)), (V.int .i64 (gi s 3)), (V.inl Zd (gl s 4)), (V.inl Ze (gl s 5))]) (V.agg [(V.int .i64 (gi c 2)), (V.inl Zb (gl c 3)), (V.inl Zb (gl c 4)), (V.int .i64 (gi c 5))])) fun r374 =>
          bif r343.2 then
            bif (Zm r343.1 ((gl r374.2 5).length)) then
              some ((V.agg [(V.int .i64 r374.1), (V.int .i64 (IntKind.i64.wrap ((gi s 0) + 1)))]), (V.agg [(V.int .i64 (gi r374.2 0)), (V.inl Zg (gl r374.2 1)), (V.inl Zf (gl r374.2 2)), (V.int .i64 (gi r374.2 3)), (V.inl Zd (gl r374.2 4)), (V.inl Ze ((gl r374.2 5).set (0 + r343.1.toNat) (V.agg [(V.int .i64 (gi c 0)), (V.int .i64 (gi c 1)), (V.int .i64 r374.1), (V.int .i64 (IntKind.i64.wrap ((gi s 0) + 1)))])))]))
            else none
          else Option.bind (insV 32 (gl r374.2 5) r343.1 [(V.agg [(V.int .i64 (gi c 0)), (V.int .i64 (gi c 1)), (V.int .i64 r374.1), (V.int .i64 (IntKind.i64.wrap ((gi s 0) + 1)))])]) fun r375 =>
          some ((V.agg [(V.int .i64 r374.1), (V.int .i64 (IntKind.i64.wrap ((gi s 0) + 1)))]), (V.agg [(V.int .i64 (gi r374.2 0)), (V.inl Zg (gl r374.2 1)), (V.inl Zf (gl r374.2 2)), (V.int .i64 (gi r374.2 3)), (V.inl Zd (gl r374.2 4)), (V.inl Ze r375)]))
        else none
      else Option.bind (Zbm (V.agg [(V.int .i64 (IntKind.i64.wrap ((gi s 0) + 1))), (V.inl Zg (gl s 1)), (V.inl Zf (gl s 2)), (V.int .i64 (gi s 3)), (V.inl Zd (gl s 4)), (V.inl Ze (gl s 5))]) (V.agg [(V.int .i64 (gi c 2)), (V.inl Zb (gl c 3)), (V.inl Zb (gl c 4)), (V.int .i64 (gi c 5))])) fun r376 =>
      bif r343.2 then
        bif (Zm r343.1 ((gl r376.2 5).length)) then
          some ((V.agg [(V.int .i64 r376.1), (V.int .i64 (IntKind.i64.wrap ((gi s 0) + 1)))]), (V.agg [(V.int .i64 (gi r376.2 0)), (V.inl Zg (gl r376.2 1)), (V.inl Zf (gl r376.2 2)), (V.int .i64 (gi r376.2 3)), (V.inl Zd (gl r376.2 4)), (V.inl Ze ((gl r376.2 5).set (0 + r343.1.toNat) (V.agg [(V.int .i64 (gi c 0)), (V.int .i64 (gi c 1)), (V.int .i64 r376.1), (V.int .i64 (IntKind.i64.wrap ((gi s 0) + 1)))])))]))
        else none
      else Option.bind (insV 32 (gl r376.2 5) r343.1 [(V.agg [(V.int .i64 (gi c 0)), (V.int .i64 (gi c 1)), (V.int .i64 r376.1), (V.int .i64 (IntKind.i64.wrap ((gi s 0) + 1)))])]) fun r377 =>
      some ((V.agg [(V.int .i64 r376.1), (V.int .i64 (IntKind.i64.wrap ((gi s 0) + 1)))]), (V.agg [(V.int .i64 (gi r376.2 0)), (V.inl Zg (gl r376.2 1)), (V.inl Zf (gl r376.2 2)), (V.int .i64 (gi r376.2 3)), (V.inl Zd (gl r376.2 4)), (V.inl Ze r377)]))
    else none
  else bif r343.2 then
    bif (Zm r343.1 ((gl s 5).length)) then
      bif (decide ((gi c 1) < (gi (rd (gl s 5) (0 + r343.1.toNat)) 1))) then
        some ((V.agg [(V.int .i64 5), (V.int .i64 (IntKind.i64.wrap ((gi s 0) + 1)))]), (V.agg [(V.int .i64 (IntKind.i64.wrap ((gi s 0) + 1))), (V.inl Zg (gl s 1)), (V.inl Zf (gl s 2)), (V.int .i64 (gi s 3)), (V.inl Zd (gl s 4)), (V.inl Ze (gl s 5))]))
      else Option.bind (Zbm (V.agg [(V.int .i64 (IntKind.i64.wrap ((gi s 0) + 1))), (V.inl Zg (gl s 1)), (V.inl Zf (gl s 2)), (V.int .i64 (gi s 3)), (V.inl Zd (gl s 4)), (V.inl Ze (gl s 5))]) (V.agg [(V.int .i64 (gi c 2)), (V.inl Zb (gl c 3)), (V.inl Zb (gl c 4)), (V.int .i64 (gi c 5))])) fun r378 =>
      bif r343.2 then
        bif (Zm r343.1 ((gl r378.2 5).length)) then
          some ((V.agg [(V.int .i64 r378.1), (V.int .i64 (IntKind.i64.wrap ((gi s 0) + 1)))]), (V.agg [(V.int .i64 (gi r378.2 0)), (V.inl Zg (gl r378.2 1)), (V.inl Zf (gl r378.2 2)), (V.int .i64 (gi r378.2 3)), (V.inl Zd (gl r378.2 4)), (V.inl Ze ((gl r378.2 5).set (0 + r343.1.toNat) (V.agg [(V.int .i64 (gi c 0)), (V.int .i64 (gi c 1)), (V.int .i64 r378.1), (V.int .i64 (IntKind.i64.wrap ((gi s 0) + 1)))])))]))
        else none
      else Option.bind (insV 32 (gl r378.2 5) r343.1 [(V.agg [(V.int .i64 (gi c 0)), (V.int .i64 (gi c 1)), (V.int .i64 r378.1), (V.int .i64 (IntKind.i64.wrap ((gi s 0) + 1)))])]) fun r379 =>
      some ((V.agg [(V.int .i64 r378.1), (V.int .i64 (IntKind.i64.wrap ((gi s 0) + 1)))]), (V.agg [(V.int .i64 (gi r378.2 0)), (V.inl Zg (gl r378.2 1)), (V.inl Zf (gl r378.2 2)), (V.int .i64 (gi r378.2 3)), (V.inl Zd (gl r378.2 4)), (V.inl Ze r379)]))
    else none
  else Option.bind (Zbm (V.agg [(V.int .i64 (IntKind.i64.wrap ((gi s 0) + 1))), (V.inl Zg (gl s 1)), (V.inl Zf (gl s 2)), (V.int .i64 (gi s 3)), (V.inl Zd (gl s 4)), (V.inl Ze (gl s 5))]) (V.agg [(V.int .i64 (gi c 2)), (V.inl Zb (gl c 3)), (V.inl Zb (gl c 4)), (V.int .i64 (gi c 5))])) fun r380 =>
  bif r343.2 then
    bif (Zm r343.1 ((gl r380.2 5).length)) then
      some ((V.agg [(V.int .i64 r380.1), (V.int .i64 (IntKind.i64.wrap ((gi s 0) + 1)))]), (V.agg [(V.int .i64 (gi r380.2 0)), (V.inl Zg (gl r380.2 1)), (V.inl Zf (gl r380.2 2)), (V.int .i64 (gi r380.2 3)), (V.inl Zd (gl r380.2 4)), (V.inl Ze ((gl r380.2 5).set (0 + r343.1.toNat) (V.agg [(V.int .i64 (gi c 0)), (V.int .i64 (gi c 1)), (V.int .i64 r380.1), (V.int .i64 (IntKind.i64.wrap ((gi s 0) + 1)))])))]))
    else none
  else Option.bind (insV 32 (gl r380.2 5) r343.1 [(V.agg [(V.int .i64 (gi c 0)), (V.int .i64 (gi c 1)), (V.int .i64 r380.1), (V.int .i64 (IntKind.i64.wrap ((gi s 0) + 1)))])]) fun r381 =>
  some ((V.agg [(V.int .i64 r380.1), (V.int .i64 (IntKind.i64.wrap ((gi s 0) + 1)))]), (V.agg [(V.int .i64 (gi r380.2 0)), (V.inl Zg (gl r380.2 1)), (V.inl Zf (gl r380.2 2)), (V.int .i64 (gi r380.2 3)), (V.inl Zd (gl r380.2 4)), (V.inl Ze r381)]))
def Zci (s : V) (c : V) : Option (V × V) :=
  Option.bind (Zc0 (Zc s)) fun r319 =>
  bif (!r319) then
    some ((V.agg [(V.int .i64 0), (V.inl Zg []), (V.inl Zf []), (V.int .i64 0), (V.inl Zd []), (V.inl Ze [])]), (V.agg [(V.int .i64 0), (V.int .i64 0)]))
  else Option.bind (Zc9 (Zn c)) fun r326 =>
  bif (!r326) then
    some ((V.agg [(V.int .i64 0), (V.inl Zg []), (V.inl Zf []), (V.int .i64 0), (V.inl Zd []), (V.inl Ze [])]), (V.agg [(V.int .i64 0), (V.int .i64 0)]))
  else bif (decide ((gi s 0) = 1000000)) then
    some ((V.agg [(V.int .i64 0), (V.inl Zg []), (V.inl Zf []), (V.int .i64 0), (V.inl Zd []), (V.inl Ze [])]), (V.agg [(V.int .i64 0), (V.int .i64 0)]))
  else Option.bind (ZcB (Zc s)) fun r340 =>
  Option.bind (ZcL (Zc r340) (Zn c)) fun r382 =>
  some ((Zc r382.2), (Zy r382.1))
def ZcV (s : V) (key : List V) : Option (V) :=
  Option.bind (Zbc (Zc s) key) fun r388 =>
  bif r388.2 then
    bif (Zm r388.1 ((gl s 1).length)) then
      bif (Zm r388.1 ((gl s 1).length)) then
        Option.bind (Z3 (gl (rd (gl s 1) r388.1.toNat) 1)) fun r389 =>
        some (V.agg [(V.int .i64 (gi (rd (gl s 1) r388.1.toNat) 2)), (V.bool true), (V.inl Zb r389)])
      else none
    else none
  else Option.bind (Zbj (Zc s) key) fun r390 =>
  bif (decide ((0 : Int) ≤ r390)) then
    bif (Zm r390 ((gl s 2).length)) then
      some (V.agg [(V.int .i64 (gi (rd (gl s 2) r390.toNat) 1)), (V.bool false), (V.inl Zb [])])
    else none
  else some (V.agg [(V.int .i64 (gi s 3)), (V.bool false), (V.inl Zb [])])
def impl_Look (s : V) (key : List V) : Option (V) :=
  Option.bind (Zc0 (Zc s)) fun r386 =>
  bif (!r386) then
    some (V.agg [(V.int .i64 0), (V.bool false), (V.inl Zb [])])
  else Option.bind (Zbi key) fun r387 =>
  bif (!r387) then
    some (V.agg [(V.int .i64 0), (V.bool false), (V.inl Zb [])])
  else Option.bind (ZcV (Zc s) key) fun r391 =>
  some (Zdd r391)
def ZdN (a : List V) (b : List V) : Bool :=
  (Zba (a.map ZaB) (b.map ZaB))
def Zbn (a : V) (b : V) : Bool :=
  bif (decide ((gi a 0) = (gi b 0))) then
    bif ((gb a 1) == (gb b 1)) then
      (ZdN (gl a 2) (gl b 2))
    else false
  else false
def ZcR (code : List V) : Option (Bool) :=
  Option.bind (Zc8 code) fun r384 =>
  Option.bind (Zci (Zc r384.1) (Zn r384.2)) fun r385 =>
  bif (decide ((gi r385.2 1) = 0)) then
    some aliveB
  else bif (!(decide ((gi r385.2 0) = 0))) then
    some aliveB
  else bif (!(decide ((gi r385.2 1) = (gi r385.1 0)))) then
    some aliveB
  else bif (decide ((((gl r384.2 3).length : Nat) : Int) = 0)) then
    some aliveB
  else Option.bind (impl_Look (Zc r385.1) (gl r384.2 3)) fun r392 =>
  bif (decide ((gi r384.2 2) = 1)) then
    some (Zbn (Zdd r392) (V.agg [(V.int .i64 (gi r385.1 0)), (V.bool true), (V.inl Zb (gl r384.2 4))]))
  else bif (decide ((gi r384.2 2) = 2)) then
    some (Zbn (Zdd r392) (V.agg [(V.int .i64 (gi r385.1 0)), (V.bool true), (V.inl Zb (gl r384.2 4))]))
  else bif (decide ((gi r384.2 2) = 6)) then
    some (Zbn (Zdd r392) (V.agg [(V.int .i64 (gi r385.1 0)), (V.bool true), (V.inl Zb (gl r384.2 4))]))
  else bif (decide ((gi r384.2 2) = 3)) then
    bif (!(gb r392 1)) then
      some (decide ((gi r392 0) = (gi r385.1 0)))
    else some false
  else bif (gb r392 1) then
    some (decide ((gi r392 0) = (gi r385.1 0)))
  else some false
end Go.Eng.R
open Go Go.Eng Go.Proofs
namespace Go.Eng.R
theorem tab_ok : Zv Tryz.prog tab := tabB_spec (by kernel_rfl)
theorem mixed : Tryz.prog.follows .mixedOrders = true := by kernel_rfl
theorem base : Base Tryz.prog tab := ⟨tab_ok, mixed⟩
def l0 (x : V) : List V := [(V.inl Zb (gl x 0)), (V.int .i64 (gi x 1)), (V.int .i64 (gi x 2))]
def h1 (x : V) : V := V.agg [(V.int .i64 (gi x 0)), (V.rr Zb true (gl x 1)), (V.inl Zb (gl x 2)), (V.int .i64 (gi x 3))]
def q2 : List S1 := [(.int .i64), (.inl Zg), (.inl Zf), (.int .i64), (.inl Zd), (.inl Ze)]
def l3 (x : V) : List V := [(V.int .i64 (gi x 0)), (V.sl 1 Zg 0 none), (V.sl 2 Zf 0 none), (V.int .i64 (gi x 3)), (V.sl 3 Zd 0 none), (V.sl 4 Ze 0 none)]
def q4 : List S1 := [(.int .i64), (.sl 1 Zg), (.sl 2 Zf), (.int .i64), (.sl 3 Zd), (.sl 4 Ze)]
def q5 : List S1 := [(.int .i64), (.rr Zg false), (.rr Zf false), (.int .i64), (.rr Zd true), (.rr Ze true)]
def l6 (x : V) : List V := [(V.int .i64 (gi x 0)), (V.rr Zg false (gl x 1)), (V.rr Zf false (gl x 2)), (V.int .i64 (gi x 3)), (V.rr Zd true (gl x 4)), (V.rr Ze true (gl x 5))]
def q7 : List S1 := [.dead, (.rr Zg false), (.rr Zf false), .dead, (.rr Zd true), (.rr Ze true)]
def q8 : List S1 := [(.int .i64), (.sl 2 Zg), (.sl 3 Zf), (.int .i64), (.sl 4 Zd), (.sl 5 Ze)]
def q9 : List S1 := [(.int .i64), (.inl Zb), (.inl Zb), (.int .i64)]
def l10 (x : V) : List V := [(V.int .i64 (gi x 0)), (V.sl 4 Zg 0 none), (V.sl 5 Zf 0 none), (V.int .i64 (gi x 3)), (V.sl 6 Zd 0 none), (V.sl 7 Ze 0 none)]
def l11 (x : V) : List V := [(V.int .i64 (gi x 0)), (V.int .i64 (gi x 1)), (V.int .i64 (gi x 2)), (V.inl Zb (gl x 3)), (V.inl Zb (gl x 4)), (V.int .i64 (gi x 5))]
def l12 (x : V) : List V := [(V.int .i64 (gi x 0)), (V.int .i64 (gi x 1))]
def q13 : List S1 := [(.int .i64), (.sl 4 Zg), (.sl 5 Zf), (.int .i64), (.sl 6 Zd), (.sl 7 Ze)]
def q14 : List S1 := [(.int .i64), (.int .i64), (.int .i64), (.inl Zb), (.inl Zb), (.int .i64)]
def l15 (x : V) : List V := [(V.int .i64 (gi x 0)), (V.sl 3 Zg 0 none), (V.sl 4 Zf 0 none), (V.int .i64 (gi x 3)), (V.sl 5 Zd 0 none), (V.sl 6 Ze 0 none)]
def l16 (x : V) : List V := [(V.int .i64 (gi x 0)), (V.sl 7 Zg 0 none), (V.sl 8 Zf 0 none), (V.int .i64 (gi x 3)), (V.sl 9 Zd 0 none), (V.sl 10 Ze 0 none)]
def q17 : List S1 := [(.int .i64), (.sl 3 Zg), (.sl 4 Zf), (.int .i64), (.sl 5 Zd), (.sl 6 Ze)]
def q18 : List S1 := [(.int .i64), (.sl 7 Zg), (.sl 8 Zf), (.int .i64), (.sl 9 Zd), (.sl 10 Ze)]
def h19 (x : V) : V := V.agg [(V.int .i64 (gi x 0)), (V.rr Zg false (gl x 1)), (V.rr Zf false (gl x 2)), (V.int .i64 (gi x 3)), (V.rr Zd true (gl x 4)), (V.rr Ze true (gl x 5))]
def h20 (x : V) : V := V.agg [(V.int .i64 (gi x 0)), (V.int .i64 (gi x 1)), (V.int .i64 (gi x 2)), (V.rr Zb true (gl x 3)), (V.inl Zb (gl x 4)), (V.int .i64 (gi x 5))]
def q21 : List S1 := [.dead, .dead, .dead, (.rr Zb true), (.inl Zb)]
def q22 : List S1 := [(.inl Zb), (.inl Zb), (.int .i64), (.int .i64)]
def l23 (x : V) : List V := [(V.int .i64 (gi x 0)), (V.inl Zg (gl x 1)), (V.inl Zf (gl x 2)), (V.int .i64 (gi x 3)), (V.inl Zd (gl x 4)), (V.inl Ze (gl x 5))]
def h24 (x : V) : V := V.agg [(V.int .i64 (gi x 0)), (V.int .i64 (gi x 1)), (V.int .i64 (gi x 2)), (V.rr Zb true (gl x 3)), (V.rr Zb true (gl x 4)), (V.int .i64 (gi x 5))]
def q25 : List S1 := [.dead, .dead, .dead, (.rr Zb true), (.rr Zb true)]
def l26 (x : V) : List V := [(V.int .i64 (gi x 0)), (V.sl 2 Zg 0 none), (V.sl 3 Zf 0 none), (V.int .i64 (gi x 3)), (V.sl 4 Zd 0 none), (V.sl 5 Ze 0 none)]
def l27 (x : V) : List V := [(V.int .i64 (gi x 0)), (V.sl 6 Zg 0 none), (V.sl 7 Zf 0 none), (V.int .i64 (gi x 3)), (V.sl 8 Zd 0 none), (V.sl 9 Ze 0 none)]
def q28 : List S1 := [(.int .i64), (.sl 6 Zg), (.sl 7 Zf), (.int .i64), (.sl 8 Zd), (.sl 9 Ze)]
def q29 : List S1 := [(.int .i64), (.sl 3 Zg), (.sl 2 Zf), (.int .i64), (.sl 4 Zd), (.sl 5 Ze)]
def q30 : List S1 := [(.int .i64), (.int .i64), (.int .i64), (.int .i64)]
def h31 (x : V) : V := V.agg [(V.int .i64 (gi x 0)), (V.bool (gb x 1)), (V.rr Zb true (gl x 2))]
end Go.Eng.R
open Go Go.Eng Go.Proofs
namespace Go.Eng.R
set_option maxHeartbeats 4000000 in
set_option maxRecDepth 1000000 in
theorem cmp57 : CmpOk Tryz.prog 57 := by
  intro v1 v2 c w h
  have hcall : (callFunc 80 #[v1, v2]).run Tryz.prog w = .ok (.value (.int .i64 c)) w := by
    rw [run_callFunc_extern Tryz.func80 (by kernel_rfl) (by kernel_rfl) (by kernel_rfl) (e := Extern.BytealgCompare.compare) (by kernel_rfl), h]
    rfl
  clear h
  go_enter Tryz.func57, Tryz.ntmps57
  go_wp2_with (simp only [hcall])
  all_goals (go_ret; exact ⟨rfl, .refl _ _⟩)
theorem inf55 : (Tryz.prog.info? 55).map (·.size) = some 4 := by kernel_rfl
theorem sz55 : ∀ w, (Go.sizeOf 55).run Tryz.prog w = .ok 4 w := fun w => by kernel_rfl
theorem zv55 : ∀ w, (zeroValue 55).run Tryz.prog w = .ok (Value.agg #[.slice none 0 0, .slice none 0 0, .int .i64 0, .int .i64 0]) w := fun w => by kernel_rfl
theorem info55 : (Tryz.prog.info? 55).map (fun i => (i.zero, i.size, i.bytes)) = some (some (Value.agg #[.slice none 0 0, .slice none 0 0, .int .i64 0, .int .i64 0]), 4, 64) := by kernel_rfl
set_option maxHeartbeats 4000000 in
set_option maxRecDepth 1000000 in
theorem ins109_room (w : World) (g n cap i h caph : Nat) (cur curh : Array Value) (hg : w.heap[g]? = some (.cells cur 55 (0, 0))) (hs : cur.size = cap * 4) (hcm : cap ≤ maxLen) (h1 : OneL (cur.toList.take (n * 4)))
    (hh : w.heap[h]? = some (.cells curh 55 (0, 0))) (hhs : curh.size = caph * 4) (hc1 : 1 ≤ caph) (hne : h ≠ g) (h1h : OneL (curh.toList.take 4)) (hi : i < n) (hroom : n + 1 ≤ cap) :
    Calls Tryz.prog 109 #[.slice (some ⟨g, 0, none⟩) n cap, .int .i64 i, .slice (some ⟨h, 0, none⟩) 1 caph] w fun e w' => e = .returned (.slice (some ⟨g, 0, none⟩) (n + 1) cap) ∧
      ∃ cur' : Array Value, w'.heap[g]? = some (.cells cur' 55 (0, 0)) ∧ cur'.size = cap * 4 ∧ cur'.toList.take ((n + 1) * 4) = (cur.toList.take (n * 4)).take (i * 4) ++ curh.toList.take 4 ++ (cur.toList.take (n * 4)).drop (i * 4) ∧ KeptBut [g] w w' := by
  have hcmx : cap ≤ 9223372036854775807 := hcm
  have hz2 : ¬ ((i : Int) = (n : Int)) := by omega
  have hov : ∀ lb cb, (callFunc 129 #[.slice (some ⟨h, 0, none⟩) 1 caph, .slice (some ⟨g, (i + 1) * 4, none⟩) lb cb]).run Tryz.prog w = .ok (.value (.bool false)) w := fun lb cb => by
    rw [run_callFunc_extern Tryz.func129 (by kernel_rfl) (by kernel_rfl) (by kernel_rfl) (e := Extern.SlicesOverlaps.overlaps #[23, 23] #[4]) (by kernel_rfl),
      Lib.run_overlaps_apart w 23 4 55 Tryz.underlying23 4 sz55 ⟨h, 0, none⟩ ⟨g, (i + 1) * 4, none⟩ 1 caph lb cb hne 55 55 curh.size cur.size (by simp [World.shape?, hh]) (by simp [World.shape?, hg]) (by omega) (by simp [World.frozen?, hh]) (by simp [World.frozen?, hh])]
    rfl
  obtain ⟨tl, htl⟩ : ∃ tl, tl = (cur.toList.drop (i * 4)).take ((n - i) * 4) := ⟨_, rfl⟩
  have htll : tl.length = (n - i) * 4 := by rw [htl]; simp; omega
  have htl1 : ∀ v ∈ tl, v.oneCell' = true := fun v hv => h1 v (by
    rw [htl, show (cur.toList.drop (i * 4)).take ((n - i) * 4) = (cur.toList.take (n * 4)).drop (i * 4) from by rw [List.drop_take]; congr 1; omega] at hv
    exact List.mem_of_mem_drop hv)
  obtain ⟨c1, hc1'⟩ : ∃ c1, c1 = (cur.toList.take ((i + 1) * 4) ++ tl ++ cur.toList.drop ((i + 1) * 4 + tl.length)).toArray := ⟨_, rfl⟩
  have hc1s : c1.size = cap * 4 := by rw [hc1']; simp; omega
  have hcp1 : ∀ ty dc sc, (Builtin.copy_ #[23, 23] ty #[.slice (some ⟨g, (i + 1) * 4, none⟩) (n + 1 - (i + 1)) dc, .slice (some ⟨g, i * 4, none⟩) (n + 1 - i) sc]).run Tryz.prog w.drew = .ok (goInt (Nat.min (n + 1 - i) (n + 1 - (i + 1)))) (w.drew.setRow g c1) := fun ty dc sc => by
    rw [hc1']
    exact Zcf w.drew 23 23 ty 55 4 g ((i + 1) * 4) (n + 1 - (i + 1)) dc ⟨g, i * 4, none⟩ (n + 1 - i) sc cur 55 tl Tryz.underlying23 inf55 hg (by rw [htll]; simp only [Nat.min_def]; split <;> omega) (by rw [htl]; exact ZaO (w := w.drew) hg (by omega)) (by rw [htll]; omega) htl1
  obtain ⟨W1, hW1⟩ : ∃ W1, W1 = w.drew.setRow g c1 := ⟨_, rfl⟩
  rw [← hW1] at hcp1
  have hg1 : W1.heap[g]? = some (.cells c1 55 (0, 0)) := by rw [hW1]; exact setRow_heap _ g cur _ 55 _ hg
  have hh1 : W1.heap[h]? = some (.cells curh 55 (0, 0)) := by
    rw [hW1, ← hh]
    exact (KeptBut.setRow (w := w.drew) (F := [g]) (by simp) c1).block h (by have := (Array.getElem?_eq_some_iff.1 hh).1; exact this) (by simp [hne])
  obtain ⟨c2, hc2⟩ : ∃ c2, c2 = (c1.toList.take (i * 4) ++ curh.toList.take 4 ++ c1.toList.drop (i * 4 + (curh.toList.take 4).length)).toArray := ⟨_, rfl⟩
  have hyl : (curh.toList.take 4).length = 4 := by simp; omega
  have hcp2 : ∀ ty dc, (Builtin.copy_ #[23, 23] ty #[.slice (some ⟨g, i * 4, none⟩) (n + 1 - i) dc, .slice (some ⟨h, 0, none⟩) 1 caph]).run Tryz.prog W1 = .ok (goInt (Nat.min 1 (n + 1 - i))) (W1.setRow g c2) := fun ty dc => by
    rw [hc2]
    exact Zcf W1 23 23 ty 55 4 g (i * 4) (n + 1 - i) dc ⟨h, 0, none⟩ 1 caph c1 55 (curh.toList.take 4) Tryz.underlying23 inf55 hg1 (by rw [hyl]; simp only [Nat.min_def]; split <;> omega) (by have := ZaO (o := 0) (m := 4) hh1 (by omega); simpa using this) (by rw [hyl]; omega) h1h
  have hpost : ∃ cur' : Array Value, (W1.setRow g c2).heap[g]? = some (.cells cur' 55 (0, 0)) ∧ cur'.size = cap * 4 ∧ cur'.toList.take ((n + 1) * 4) = (cur.toList.take (n * 4)).take (i * 4) ++ curh.toList.take 4 ++ (cur.toList.take (n * 4)).drop (i * 4) ∧ KeptBut [g] w (W1.setRow g c2) := by
    refine ⟨c2, setRow_heap W1 g c1 _ 55 _ hg1, ?_, ?_, ?_⟩
    · rw [hc2]; simp; omega
    · have q := ins_list (cur := cur.toList) (y := curh.toList.take 4) (tl := tl) (c1 := c1.toList) (c2 := c2.toList) (a := i * 4) (s := 4) (by simp; omega) hyl (by rw [hc1', show i * 4 + 4 = (i + 1) * 4 from by omega]) (by rw [hc2, hyl])
      rw [show (n + 1) * 4 = i * 4 + 4 + tl.length from by rw [htll]; omega, q, htl, show (n - i) * 4 = n * 4 - i * 4 from by omega, mid_eq, List.take_take, Nat.min_eq_left (by omega)]
    · rw [hW1]; exact ((KeptBut.refl _ w).drew.trans (KeptBut.setRow (by simp) _)).trans (KeptBut.setRow (by simp) _)
  have hw1 : IntKind.i64.wrap ((i : Int) + 1) = (i : Int) + 1 := by rw [IntKind.wrap_i64]; omega
  have hw2 : IntKind.i64.wrap ((n : Int) + 1) = (n : Int) + 1 := by rw [IntKind.wrap_i64]; omega
  have hb1 : ¬ ((cap : Int) < (n : Int) + 1) := by omega
  have hb2 : ¬ (cap = i + 1) := by omega
  have hb3 : (i : Int) ≤ (n : Int) := by omega
  have hb4 : ¬ (cap = i) := by omega
  have hb5 : (i : Int) ≤ (n : Int) + 1 := by omega
  have hb6 : (i : Int) + 1 ≤ (n : Int) + 1 := by omega
  have hb7 : (n : Int) + 1 ≤ (cap : Int) := by omega
  have hb8 : (0 : Int) ≤ (i : Int) + 1 := by omega
  have hb9 : (0 : Int) ≤ (n : Int) + 1 := by omega
  have ht1 : ((i : Int) + 1).toNat = i + 1 := by omega
  have ht2 : ((n : Int) + 1).toNat = n + 1 := by omega
  clear hc2 hW1 hc1' htl h1 h1h
  go_enter Tryz.func109, Tryz.ntmps109
  go_wp2_with (simp only [hov])
  go_region_law (refine ZdS rfl _ _ 23 23 rfl (.slice (some ⟨g, (i + 1) * 4, none⟩) (n + 1 - (i + 1)) (cap - (i + 1))) (.slice (some ⟨g, i * 4, none⟩) (n + 1 - i) (cap - i)) (by simp [Act.eval, Act.put]) (by simp [Act.eval, Act.put]) (hcp1 _ _ _) ?_)
  go_wp2_with (at_builtin; refine Zdj rfl _ _ 23 23 rfl _ _ rfl rfl (hcp2 _ _) ?_)
  go_ret
  exact ⟨rfl, hpost⟩
set_option maxHeartbeats 4000000 in
set_option maxRecDepth 1000000 in
theorem ins109_grow (w : World) (g n cap i h caph : Nat) (cur curh : Array Value) (hg : w.heap[g]? = some (.cells cur 55 (0, 0))) (hs : cur.size = cap * 4) (hcm : cap ≤ maxLen) (h1 : OneL (cur.toList.take (n * 4)))
    (hh : w.heap[h]? = some (.cells curh 55 (0, 0))) (hhs : curh.size = caph * 4) (hc1 : 1 ≤ caph) (h1h : OneL (curh.toList.take 4)) (hi : i < n) (hn : n ≤ cap) (hroom : cap < n + 1) (hbig : (n + 1) * 64 ≤ 140737488355328) :
    Calls Tryz.prog 109 #[.slice (some ⟨g, 0, none⟩) n cap, .int .i64 i, .slice (some ⟨h, 0, none⟩) 1 caph] w fun e w' => ∃ cap', e = .returned (.slice (some ⟨w.heap.size, 0, none⟩) (n + 1) cap') ∧ n + 1 ≤ cap' ∧ cap' ≤ maxLen ∧
      ∃ cur' : Array Value, w'.heap[w.heap.size]? = some (.cells cur' 55 (0, 0)) ∧ cur'.size = cap' * 4 ∧ cur'.toList.take ((n + 1) * 4) = (cur.toList.take (n * 4)).take (i * 4) ++ curh.toList.take 4 ++ (cur.toList.take (n * 4)).drop (i * 4) ∧ KeptBut [] w w' := by
  have hcmx : cap ≤ 9223372036854775807 := hcm
  have hz2 : ¬ ((i : Int) = (n : Int)) := by omega
  have hgw : g < w.heap.size := (Array.getElem?_eq_some_iff.1 hg).1
  have hhw : h < w.heap.size := (Array.getElem?_eq_some_iff.1 hh).1
  obtain ⟨i0, hi0, hz0, hzs, hzb⟩ := info_parts info55
  have hkk : (n : Int) + 1 - (i : Int) = ((n + 1 - i : Nat) : Int) := by omega
  have hik : i + (n + 1 - i) = n + 1 := by omega
  obtain ⟨olds, hol⟩ : ∃ olds, olds = cur.toList.take (i * 4) := ⟨_, rfl⟩
  have holl : olds.length = i * 4 := by rw [hol]; simp; omega
  have hold : (Builtin.firstCells i0.size i (.slice (some ⟨g, 0, none⟩) i cap)).run Tryz.prog w.drew = .ok olds.toArray w.drew := by
    rw [hzs]
    refine run_firstCells_some w.drew 4 i ⟨g, 0, none⟩ i cap olds holl fun j v hj => ?_
    have := ZaO (o := 0) (m := i * 4) (w := w.drew) hg (by omega) j v (by rw [List.drop_zero, ← hol]; exact hj)
    exact this
  obtain ⟨G, hG⟩ : ∃ G, G = grownCap w (n + 1) cap 55 := ⟨_, rfl⟩
  obtain ⟨ROW, hROW⟩ : ∃ ROW : Array Value, ROW = olds.toArray ++ Builtin.zeroCells (Value.agg #[.slice none 0 0, .slice none 0 0, .int .i64 0, .int .i64 0]).cells (n + 1 - i) ++ Builtin.zeroCells (Value.agg #[.slice none 0 0, .slice none 0 0, .int .i64 0, .int .i64 0]).cells (G - (n + 1)) := ⟨_, rfl⟩
  have hrz : ∀ ty, (Builtin.append_ #[23, 3] ty #[.slice (some ⟨g, 0, none⟩) i cap, .int .i64 ((n : Int) + 1 - (i : Int))]).run Tryz.prog w =
      .ok (.slice (some ⟨w.heap.size, 0, none⟩) (n + 1) G) (w.drew.alloc (.cells ROW 55)) := fun ty => by
    have h := Lib.run_append_grow_zeros w 23 3 ty 55 i0 _ .i64 .i64 Tryz.underlying23 Tryz.underlying3 hi0 hz0 (some ⟨g, 0, none⟩) i cap olds hold (n + 1 - i) (by omega) (by omega) (by omega) (by omega) (by rw [hzb]; omega) (by rw [hzb, hik]; exact growslice_fits hroom hbig)
    rw [hik, ← hG, ← hROW] at h
    rw [hkk]
    exact h
  have hGn : n + 1 ≤ G := by rw [hG]; exact grownCap_ge w _ _ _
  have hGm : G ≤ maxLen := by rw [hG]; exact grownCap_le_maxLen w (n + 1) cap 55 (by unfold maxLen; omega)
  have hG63 : G ≤ 9223372036854775807 := hGm
  have hRs : ROW.size = G * 4 := by
    rw [hROW]; simp only [Array.size_append, List.size_toArray, size_zeroCells, holl]
    rw [show (Value.agg #[.slice none 0 0, .slice none 0 0, .int .i64 0, .int .i64 0]).cells.size = 4 from rfl]; omega
  obtain ⟨W1, hW1⟩ : ∃ W1, W1 = w.drew.alloc (.cells ROW 55) := ⟨_, rfl⟩
  rw [← hW1] at hrz
  have hN1 : W1.heap[w.heap.size]? = some (.cells ROW 55 (0, 0)) := by rw [hW1]; exact heap_alloc_new w.drew _
  have hk1 : KeptBut [] w W1 := by rw [hW1]; exact (KeptBut.refl _ w).drew.alloc _
  have hyl : (curh.toList.take 4).length = 4 := by simp; omega
  obtain ⟨c2, hc2⟩ : ∃ c2, c2 = (ROW.toList.take (i * 4) ++ curh.toList.take 4 ++ ROW.toList.drop (i * 4 + (curh.toList.take 4).length)).toArray := ⟨_, rfl⟩
  have hc2s : c2.size = G * 4 := by rw [hc2]; simp; omega
  have hcpA : ∀ (W : World), W.heap = W1.heap → ∀ ty dc, (Builtin.copy_ #[23, 23] ty #[.slice (some ⟨w.heap.size, i * 4, none⟩) (n + 1 - i) dc, .slice (some ⟨h, 0, none⟩) 1 caph]).run Tryz.prog W = .ok (goInt (Nat.min 1 (n + 1 - i))) (W.setRow w.heap.size c2) := fun W hW ty dc => by
    rw [hc2]
    exact Zcf W 23 23 ty 55 4 w.heap.size (i * 4) (n + 1 - i) dc ⟨h, 0, none⟩ 1 caph ROW 55 (curh.toList.take 4) Tryz.underlying23 inf55 (by rw [hW]; exact hN1) (by rw [hyl]; simp only [Nat.min_def]; split <;> omega)
      (by have := ZaO (w := W) (o := 0) (m := 4) (cur := curh) (T := 55) (g := h) (by rw [hW, hk1.block h hhw (by simp)]; exact hh) (by omega); simpa using this) (by rw [hyl]; omega) h1h
  obtain ⟨tl, htl⟩ : ∃ tl, tl = (cur.toList.drop (i * 4)).take ((n - i) * 4) := ⟨_, rfl⟩
  have htll : tl.length = (n - i) * 4 := by rw [htl]; simp; omega
  have htl1 : ∀ v ∈ tl, v.oneCell' = true := fun v hv => h1 v (by
    rw [htl, show (cur.toList.drop (i * 4)).take ((n - i) * 4) = (cur.toList.take (n * 4)).drop (i * 4) from by rw [List.drop_take]; congr 1; omega] at hv
    exact List.mem_of_mem_drop hv)
  obtain ⟨W2, hW2⟩ : ∃ W2, W2 = W1.setRow w.heap.size c2 := ⟨_, rfl⟩
  have hN2 : W2.heap[w.heap.size]? = some (.cells c2 55 (0, 0)) := by rw [hW2]; exact setRow_heap _ _ ROW _ 55 _ hN1
  have hk2 : KeptBut [w.heap.size] w W2 := by rw [hW2]; exact (hk1.mono (by simp)).trans (KeptBut.setRow (by simp) _)
  obtain ⟨c3, hc3⟩ : ∃ c3, c3 = (c2.toList.take ((i + 1) * 4) ++ tl ++ c2.toList.drop ((i + 1) * 4 + tl.length)).toArray := ⟨_, rfl⟩
  have hcpB : ∀ (W : World), W.heap = W2.heap → ∀ ty dc sc, (Builtin.copy_ #[23, 23] ty #[.slice (some ⟨w.heap.size, (i + 1) * 4, none⟩) (n + 1 - (i + 1)) dc, .slice (some ⟨g, i * 4, none⟩) (n - i) sc]).run Tryz.prog W = .ok (goInt (Nat.min (n - i) (n + 1 - (i + 1)))) (W.setRow w.heap.size c3) := fun W hW ty dc sc => by
    rw [hc3]
    exact Zcf W 23 23 ty 55 4 w.heap.size ((i + 1) * 4) (n + 1 - (i + 1)) dc ⟨g, i * 4, none⟩ (n - i) sc c2 55 tl Tryz.underlying23 inf55 (by rw [hW]; exact hN2) (by rw [htll]; simp only [Nat.min_def]; split <;> omega)
      (by rw [htl]; exact ZaO (w := W) (T := 55) (by rw [hW, hk2.block g hgw (by simp; omega)]; exact hg) (by omega)) (by rw [htll]; omega) htl1
  have hpost : ∀ W, W.heap = W2.heap → KeptBut [w.heap.size] w W → ∃ cur' : Array Value, (W.setRow w.heap.size c3).heap[w.heap.size]? = some (.cells cur' 55 (0, 0)) ∧ cur'.size = G * 4 ∧ cur'.toList.take ((n + 1) * 4) = (cur.toList.take (n * 4)).take (i * 4) ++ curh.toList.take 4 ++ (cur.toList.take (n * 4)).drop (i * 4) ∧ KeptBut [] w (W.setRow w.heap.size c3) := by
    intro W hW hk
    refine ⟨c3, setRow_heap W _ c2 _ 55 _ (by rw [hW]; exact hN2), ?_, ?_, (hk.trans (KeptBut.setRow (by simp) _)).fresh (by simp)⟩
    · rw [hc3]; simp; omega
    · have q := ins_list2 (row := ROW.toList) (y := curh.toList.take 4) (tl := tl) (c2 := c2.toList) (c3 := c3.toList) (a := i * 4) (s := 4) (by simp; omega) hyl (by rw [hc2, hyl]) (by rw [hc3, show i * 4 + 4 = (i + 1) * 4 from by omega])
      rw [show (n + 1) * 4 = i * 4 + 4 + tl.length from by rw [htll]; omega, q, htl, show (n - i) * 4 = n * 4 - i * 4 from by omega, mid_eq, List.take_take, Nat.min_eq_left (by omega), hROW]
      congr 2
      simp only [Array.toList_append, List.append_assoc]
      exact (List.take_left' holl).trans hol
  have hw1 : IntKind.i64.wrap ((i : Int) + 1) = (i : Int) + 1 := by rw [IntKind.wrap_i64]; omega
  have hw2 : IntKind.i64.wrap ((n : Int) + 1) = (n : Int) + 1 := by rw [IntKind.wrap_i64]; omega
  have hw3 : IntKind.i64.wrap ((n : Int) + 1 - (i : Int)) = (n : Int) + 1 - (i : Int) := by rw [IntKind.wrap_i64]; omega
  have hz3 : (cap : Int) < (n : Int) + 1 := by omega
  have hGi : ¬ (G = i) := by omega
  have hGi1 : ¬ (G = i + 1) := by omega
  have hci : ¬ (cap = i) := by omega
  have hb3 : (i : Int) ≤ (n : Int) := by omega
  have hb5 : (i : Int) ≤ (n : Int) + 1 := by omega
  have hb6 : (i : Int) + 1 ≤ (n : Int) + 1 := by omega
  have hb8 : (0 : Int) ≤ (i : Int) + 1 := by omega
  have ht1 : ((i : Int) + 1).toNat = i + 1 := by omega
  have hb9 : i ≤ cap := by omega
  have hb10 : (i : Int) ≤ (cap : Int) := by omega
  clear hkk hik hold hROW hG hc2 hc3 htl hol h1 h1h
  go_enter Tryz.func109, Tryz.ntmps109
  go_wp2_with (first
    | (at_builtin; refine Lib.wpList_append_run _ rfl _ _ _ _ rfl _ _ rfl rfl _ _ (hrz _) ?_)
    | (at_builtin; refine Zdj rfl _ _ 23 23 rfl _ _ rfl rfl (hcpA _ rfl _ _) ?_))
  go_region_law (refine ZdS rfl _ _ 23 23 rfl (.slice (some ⟨w.heap.size, (i + 1) * 4, none⟩) (n + 1 - (i + 1)) (G - (i + 1))) (.slice (some ⟨g, i * 4, none⟩) (n - i) (cap - i)) (by simp [Act.eval, Act.put]) (by simp [Act.eval, Act.put]) (hcpB _ (by rw [hW2, hW1]; rfl) _ _ _) ?_)
  go_wp2
  go_ret
  exact ⟨G, rfl, hGn, hGm, hpost _ (by rw [hW2, hW1]; rfl) (by rw [hW2, hW1] at hk2; exact ⟨hk2.os, hk2.tape, hk2.output, hk2.size, hk2.block⟩)⟩
set_option maxHeartbeats 4000000 in
set_option maxRecDepth 1000000 in
theorem insEnd109 : InsEnd Tryz.prog 109 55 4 64 := by
  intro w v v2 n xs ys hr hr2 h1 hbig h63
  rcases hr2.2 with ⟨a, rfl, h0⟩ | ⟨h, caph, curh, rfl, hch, hh, hn2, hm2, hs2, hx2⟩
  · omega
  obtain ⟨a, cap, rfl, hnc, hcm⟩ := hr.slice
  have hh := hh.zero (show 55 ≠ 5 by decide)
  have hhw : h < w.heap.size := (Array.getElem?_eq_some_iff.1 hh).1
  have hyl : ys.length = 1 * 4 := hr2.1
  obtain ⟨v', w', hrun, k1, k2, k3⟩ := append_run (P := Tryz.prog) (tab := tab) (w := w) (t := 23) (t2 := 23) (e := 55) (ot := 23) Tryz.underlying23 (base.tab 55 _ rfl) (.inl ⟨55, Tryz.underlying23⟩) (n := n) hr (Nat.le_refl n) (xv := .slice (some ⟨h, 0, none⟩) 1 caph) (news := ys) (m := 1) hyl h1
    (fun w' => by simp [Builtin.lenOf]) (fun w' hw' => run_firstCells_some w' 4 1 ⟨h, 0, none⟩ 1 caph ys hyl fun j v hj => by
      have := ZaO (o := 0) (m := 1 * 4) (w := w') (by rw [hw' h hhw]; exact hh) (by omega) j v (by rw [List.drop_zero, hx2]; exact hj)
      exact this) h63 hbig
  have hxl : xs.take (n * 4) = xs := List.take_of_length_le (by rw [hr.1]; exact Nat.le_refl _)
  have k1' : RowIs w' 55 4 (n + 1) v' (xs ++ ys) := by
    have k1 : RowIs w' 55 4 (n + 1) v' (xs.take (n * 4) ++ ys) := k1
    rw [hxl] at k1; exact k1
  clear k1
  cases a with
  | none =>
    go_enter Tryz.func109, Tryz.ntmps109
    go_wp2_with (at_builtin; refine Lib.wpList_append_run _ rfl _ _ _ _ rfl _ _ rfl rfl _ _ hrun ?_)
    all_goals (go_ret; first | exact ⟨v', rfl, k1', k2, k3⟩ | (subst_vars; exact ⟨v', rfl, k1', k2, k3⟩))
  | some a =>
    obtain ⟨ab, ao, asp⟩ := a
    go_enter Tryz.func109, Tryz.ntmps109
    go_wp2_with (at_builtin; refine Lib.wpList_append_run _ rfl _ _ _ _ rfl _ _ rfl rfl _ _ hrun ?_)
    all_goals (go_ret; first | exact ⟨v', rfl, k1', k2, k3⟩ | (subst_vars; exact ⟨v', rfl, k1', k2, k3⟩))
theorem ins109 : InsOk Tryz.prog 109 55 4 64 := ins_ok
  (fun w g n cap i h caph cur curh h1 h2 h3 h4 h5 h6 h7 h8 h9 h10 h11 => ins109_room w g n cap i h caph cur curh h1 h2 h3 h4 h5 h6 h7 h8 h9 h10 h11)
  (fun w g n cap i h caph cur curh h1 h2 h3 h4 h5 h6 h7 h8 h9 h10 h11 h12 => ins109_grow w g n cap i h caph cur curh h1 h2 h3 h4 h5 h6 h7 h8 h9 h10 h11 h12)
  insEnd109
theorem inf98 : (Tryz.prog.info? 98).map (·.size) = some 2 := by kernel_rfl
theorem zv98 : ∀ w, (zeroValue 98).run Tryz.prog w = .ok (Value.agg #[.slice none 0 0, .int .i64 0]) w := fun w => by kernel_rfl
set_option maxHeartbeats 4000000 in
set_option maxRecDepth 1000000 in
theorem delSame110 : DelSame Tryz.prog 110 := by
  intro a n cap i w hin hn hcm
  go_enter Tryz.func110, Tryz.ntmps110
  go_wp2
  all_goals (go_ret; exact ⟨rfl, .refl _ _⟩)
set_option maxHeartbeats 4000000 in
set_option maxRecDepth 1000000 in
theorem del110 : DelOk Tryz.prog 110 98 2 := by
  intro g n cap i j cur w hg hs hn hcm h1 hij hj
  have hne : ¬ ((i : Int) = (j : Int)) := by omega
  have hb1 : (i : Int) ≤ (j : Int) := by omega
  have hb2 : (j : Int) ≤ (n : Int) := by omega
  have hb3 : (i : Int) ≤ (n : Int) := by omega
  have hb4 : i ≤ cap := by omega
  have hb5 : j ≤ cap := by omega
  obtain ⟨news, hnews⟩ : ∃ news, news = (cur.toList.drop (j * 2)).take ((n - j) * 2) := ⟨_, rfl⟩
  have hnl : news.length = (n - j) * 2 := by rw [hnews]; simp; omega
  have hsrc : ∀ k v, news[k]? = some v → w.cell? ((⟨g, j * 2, none⟩ : Addr).add k) = some v := by
    rw [hnews]; exact ZaO hg (by omega)
  have hone : ∀ v ∈ news, v.oneCell' = true := fun v hv => h1 v (by
    rw [hnews] at hv
    have : (cur.toList.drop (j * 2)).take ((n - j) * 2) = (cur.toList.take (n * 2)).drop (j * 2) := by
      rw [List.drop_take]; congr 1; omega
    rw [this] at hv
    exact List.mem_of_mem_drop hv)
  obtain ⟨c1, hc1⟩ : ∃ c1, c1 = (cur.toList.take (i * 2) ++ news ++ cur.toList.drop (i * 2 + news.length)).toArray := ⟨_, rfl⟩
  have hap : ∀ (W : World) (a : Addr) (m sc : Nat) (ty : TypeId), W.heap[g]? = w.heap[g]? → m = n - j → (m = 0 ∨ a = ⟨g, j * 2, none⟩) →
      (Builtin.append_ #[24, 24] ty #[.slice (some ⟨g, 0, none⟩) i cap, .slice (some a) m sc]).run Tryz.prog W = .ok (.slice (some ⟨g, 0, none⟩) (i + m) cap) (W.setRow g c1) := by
    intro W a m sc ty hW hm ha
    rw [hm] at ha ⊢
    have hst := run_storeCells_at Tryz.prog g (i * 2) 98 news 0 cur W (hW.trans hg) (by rw [hnl]; omega) hone
    simp only [Nat.add_zero] at hst
    rw [← hc1] at hst
    have hfc : (Builtin.firstCells 2 (n - j) (.slice (some a) (n - j) sc)).run Tryz.prog W = .ok news.toArray W := by
      refine run_firstCells_some (P := Tryz.prog) W 2 (n - j) a (n - j) sc news hnl fun k v hk => ?_
      rcases ha with h | rfl
      · have := (List.getElem?_eq_some_iff.1 hk).1
        rw [hnl] at this; omega
      · have := hsrc k v hk
        rw [← this]
        simp [World.cell?, hW, Addr.add_none]
    have hr : i + (n - j) ≤ cap := by omega
    cases hq : Tryz.prog.info? 98 with
    | none => have := inf98; rw [hq] at this; simp at this
    | some i0 =>
      have hi : i0.size = 2 := by have := inf98; rw [hq] at this; simpa using this
      simp [Builtin.append_, run_underlying Tryz.underlying24, sizeOf, typeInfo, hq, hi, Builtin.lenOf, hr, hfc, Addr.add_none, hst]
  have hc1s : c1.size = cap * 2 := by rw [hc1]; simp; omega
  have hc1t : c1.toList.take ((i + (n - j)) * 2) = (cur.toList.take (n * 2)).take (i * 2) ++ (cur.toList.take (n * 2)).drop (j * 2) := by
    rw [hc1]
    simp only [List.append_assoc]
    rw [← List.append_assoc, show (i + (n - j)) * 2 = (cur.toList.take (i * 2) ++ news).length from by simp [hnl]; omega, List.take_left, hnews, List.take_take, Nat.min_eq_left (by omega), List.drop_take]
    congr 2
    omega
  have hsub : n - (j - i) = i + (n - j) := by omega
  have hz : (Value.agg #[.slice none 0 0, .int .i64 0]).cells.size = 2 := rfl
  have hz1 : ∀ v ∈ (Value.agg #[.slice none 0 0, .int .i64 0]).cells, v.oneCell' = true := by decide
  rw [hsub]
  have hcn : ¬ (cap = i + (n - j)) := by omega
  have hlt : ((i + (n - j) : Nat) : Int) ≤ (n : Int) := by omega
  have hfin : ∀ (W1 : World) (d : Array Value), W1.heap[g]? = some (.cells d 98 (0, 0)) → d.size = cap * 2 → d.toList.take ((i + (n - j)) * 2) = (cur.toList.take (n * 2)).take (i * 2) ++ (cur.toList.take (n * 2)).drop (j * 2) → KeptBut [g] w W1 →
      ∃ W2, (∀ sc, (Builtin.clear_ #[24] 0 #[.slice (some ⟨g, (i + (n - j)) * 2, none⟩) (n - (i + (n - j))) sc]).run Tryz.prog W1 = .ok (.tuple #[]) W2) ∧
        ∃ cur' : Array Value, W2.heap[g]? = some (.cells cur' 98 (0, 0)) ∧ cur'.size = cap * 2 ∧ cur'.toList.take ((i + (n - j)) * 2) = (cur.toList.take (n * 2)).take (i * 2) ++ (cur.toList.take (n * 2)).drop (j * 2) ∧ KeptBut [g] w W2 := by
    intro W1 d e1 e2 e3 e4
    obtain ⟨tl, t1, t2⟩ := ZdR (P := Tryz.prog) W1 24 98 0 _ 2 Tryz.underlying24 zv98 hz hz1 (by omega) g ((i + (n - j)) * 2) (n - (i + (n - j))) (by omega) d 98 e1 (by omega)
    refine ⟨W1.setRow g (d.toList.take ((i + (n - j)) * 2) ++ tl ++ d.toList.drop ((i + (n - j)) * 2 + tl.length)).toArray, t2, (d.toList.take ((i + (n - j)) * 2) ++ tl ++ d.toList.drop ((i + (n - j)) * 2 + tl.length)).toArray, setRow_heap W1 g d _ 98 _ e1, ?_, ?_, e4.trans (KeptBut.setRow (by simp) _)⟩
    · simp; omega
    · rw [← e3, List.append_assoc]
      simp only
      rw [show (i + (n - j)) * 2 = (d.toList.take ((i + (n - j)) * 2)).length from by simp; omega]
      simp
  clear hc1 hnews hz hz1 hnl hsrc hone h1
  by_cases hjn : j = n
  · have hk : cur.toList.take ((i + (n - j)) * 2) = (cur.toList.take (n * 2)).take (i * 2) ++ (cur.toList.take (n * 2)).drop (j * 2) := by
      subst hjn
      rw [Nat.sub_self, Nat.add_zero, List.take_take, Nat.min_eq_left (by omega), List.drop_of_length_le (by simp; omega), List.append_nil]
    obtain ⟨W2, hcl, hpost⟩ := hfin w.drew cur hg hs hk (KeptBut.refl _ w).drew
    have e0 : i + (n - j) = i := by omega
    rw [e0] at hcl hpost hcn ⊢
    clear hfin hc1t hap hk hsub hlt e0
    subst hjn
    by_cases hcj : cap = j
    · subst hcj
      go_enter Tryz.func110, Tryz.ntmps110
      go_wp2
      go_region
      go_wp2_with (at_builtin; refine Zal rfl _ 24 rfl _ rfl (hcl _) ?_)
      go_ret
      exact ⟨rfl, hpost⟩
    · go_enter Tryz.func110, Tryz.ntmps110
      go_wp2
      go_region
      go_wp2_with (at_builtin; refine Zal rfl _ 24 rfl _ rfl (hcl _) ?_)
      go_ret
      exact ⟨rfl, hpost⟩
  · have hcj : ¬ (cap = j) := by omega
    obtain ⟨W2, hcl, hpost⟩ := hfin (w.drew.setRow g c1) c1 (setRow_heap _ g cur _ 98 _ hg) hc1s hc1t ((KeptBut.refl _ w).drew.trans (KeptBut.setRow (by simp) _))
    clear hfin hc1t
    go_enter Tryz.func110, Tryz.ntmps110
    go_wp2
    go_region_law (refine Zdk rfl _ _ 24 24 rfl _ _ (by simp [Act.eval, Act.put]) (by simp [Act.eval, Act.put]) (hap w.drew ⟨g, j * 2, none⟩ (n - j) (cap - j) 24 rfl rfl (Or.inr rfl)) ?_)
    go_wp2_with (at_builtin; refine Zal rfl _ 24 rfl _ rfl (hcl _) ?_)
    go_ret
    exact ⟨rfl, hpost⟩
set_option maxHeartbeats 4000000 in
set_option maxRecDepth 1000000 in
theorem delSame111 : DelSame Tryz.prog 111 := by
  intro a n cap i w hin hn hcm
  go_enter Tryz.func111, Tryz.ntmps111
  go_wp2
  all_goals (go_ret; exact ⟨rfl, .refl _ _⟩)
set_option maxHeartbeats 4000000 in
set_option maxRecDepth 1000000 in
theorem del111 : DelOk Tryz.prog 111 55 4 := by
  intro g n cap i j cur w hg hs hn hcm h1 hij hj
  have hne : ¬ ((i : Int) = (j : Int)) := by omega
  have hb1 : (i : Int) ≤ (j : Int) := by omega
  have hb2 : (j : Int) ≤ (n : Int) := by omega
  have hb3 : (i : Int) ≤ (n : Int) := by omega
  have hb4 : i ≤ cap := by omega
  have hb5 : j ≤ cap := by omega
  obtain ⟨news, hnews⟩ : ∃ news, news = (cur.toList.drop (j * 4)).take ((n - j) * 4) := ⟨_, rfl⟩
  have hnl : news.length = (n - j) * 4 := by rw [hnews]; simp; omega
  have hsrc : ∀ k v, news[k]? = some v → w.cell? ((⟨g, j * 4, none⟩ : Addr).add k) = some v := by
    rw [hnews]; exact ZaO hg (by omega)
  have hone : ∀ v ∈ news, v.oneCell' = true := fun v hv => h1 v (by
    rw [hnews] at hv
    have : (cur.toList.drop (j * 4)).take ((n - j) * 4) = (cur.toList.take (n * 4)).drop (j * 4) := by
      rw [List.drop_take]; congr 1; omega
    rw [this] at hv
    exact List.mem_of_mem_drop hv)
  obtain ⟨c1, hc1⟩ : ∃ c1, c1 = (cur.toList.take (i * 4) ++ news ++ cur.toList.drop (i * 4 + news.length)).toArray := ⟨_, rfl⟩
  have hap : ∀ (W : World) (a : Addr) (m sc : Nat) (ty : TypeId), W.heap[g]? = w.heap[g]? → m = n - j → (m = 0 ∨ a = ⟨g, j * 4, none⟩) →
      (Builtin.append_ #[23, 23] ty #[.slice (some ⟨g, 0, none⟩) i cap, .slice (some a) m sc]).run Tryz.prog W = .ok (.slice (some ⟨g, 0, none⟩) (i + m) cap) (W.setRow g c1) := by
    intro W a m sc ty hW hm ha
    rw [hm] at ha ⊢
    have hst := run_storeCells_at Tryz.prog g (i * 4) 55 news 0 cur W (hW.trans hg) (by rw [hnl]; omega) hone
    simp only [Nat.add_zero] at hst
    rw [← hc1] at hst
    have hfc : (Builtin.firstCells 4 (n - j) (.slice (some a) (n - j) sc)).run Tryz.prog W = .ok news.toArray W := by
      refine run_firstCells_some (P := Tryz.prog) W 4 (n - j) a (n - j) sc news hnl fun k v hk => ?_
      rcases ha with h | rfl
      · have := (List.getElem?_eq_some_iff.1 hk).1
        rw [hnl] at this; omega
      · have := hsrc k v hk
        rw [← this]
        simp [World.cell?, hW, Addr.add_none]
    have hr : i + (n - j) ≤ cap := by omega
    cases hq : Tryz.prog.info? 55 with
    | none => have := inf55; rw [hq] at this; simp at this
    | some i0 =>
      have hi : i0.size = 4 := by have := inf55; rw [hq] at this; simpa using this
      simp [Builtin.append_, run_underlying Tryz.underlying23, sizeOf, typeInfo, hq, hi, Builtin.lenOf, hr, hfc, Addr.add_none, hst]
  have hc1s : c1.size = cap * 4 := by rw [hc1]; simp; omega
  have hc1t : c1.toList.take ((i + (n - j)) * 4) = (cur.toList.take (n * 4)).take (i * 4) ++ (cur.toList.take (n * 4)).drop (j * 4) := by
    rw [hc1]
    simp only [List.append_assoc]
    rw [← List.append_assoc, show (i + (n - j)) * 4 = (cur.toList.take (i * 4) ++ news).length from by simp [hnl]; omega, List.take_left, hnews, List.take_take, Nat.min_eq_left (by omega), List.drop_take]
    congr 2
    omega
  have hsub : n - (j - i) = i + (n - j) := by omega
  have hz : (Value.agg #[.slice none 0 0, .slice none 0 0, .int .i64 0, .int .i64 0]).cells.size = 4 := rfl
  have hz1 : ∀ v ∈ (Value.agg #[.slice none 0 0, .slice none 0 0, .int .i64 0, .int .i64 0]).cells, v.oneCell' = true := by decide
  rw [hsub]
  have hcn : ¬ (cap = i + (n - j)) := by omega
  have hlt : ((i + (n - j) : Nat) : Int) ≤ (n : Int) := by omega
  have hfin : ∀ (W1 : World) (d : Array Value), W1.heap[g]? = some (.cells d 55 (0, 0)) → d.size = cap * 4 → d.toList.take ((i + (n - j)) * 4) = (cur.toList.take (n * 4)).take (i * 4) ++ (cur.toList.take (n * 4)).drop (j * 4) → KeptBut [g] w W1 →
      ∃ W2, (∀ sc, (Builtin.clear_ #[23] 0 #[.slice (some ⟨g, (i + (n - j)) * 4, none⟩) (n - (i + (n - j))) sc]).run Tryz.prog W1 = .ok (.tuple #[]) W2) ∧
        ∃ cur' : Array Value, W2.heap[g]? = some (.cells cur' 55 (0, 0)) ∧ cur'.size = cap * 4 ∧ cur'.toList.take ((i + (n - j)) * 4) = (cur.toList.take (n * 4)).take (i * 4) ++ (cur.toList.take (n * 4)).drop (j * 4) ∧ KeptBut [g] w W2 := by
    intro W1 d e1 e2 e3 e4
    obtain ⟨tl, t1, t2⟩ := ZdR (P := Tryz.prog) W1 23 55 0 _ 4 Tryz.underlying23 zv55 hz hz1 (by omega) g ((i + (n - j)) * 4) (n - (i + (n - j))) (by omega) d 55 e1 (by omega)
    refine ⟨W1.setRow g (d.toList.take ((i + (n - j)) * 4) ++ tl ++ d.toList.drop ((i + (n - j)) * 4 + tl.length)).toArray, t2, (d.toList.take ((i + (n - j)) * 4) ++ tl ++ d.toList.drop ((i + (n - j)) * 4 + tl.length)).toArray, setRow_heap W1 g d _ 55 _ e1, ?_, ?_, e4.trans (KeptBut.setRow (by simp) _)⟩
    · simp; omega
    · rw [← e3, List.append_assoc]
      simp only
      rw [show (i + (n - j)) * 4 = (d.toList.take ((i + (n - j)) * 4)).length from by simp; omega]
      simp
  clear hc1 hnews hz hz1 hnl hsrc hone h1
  by_cases hjn : j = n
  · have hk : cur.toList.take ((i + (n - j)) * 4) = (cur.toList.take (n * 4)).take (i * 4) ++ (cur.toList.take (n * 4)).drop (j * 4) := by
      subst hjn
      rw [Nat.sub_self, Nat.add_zero, List.take_take, Nat.min_eq_left (by omega), List.drop_of_length_le (by simp; omega), List.append_nil]
    obtain ⟨W2, hcl, hpost⟩ := hfin w.drew cur hg hs hk (KeptBut.refl _ w).drew
    have e0 : i + (n - j) = i := by omega
    rw [e0] at hcl hpost hcn ⊢
    clear hfin hc1t hap hk hsub hlt e0
    subst hjn
    by_cases hcj : cap = j
    · subst hcj
      go_enter Tryz.func111, Tryz.ntmps111
      go_wp2
      go_region
      go_wp2_with (at_builtin; refine Zal rfl _ 23 rfl _ rfl (hcl _) ?_)
      go_ret
      exact ⟨rfl, hpost⟩
    · go_enter Tryz.func111, Tryz.ntmps111
      go_wp2
      go_region
      go_wp2_with (at_builtin; refine Zal rfl _ 23 rfl _ rfl (hcl _) ?_)
      go_ret
      exact ⟨rfl, hpost⟩
  · have hcj : ¬ (cap = j) := by omega
    obtain ⟨W2, hcl, hpost⟩ := hfin (w.drew.setRow g c1) c1 (setRow_heap _ g cur _ 55 _ hg) hc1s hc1t ((KeptBut.refl _ w).drew.trans (KeptBut.setRow (by simp) _))
    clear hfin hc1t
    go_enter Tryz.func111, Tryz.ntmps111
    go_wp2
    go_region_law (refine Zdk rfl _ _ 23 23 rfl _ _ (by simp [Act.eval, Act.put]) (by simp [Act.eval, Act.put]) (hap w.drew ⟨g, j * 4, none⟩ (n - j) (cap - j) 23 rfl rfl (Or.inr rfl)) ?_)
    go_wp2_with (at_builtin; refine Zal rfl _ 23 rfl _ rfl (hcl _) ?_)
    go_ret
    exact ⟨rfl, hpost⟩
theorem inf53 : (Tryz.prog.info? 53).map (·.size) = some 2 := by kernel_rfl
theorem zv53 : ∀ w, (zeroValue 53).run Tryz.prog w = .ok (Value.agg #[.int .i64 0, .bool false]) w := fun w => by kernel_rfl
set_option maxHeartbeats 4000000 in
set_option maxRecDepth 1000000 in
theorem delSame112 : DelSame Tryz.prog 112 := by
  intro a n cap i w hin hn hcm
  go_enter Tryz.func112, Tryz.ntmps112
  go_wp2
  all_goals (go_ret; exact ⟨rfl, .refl _ _⟩)
set_option maxHeartbeats 4000000 in
set_option maxRecDepth 1000000 in
theorem del112 : DelOk Tryz.prog 112 53 2 := by
  intro g n cap i j cur w hg hs hn hcm h1 hij hj
  have hne : ¬ ((i : Int) = (j : Int)) := by omega
  have hb1 : (i : Int) ≤ (j : Int) := by omega
  have hb2 : (j : Int) ≤ (n : Int) := by omega
  have hb3 : (i : Int) ≤ (n : Int) := by omega
  have hb4 : i ≤ cap := by omega
  have hb5 : j ≤ cap := by omega
  obtain ⟨news, hnews⟩ : ∃ news, news = (cur.toList.drop (j * 2)).take ((n - j) * 2) := ⟨_, rfl⟩
  have hnl : news.length = (n - j) * 2 := by rw [hnews]; simp; omega
  have hsrc : ∀ k v, news[k]? = some v → w.cell? ((⟨g, j * 2, none⟩ : Addr).add k) = some v := by
    rw [hnews]; exact ZaO hg (by omega)
  have hone : ∀ v ∈ news, v.oneCell' = true := fun v hv => h1 v (by
    rw [hnews] at hv
    have : (cur.toList.drop (j * 2)).take ((n - j) * 2) = (cur.toList.take (n * 2)).drop (j * 2) := by
      rw [List.drop_take]; congr 1; omega
    rw [this] at hv
    exact List.mem_of_mem_drop hv)
  obtain ⟨c1, hc1⟩ : ∃ c1, c1 = (cur.toList.take (i * 2) ++ news ++ cur.toList.drop (i * 2 + news.length)).toArray := ⟨_, rfl⟩
  have hap : ∀ (W : World) (a : Addr) (m sc : Nat) (ty : TypeId), W.heap[g]? = w.heap[g]? → m = n - j → (m = 0 ∨ a = ⟨g, j * 2, none⟩) →
      (Builtin.append_ #[25, 25] ty #[.slice (some ⟨g, 0, none⟩) i cap, .slice (some a) m sc]).run Tryz.prog W = .ok (.slice (some ⟨g, 0, none⟩) (i + m) cap) (W.setRow g c1) := by
    intro W a m sc ty hW hm ha
    rw [hm] at ha ⊢
    have hst := run_storeCells_at Tryz.prog g (i * 2) 53 news 0 cur W (hW.trans hg) (by rw [hnl]; omega) hone
    simp only [Nat.add_zero] at hst
    rw [← hc1] at hst
    have hfc : (Builtin.firstCells 2 (n - j) (.slice (some a) (n - j) sc)).run Tryz.prog W = .ok news.toArray W := by
      refine run_firstCells_some (P := Tryz.prog) W 2 (n - j) a (n - j) sc news hnl fun k v hk => ?_
      rcases ha with h | rfl
      · have := (List.getElem?_eq_some_iff.1 hk).1
        rw [hnl] at this; omega
      · have := hsrc k v hk
        rw [← this]
        simp [World.cell?, hW, Addr.add_none]
    have hr : i + (n - j) ≤ cap := by omega
    cases hq : Tryz.prog.info? 53 with
    | none => have := inf53; rw [hq] at this; simp at this
    | some i0 =>
      have hi : i0.size = 2 := by have := inf53; rw [hq] at this; simpa using this
      simp [Builtin.append_, run_underlying Tryz.underlying25, sizeOf, typeInfo, hq, hi, Builtin.lenOf, hr, hfc, Addr.add_none, hst]
  have hc1s : c1.size = cap * 2 := by rw [hc1]; simp; omega
  have hc1t : c1.toList.take ((i + (n - j)) * 2) = (cur.toList.take (n * 2)).take (i * 2) ++ (cur.toList.take (n * 2)).drop (j * 2) := by
    rw [hc1]
    simp only [List.append_assoc]
    rw [← List.append_assoc, show (i + (n - j)) * 2 = (cur.toList.take (i * 2) ++ news).length from by simp [hnl]; omega, List.take_left, hnews, List.take_take, Nat.min_eq_left (by omega), List.drop_take]
    congr 2
    omega
  have hsub : n - (j - i) = i + (n - j) := by omega
  have hz : (Value.agg #[.int .i64 0, .bool false]).cells.size = 2 := rfl
  have hz1 : ∀ v ∈ (Value.agg #[.int .i64 0, .bool false]).cells, v.oneCell' = true := by decide
  rw [hsub]
  have hcn : ¬ (cap = i + (n - j)) := by omega
  have hlt : ((i + (n - j) : Nat) : Int) ≤ (n : Int) := by omega
  have hfin : ∀ (W1 : World) (d : Array Value), W1.heap[g]? = some (.cells d 53 (0, 0)) → d.size = cap * 2 → d.toList.take ((i + (n - j)) * 2) = (cur.toList.take (n * 2)).take (i * 2) ++ (cur.toList.take (n * 2)).drop (j * 2) → KeptBut [g] w W1 →
      ∃ W2, (∀ sc, (Builtin.clear_ #[25] 0 #[.slice (some ⟨g, (i + (n - j)) * 2, none⟩) (n - (i + (n - j))) sc]).run Tryz.prog W1 = .ok (.tuple #[]) W2) ∧
        ∃ cur' : Array Value, W2.heap[g]? = some (.cells cur' 53 (0, 0)) ∧ cur'.size = cap * 2 ∧ cur'.toList.take ((i + (n - j)) * 2) = (cur.toList.take (n * 2)).take (i * 2) ++ (cur.toList.take (n * 2)).drop (j * 2) ∧ KeptBut [g] w W2 := by
    intro W1 d e1 e2 e3 e4
    obtain ⟨tl, t1, t2⟩ := ZdR (P := Tryz.prog) W1 25 53 0 _ 2 Tryz.underlying25 zv53 hz hz1 (by omega) g ((i + (n - j)) * 2) (n - (i + (n - j))) (by omega) d 53 e1 (by omega)
    refine ⟨W1.setRow g (d.toList.take ((i + (n - j)) * 2) ++ tl ++ d.toList.drop ((i + (n - j)) * 2 + tl.length)).toArray, t2, (d.toList.take ((i + (n - j)) * 2) ++ tl ++ d.toList.drop ((i + (n - j)) * 2 + tl.length)).toArray, setRow_heap W1 g d _ 53 _ e1, ?_, ?_, e4.trans (KeptBut.setRow (by simp) _)⟩
    · simp; omega
    · rw [← e3, List.append_assoc]
      simp only
      rw [show (i + (n - j)) * 2 = (d.toList.take ((i + (n - j)) * 2)).length from by simp; omega]
      simp
  clear hc1 hnews hz hz1 hnl hsrc hone h1
  by_cases hjn : j = n
  · have hk : cur.toList.take ((i + (n - j)) * 2) = (cur.toList.take (n * 2)).take (i * 2) ++ (cur.toList.take (n * 2)).drop (j * 2) := by
      subst hjn
      rw [Nat.sub_self, Nat.add_zero, List.take_take, Nat.min_eq_left (by omega), List.drop_of_length_le (by simp; omega), List.append_nil]
    obtain ⟨W2, hcl, hpost⟩ := hfin w.drew cur hg hs hk (KeptBut.refl _ w).drew
    have e0 : i + (n - j) = i := by omega
    rw [e0] at hcl hpost hcn ⊢
    clear hfin hc1t hap hk hsub hlt e0
    subst hjn
    by_cases hcj : cap = j
    · subst hcj
      go_enter Tryz.func112, Tryz.ntmps112
      go_wp2
      go_region
      go_wp2_with (at_builtin; refine Zal rfl _ 25 rfl _ rfl (hcl _) ?_)
      go_ret
      exact ⟨rfl, hpost⟩
    · go_enter Tryz.func112, Tryz.ntmps112
      go_wp2
      go_region
      go_wp2_with (at_builtin; refine Zal rfl _ 25 rfl _ rfl (hcl _) ?_)
      go_ret
      exact ⟨rfl, hpost⟩
  · have hcj : ¬ (cap = j) := by omega
    obtain ⟨W2, hcl, hpost⟩ := hfin (w.drew.setRow g c1) c1 (setRow_heap _ g cur _ 53 _ hg) hc1s hc1t ((KeptBut.refl _ w).drew.trans (KeptBut.setRow (by simp) _))
    clear hfin hc1t
    go_enter Tryz.func112, Tryz.ntmps112
    go_wp2
    go_region_law (refine Zdk rfl _ _ 25 25 rfl _ _ (by simp [Act.eval, Act.put]) (by simp [Act.eval, Act.put]) (hap w.drew ⟨g, j * 2, none⟩ (n - j) (cap - j) 25 rfl rfl (Or.inr rfl)) ?_)
    go_wp2_with (at_builtin; refine Zal rfl _ 25 rfl _ rfl (hcl _) ?_)
    go_ret
    exact ⟨rfl, hpost⟩
theorem inf57 : (Tryz.prog.info? 57).map (·.size) = some 4 := by kernel_rfl
theorem sz57 : ∀ w, (Go.sizeOf 57).run Tryz.prog w = .ok 4 w := fun w => by kernel_rfl
theorem info57 : (Tryz.prog.info? 57).map (fun i => (i.zero, i.size, i.bytes)) = some (some (Value.agg #[.int .i64 0, .int .i64 0, .int .i64 0, .int .i64 0]), 4, 32) := by kernel_rfl
set_option maxHeartbeats 4000000 in
set_option maxRecDepth 1000000 in
theorem ins70_room (w : World) (g n cap i h caph : Nat) (cur curh : Array Value) (hg : w.heap[g]? = some (.cells cur 57 (0, 0))) (hs : cur.size = cap * 4) (hcm : cap ≤ maxLen) (h1 : OneL (cur.toList.take (n * 4)))
    (hh : w.heap[h]? = some (.cells curh 57 (0, 0))) (hhs : curh.size = caph * 4) (hc1 : 1 ≤ caph) (hne : h ≠ g) (h1h : OneL (curh.toList.take 4)) (hi : i < n) (hroom : n + 1 ≤ cap) :
    Calls Tryz.prog 70 #[.slice (some ⟨g, 0, none⟩) n cap, .int .i64 i, .slice (some ⟨h, 0, none⟩) 1 caph] w fun e w' => e = .returned (.slice (some ⟨g, 0, none⟩) (n + 1) cap) ∧
      ∃ cur' : Array Value, w'.heap[g]? = some (.cells cur' 57 (0, 0)) ∧ cur'.size = cap * 4 ∧ cur'.toList.take ((n + 1) * 4) = (cur.toList.take (n * 4)).take (i * 4) ++ curh.toList.take 4 ++ (cur.toList.take (n * 4)).drop (i * 4) ∧ KeptBut [g] w w' := by
  have hcmx : cap ≤ 9223372036854775807 := hcm
  have hz2 : ¬ ((i : Int) = (n : Int)) := by omega
  have hov : ∀ lb cb, (callFunc 92 #[.slice (some ⟨h, 0, none⟩) 1 caph, .slice (some ⟨g, (i + 1) * 4, none⟩) lb cb]).run Tryz.prog w = .ok (.value (.bool false)) w := fun lb cb => by
    rw [run_callFunc_extern Tryz.func92 (by kernel_rfl) (by kernel_rfl) (by kernel_rfl) (e := Extern.SlicesOverlaps.overlaps #[26, 26] #[4]) (by kernel_rfl),
      Lib.run_overlaps_apart w 26 4 57 Tryz.underlying26 4 sz57 ⟨h, 0, none⟩ ⟨g, (i + 1) * 4, none⟩ 1 caph lb cb hne 57 57 curh.size cur.size (by simp [World.shape?, hh]) (by simp [World.shape?, hg]) (by omega) (by simp [World.frozen?, hh]) (by simp [World.frozen?, hh])]
    rfl
  obtain ⟨tl, htl⟩ : ∃ tl, tl = (cur.toList.drop (i * 4)).take ((n - i) * 4) := ⟨_, rfl⟩
  have htll : tl.length = (n - i) * 4 := by rw [htl]; simp; omega
  have htl1 : ∀ v ∈ tl, v.oneCell' = true := fun v hv => h1 v (by
    rw [htl, show (cur.toList.drop (i * 4)).take ((n - i) * 4) = (cur.toList.take (n * 4)).drop (i * 4) from by rw [List.drop_take]; congr 1; omega] at hv
    exact List.mem_of_mem_drop hv)
  obtain ⟨c1, hc1'⟩ : ∃ c1, c1 = (cur.toList.take ((i + 1) * 4) ++ tl ++ cur.toList.drop ((i + 1) * 4 + tl.length)).toArray := ⟨_, rfl⟩
  have hc1s : c1.size = cap * 4 := by rw [hc1']; simp; omega
  have hcp1 : ∀ ty dc sc, (Builtin.copy_ #[26, 26] ty #[.slice (some ⟨g, (i + 1) * 4, none⟩) (n + 1 - (i + 1)) dc, .slice (some ⟨g, i * 4, none⟩) (n + 1 - i) sc]).run Tryz.prog w.drew = .ok (goInt (Nat.min (n + 1 - i) (n + 1 - (i + 1)))) (w.drew.setRow g c1) := fun ty dc sc => by
    rw [hc1']
    exact Zcf w.drew 26 26 ty 57 4 g ((i + 1) * 4) (n + 1 - (i + 1)) dc ⟨g, i * 4, none⟩ (n + 1 - i) sc cur 57 tl Tryz.underlying26 inf57 hg (by rw [htll]; simp only [Nat.min_def]; split <;> omega) (by rw [htl]; exact ZaO (w := w.drew) hg (by omega)) (by rw [htll]; omega) htl1
  obtain ⟨W1, hW1⟩ : ∃ W1, W1 = w.drew.setRow g c1 := ⟨_, rfl⟩
  rw [← hW1] at hcp1
  have hg1 : W1.heap[g]? = some (.cells c1 57 (0, 0)) := by rw [hW1]; exact setRow_heap _ g cur _ 57 _ hg
  have hh1 : W1.heap[h]? = some (.cells curh 57 (0, 0)) := by
    rw [hW1, ← hh]
    exact (KeptBut.setRow (w := w.drew) (F := [g]) (by simp) c1).block h (by have := (Array.getElem?_eq_some_iff.1 hh).1; exact this) (by simp [hne])
  obtain ⟨c2, hc2⟩ : ∃ c2, c2 = (c1.toList.take (i * 4) ++ curh.toList.take 4 ++ c1.toList.drop (i * 4 + (curh.toList.take 4).length)).toArray := ⟨_, rfl⟩
  have hyl : (curh.toList.take 4).length = 4 := by simp; omega
  have hcp2 : ∀ ty dc, (Builtin.copy_ #[26, 26] ty #[.slice (some ⟨g, i * 4, none⟩) (n + 1 - i) dc, .slice (some ⟨h, 0, none⟩) 1 caph]).run Tryz.prog W1 = .ok (goInt (Nat.min 1 (n + 1 - i))) (W1.setRow g c2) := fun ty dc => by
    rw [hc2]
    exact Zcf W1 26 26 ty 57 4 g (i * 4) (n + 1 - i) dc ⟨h, 0, none⟩ 1 caph c1 57 (curh.toList.take 4) Tryz.underlying26 inf57 hg1 (by rw [hyl]; simp only [Nat.min_def]; split <;> omega) (by have := ZaO (o := 0) (m := 4) hh1 (by omega); simpa using this) (by rw [hyl]; omega) h1h
  have hpost : ∃ cur' : Array Value, (W1.setRow g c2).heap[g]? = some (.cells cur' 57 (0, 0)) ∧ cur'.size = cap * 4 ∧ cur'.toList.take ((n + 1) * 4) = (cur.toList.take (n * 4)).take (i * 4) ++ curh.toList.take 4 ++ (cur.toList.take (n * 4)).drop (i * 4) ∧ KeptBut [g] w (W1.setRow g c2) := by
    refine ⟨c2, setRow_heap W1 g c1 _ 57 _ hg1, ?_, ?_, ?_⟩
    · rw [hc2]; simp; omega
    · have q := ins_list (cur := cur.toList) (y := curh.toList.take 4) (tl := tl) (c1 := c1.toList) (c2 := c2.toList) (a := i * 4) (s := 4) (by simp; omega) hyl (by rw [hc1', show i * 4 + 4 = (i + 1) * 4 from by omega]) (by rw [hc2, hyl])
      rw [show (n + 1) * 4 = i * 4 + 4 + tl.length from by rw [htll]; omega, q, htl, show (n - i) * 4 = n * 4 - i * 4 from by omega, mid_eq, List.take_take, Nat.min_eq_left (by omega)]
    · rw [hW1]; exact ((KeptBut.refl _ w).drew.trans (KeptBut.setRow (by simp) _)).trans (KeptBut.setRow (by simp) _)
  have hw1 : IntKind.i64.wrap ((i : Int) + 1) = (i : Int) + 1 := by rw [IntKind.wrap_i64]; omega
  have hw2 : IntKind.i64.wrap ((n : Int) + 1) = (n : Int) + 1 := by rw [IntKind.wrap_i64]; omega
  have hb1 : ¬ ((cap : Int) < (n : Int) + 1) := by omega
  have hb2 : ¬ (cap = i + 1) := by omega
  have hb3 : (i : Int) ≤ (n : Int) := by omega
  have hb4 : ¬ (cap = i) := by omega
  have hb5 : (i : Int) ≤ (n : Int) + 1 := by omega
  have hb6 : (i : Int) + 1 ≤ (n : Int) + 1 := by omega
  have hb7 : (n : Int) + 1 ≤ (cap : Int) := by omega
  have hb8 : (0 : Int) ≤ (i : Int) + 1 := by omega
  have hb9 : (0 : Int) ≤ (n : Int) + 1 := by omega
  have ht1 : ((i : Int) + 1).toNat = i + 1 := by omega
  have ht2 : ((n : Int) + 1).toNat = n + 1 := by omega
  clear hc2 hW1 hc1' htl h1 h1h
  go_enter Tryz.func70, Tryz.ntmps70
  go_wp2_with (simp only [hov])
  go_region_law (refine ZdS rfl _ _ 26 26 rfl (.slice (some ⟨g, (i + 1) * 4, none⟩) (n + 1 - (i + 1)) (cap - (i + 1))) (.slice (some ⟨g, i * 4, none⟩) (n + 1 - i) (cap - i)) (by simp [Act.eval, Act.put]) (by simp [Act.eval, Act.put]) (hcp1 _ _ _) ?_)
  go_wp2_with (at_builtin; refine Zdj rfl _ _ 26 26 rfl _ _ rfl rfl (hcp2 _ _) ?_)
  go_ret
  exact ⟨rfl, hpost⟩
set_option maxHeartbeats 4000000 in
set_option maxRecDepth 1000000 in
theorem ins70_grow (w : World) (g n cap i h caph : Nat) (cur curh : Array Value) (hg : w.heap[g]? = some (.cells cur 57 (0, 0))) (hs : cur.size = cap * 4) (hcm : cap ≤ maxLen) (h1 : OneL (cur.toList.take (n * 4)))
    (hh : w.heap[h]? = some (.cells curh 57 (0, 0))) (hhs : curh.size = caph * 4) (hc1 : 1 ≤ caph) (h1h : OneL (curh.toList.take 4)) (hi : i < n) (hn : n ≤ cap) (hroom : cap < n + 1) (hbig : (n + 1) * 32 ≤ 140737488355328) :
    Calls Tryz.prog 70 #[.slice (some ⟨g, 0, none⟩) n cap, .int .i64 i, .slice (some ⟨h, 0, none⟩) 1 caph] w fun e w' => ∃ cap', e = .returned (.slice (some ⟨w.heap.size, 0, none⟩) (n + 1) cap') ∧ n + 1 ≤ cap' ∧ cap' ≤ maxLen ∧
      ∃ cur' : Array Value, w'.heap[w.heap.size]? = some (.cells cur' 57 (0, 0)) ∧ cur'.size = cap' * 4 ∧ cur'.toList.take ((n + 1) * 4) = (cur.toList.take (n * 4)).take (i * 4) ++ curh.toList.take 4 ++ (cur.toList.take (n * 4)).drop (i * 4) ∧ KeptBut [] w w' := by
  have hcmx : cap ≤ 9223372036854775807 := hcm
  have hz2 : ¬ ((i : Int) = (n : Int)) := by omega
  have hgw : g < w.heap.size := (Array.getElem?_eq_some_iff.1 hg).1
  have hhw : h < w.heap.size := (Array.getElem?_eq_some_iff.1 hh).1
  obtain ⟨i0, hi0, hz0, hzs, hzb⟩ := info_parts info57
  have hkk : (n : Int) + 1 - (i : Int) = ((n + 1 - i : Nat) : Int) := by omega
  have hik : i + (n + 1 - i) = n + 1 := by omega
  obtain ⟨olds, hol⟩ : ∃ olds, olds = cur.toList.take (i * 4) := ⟨_, rfl⟩
  have holl : olds.length = i * 4 := by rw [hol]; simp; omega
  have hold : (Builtin.firstCells i0.size i (.slice (some ⟨g, 0, none⟩) i cap)).run Tryz.prog w.drew = .ok olds.toArray w.drew := by
    rw [hzs]
    refine run_firstCells_some w.drew 4 i ⟨g, 0, none⟩ i cap olds holl fun j v hj => ?_
    have := ZaO (o := 0) (m := i * 4) (w := w.drew) hg (by omega) j v (by rw [List.drop_zero, ← hol]; exact hj)
    exact this
  obtain ⟨G, hG⟩ : ∃ G, G = grownCap w (n + 1) cap 57 := ⟨_, rfl⟩
  obtain ⟨ROW, hROW⟩ : ∃ ROW : Array Value, ROW = olds.toArray ++ Builtin.zeroCells (Value.agg #[.int .i64 0, .int .i64 0, .int .i64 0, .int .i64 0]).cells (n + 1 - i) ++ Builtin.zeroCells (Value.agg #[.int .i64 0, .int .i64 0, .int .i64 0, .int .i64 0]).cells (G - (n + 1)) := ⟨_, rfl⟩
  have hrz : ∀ ty, (Builtin.append_ #[26, 3] ty #[.slice (some ⟨g, 0, none⟩) i cap, .int .i64 ((n : Int) + 1 - (i : Int))]).run Tryz.prog w =
      .ok (.slice (some ⟨w.heap.size, 0, none⟩) (n + 1) G) (w.drew.alloc (.cells ROW 57)) := fun ty => by
    have h := Lib.run_append_grow_zeros w 26 3 ty 57 i0 _ .i64 .i64 Tryz.underlying26 Tryz.underlying3 hi0 hz0 (some ⟨g, 0, none⟩) i cap olds hold (n + 1 - i) (by omega) (by omega) (by omega) (by omega) (by rw [hzb]; omega) (by rw [hzb, hik]; exact growslice_fits hroom hbig)
    rw [hik, ← hG, ← hROW] at h
    rw [hkk]
    exact h
  have hGn : n + 1 ≤ G := by rw [hG]; exact grownCap_ge w _ _ _
  have hGm : G ≤ maxLen := by rw [hG]; exact grownCap_le_maxLen w (n + 1) cap 57 (by unfold maxLen; omega)
  have hG63 : G ≤ 9223372036854775807 := hGm
  have hRs : ROW.size = G * 4 := by
    rw [hROW]; simp only [Array.size_append, List.size_toArray, size_zeroCells, holl]
    rw [show (Value.agg #[.int .i64 0, .int .i64 0, .int .i64 0, .int .i64 0]).cells.size = 4 from rfl]; omega
  obtain ⟨W1, hW1⟩ : ∃ W1, W1 = w.drew.alloc (.cells ROW 57) := ⟨_, rfl⟩
  rw [← hW1] at hrz
  have hN1 : W1.heap[w.heap.size]? = some (.cells ROW 57 (0, 0)) := by rw [hW1]; exact heap_alloc_new w.drew _
  have hk1 : KeptBut [] w W1 := by rw [hW1]; exact (KeptBut.refl _ w).drew.alloc _
  have hyl : (curh.toList.take 4).length = 4 := by simp; omega
  obtain ⟨c2, hc2⟩ : ∃ c2, c2 = (ROW.toList.take (i * 4) ++ curh.toList.take 4 ++ ROW.toList.drop (i * 4 + (curh.toList.take 4).length)).toArray := ⟨_, rfl⟩
  have hc2s : c2.size = G * 4 := by rw [hc2]; simp; omega
  have hcpA : ∀ (W : World), W.heap = W1.heap → ∀ ty dc, (Builtin.copy_ #[26, 26] ty #[.slice (some ⟨w.heap.size, i * 4, none⟩) (n + 1 - i) dc, .slice (some ⟨h, 0, none⟩) 1 caph]).run Tryz.prog W = .ok (goInt (Nat.min 1 (n + 1 - i))) (W.setRow w.heap.size c2) := fun W hW ty dc => by
    rw [hc2]
    exact Zcf W 26 26 ty 57 4 w.heap.size (i * 4) (n + 1 - i) dc ⟨h, 0, none⟩ 1 caph ROW 57 (curh.toList.take 4) Tryz.underlying26 inf57 (by rw [hW]; exact hN1) (by rw [hyl]; simp only [Nat.min_def]; split <;> omega)
      (by have := ZaO (w := W) (o := 0) (m := 4) (cur := curh) (T := 57) (g := h) (by rw [hW, hk1.block h hhw (by simp)]; exact hh) (by omega); simpa using this) (by rw [hyl]; omega) h1h
  obtain ⟨tl, htl⟩ : ∃ tl, tl = (cur.toList.drop (i * 4)).take ((n - i) * 4) := ⟨_, rfl⟩
  have htll : tl.length = (n - i) * 4 := by rw [htl]; simp; omega
  have htl1 : ∀ v ∈ tl, v.oneCell' = true := fun v hv => h1 v (by
    rw [htl, show (cur.toList.drop (i * 4)).take ((n - i) * 4) = (cur.toList.take (n * 4)).drop (i * 4) from by rw [List.drop_take]; congr 1; omega] at hv
    exact List.mem_of_mem_drop hv)
  obtain ⟨W2, hW2⟩ : ∃ W2, W2 = W1.setRow w.heap.size c2 := ⟨_, rfl⟩
  have hN2 : W2.heap[w.heap.size]? = some (.cells c2 57 (0, 0)) := by rw [hW2]; exact setRow_heap _ _ ROW _ 57 _ hN1
  have hk2 : KeptBut [w.heap.size] w W2 := by rw [hW2]; exact (hk1.mono (by simp)).trans (KeptBut.setRow (by simp) _)
  obtain ⟨c3, hc3⟩ : ∃ c3, c3 = (c2.toList.take ((i + 1) * 4) ++ tl ++ c2.toList.drop ((i + 1) * 4 + tl.length)).toArray := ⟨_, rfl⟩
  have hcpB : ∀ (W : World), W.heap = W2.heap → ∀ ty dc sc, (Builtin.copy_ #[26, 26] ty #[.slice (some ⟨w.heap.size, (i + 1) * 4, none⟩) (n + 1 - (i + 1)) dc, .slice (some ⟨g, i * 4, none⟩) (n - i) sc]).run Tryz.prog W = .ok (goInt (Nat.min (n - i) (n + 1 - (i + 1)))) (W.setRow w.heap.size c3) := fun W hW ty dc sc => by
    rw [hc3]
    exact Zcf W 26 26 ty 57 4 w.heap.size ((i + 1) * 4) (n + 1 - (i + 1)) dc ⟨g, i * 4, none⟩ (n - i) sc c2 57 tl Tryz.underlying26 inf57 (by rw [hW]; exact hN2) (by rw [htll]; simp only [Nat.min_def]; split <;> omega)
      (by rw [htl]; exact ZaO (w := W) (T := 57) (by rw [hW, hk2.block g hgw (by simp; omega)]; exact hg) (by omega)) (by rw [htll]; omega) htl1
  have hpost : ∀ W, W.heap = W2.heap → KeptBut [w.heap.size] w W → ∃ cur' : Array Value, (W.setRow w.heap.size c3).heap[w.heap.size]? = some (.cells cur' 57 (0, 0)) ∧ cur'.size = G * 4 ∧ cur'.toList.take ((n + 1) * 4) = (cur.toList.take (n * 4)).take (i * 4) ++ curh.toList.take 4 ++ (cur.toList.take (n * 4)).drop (i * 4) ∧ KeptBut [] w (W.setRow w.heap.size c3) := by
    intro W hW hk
    refine ⟨c3, setRow_heap W _ c2 _ 57 _ (by rw [hW]; exact hN2), ?_, ?_, (hk.trans (KeptBut.setRow (by simp) _)).fresh (by simp)⟩
    · rw [hc3]; simp; omega
    · have q := ins_list2 (row := ROW.toList) (y := curh.toList.take 4) (tl := tl) (c2 := c2.toList) (c3 := c3.toList) (a := i * 4) (s := 4) (by simp; omega) hyl (by rw [hc2, hyl]) (by rw [hc3, show i * 4 + 4 = (i + 1) * 4 from by omega])
      rw [show (n + 1) * 4 = i * 4 + 4 + tl.length from by rw [htll]; omega, q, htl, show (n - i) * 4 = n * 4 - i * 4 from by omega, mid_eq, List.take_take, Nat.min_eq_left (by omega), hROW]
      congr 2
      simp only [Array.toList_append, List.append_assoc]
      exact (List.take_left' holl).trans hol
  have hw1 : IntKind.i64.wrap ((i : Int) + 1) = (i : Int) + 1 := by rw [IntKind.wrap_i64]; omega
  have hw2 : IntKind.i64.wrap ((n : Int) + 1) = (n : Int) + 1 := by rw [IntKind.wrap_i64]; omega
  have hw3 : IntKind.i64.wrap ((n : Int) + 1 - (i : Int)) = (n : Int) + 1 - (i : Int) := by rw [IntKind.wrap_i64]; omega
  have hz3 : (cap : Int) < (n : Int) + 1 := by omega
  have hGi : ¬ (G = i) := by omega
  have hGi1 : ¬ (G = i + 1) := by omega
  have hci : ¬ (cap = i) := by omega
  have hb3 : (i : Int) ≤ (n : Int) := by omega
  have hb5 : (i : Int) ≤ (n : Int) + 1 := by omega
  have hb6 : (i : Int) + 1 ≤ (n : Int) + 1 := by omega
  have hb8 : (0 : Int) ≤ (i : Int) + 1 := by omega
  have ht1 : ((i : Int) + 1).toNat = i + 1 := by omega
  have hb9 : i ≤ cap := by omega
  have hb10 : (i : Int) ≤ (cap : Int) := by omega
  clear hkk hik hold hROW hG hc2 hc3 htl hol h1 h1h
  go_enter Tryz.func70, Tryz.ntmps70
  go_wp2_with (first
    | (at_builtin; refine Lib.wpList_append_run _ rfl _ _ _ _ rfl _ _ rfl rfl _ _ (hrz _) ?_)
    | (at_builtin; refine Zdj rfl _ _ 26 26 rfl _ _ rfl rfl (hcpA _ rfl _ _) ?_))
  go_region_law (refine ZdS rfl _ _ 26 26 rfl (.slice (some ⟨w.heap.size, (i + 1) * 4, none⟩) (n + 1 - (i + 1)) (G - (i + 1))) (.slice (some ⟨g, i * 4, none⟩) (n - i) (cap - i)) (by simp [Act.eval, Act.put]) (by simp [Act.eval, Act.put]) (hcpB _ (by rw [hW2, hW1]; rfl) _ _ _) ?_)
  go_wp2
  go_ret
  exact ⟨G, rfl, hGn, hGm, hpost _ (by rw [hW2, hW1]; rfl) (by rw [hW2, hW1] at hk2; exact ⟨hk2.os, hk2.tape, hk2.output, hk2.size, hk2.block⟩)⟩
set_option maxHeartbeats 4000000 in
set_option maxRecDepth 1000000 in
theorem insEnd70 : InsEnd Tryz.prog 70 57 4 32 := by
  intro w v v2 n xs ys hr hr2 h1 hbig h63
  rcases hr2.2 with ⟨a, rfl, h0⟩ | ⟨h, caph, curh, rfl, hch, hh, hn2, hm2, hs2, hx2⟩
  · omega
  obtain ⟨a, cap, rfl, hnc, hcm⟩ := hr.slice
  have hh := hh.zero (show 57 ≠ 5 by decide)
  have hhw : h < w.heap.size := (Array.getElem?_eq_some_iff.1 hh).1
  have hyl : ys.length = 1 * 4 := hr2.1
  obtain ⟨v', w', hrun, k1, k2, k3⟩ := append_run (P := Tryz.prog) (tab := tab) (w := w) (t := 26) (t2 := 26) (e := 57) (ot := 26) Tryz.underlying26 (base.tab 57 _ rfl) (.inl ⟨57, Tryz.underlying26⟩) (n := n) hr (Nat.le_refl n) (xv := .slice (some ⟨h, 0, none⟩) 1 caph) (news := ys) (m := 1) hyl h1
    (fun w' => by simp [Builtin.lenOf]) (fun w' hw' => run_firstCells_some w' 4 1 ⟨h, 0, none⟩ 1 caph ys hyl fun j v hj => by
      have := ZaO (o := 0) (m := 1 * 4) (w := w') (by rw [hw' h hhw]; exact hh) (by omega) j v (by rw [List.drop_zero, hx2]; exact hj)
      exact this) h63 hbig
  have hxl : xs.take (n * 4) = xs := List.take_of_length_le (by rw [hr.1]; exact Nat.le_refl _)
  have k1' : RowIs w' 57 4 (n + 1) v' (xs ++ ys) := by
    have k1 : RowIs w' 57 4 (n + 1) v' (xs.take (n * 4) ++ ys) := k1
    rw [hxl] at k1; exact k1
  clear k1
  cases a with
  | none =>
    go_enter Tryz.func70, Tryz.ntmps70
    go_wp2_with (at_builtin; refine Lib.wpList_append_run _ rfl _ _ _ _ rfl _ _ rfl rfl _ _ hrun ?_)
    all_goals (go_ret; first | exact ⟨v', rfl, k1', k2, k3⟩ | (subst_vars; exact ⟨v', rfl, k1', k2, k3⟩))
  | some a =>
    obtain ⟨ab, ao, asp⟩ := a
    go_enter Tryz.func70, Tryz.ntmps70
    go_wp2_with (at_builtin; refine Lib.wpList_append_run _ rfl _ _ _ _ rfl _ _ rfl rfl _ _ hrun ?_)
    all_goals (go_ret; first | exact ⟨v', rfl, k1', k2, k3⟩ | (subst_vars; exact ⟨v', rfl, k1', k2, k3⟩))
theorem ins70 : InsOk Tryz.prog 70 57 4 32 := ins_ok
  (fun w g n cap i h caph cur curh h1 h2 h3 h4 h5 h6 h7 h8 h9 h10 h11 => ins70_room w g n cap i h caph cur curh h1 h2 h3 h4 h5 h6 h7 h8 h9 h10 h11)
  (fun w g n cap i h caph cur curh h1 h2 h3 h4 h5 h6 h7 h8 h9 h10 h11 h12 => ins70_grow w g n cap i h caph cur curh h1 h2 h3 h4 h5 h6 h7 h8 h9 h10 h11 h12)
  insEnd70
theorem inf176 : (Tryz.prog.info? 176).map (·.size) = some 21 := by kernel_rfl
theorem zv176 : ∀ w, (zeroValue 176).run Tryz.prog w = .ok (Value.agg #[.int .i64 0, .int .i64 0, .int .i64 0, .int .i64 0, .int .i64 0, .int .i64 0, .int .i64 0, .slice none 0 0, .int .i64 0, .bool false, .int .i64 0, .int .i64 0, .int .i64 0, .int .i64 0, .slice none 0 0, .slice none 0 0, .int .i64 0, .int .i64 0, .int .i64 0, .int .i64 0, .int .i64 0]) w := fun w => by kernel_rfl
set_option maxHeartbeats 4000000 in
set_option maxRecDepth 1000000 in
theorem delSame135 : DelSame Tryz.prog 135 := by
  intro a n cap i w hin hn hcm
  go_enter Tryz.func135, Tryz.ntmps135
  go_wp2
  all_goals (go_ret; exact ⟨rfl, .refl _ _⟩)
set_option maxHeartbeats 4000000 in
set_option maxRecDepth 1000000 in
theorem del135 : DelOk Tryz.prog 135 176 21 := by
  intro g n cap i j cur w hg hs hn hcm h1 hij hj
  have hne : ¬ ((i : Int) = (j : Int)) := by omega
  have hb1 : (i : Int) ≤ (j : Int) := by omega
  have hb2 : (j : Int) ≤ (n : Int) := by omega
  have hb3 : (i : Int) ≤ (n : Int) := by omega
  have hb4 : i ≤ cap := by omega
  have hb5 : j ≤ cap := by omega
  obtain ⟨news, hnews⟩ : ∃ news, news = (cur.toList.drop (j * 21)).take ((n - j) * 21) := ⟨_, rfl⟩
  have hnl : news.length = (n - j) * 21 := by rw [hnews]; simp; omega
  have hsrc : ∀ k v, news[k]? = some v → w.cell? ((⟨g, j * 21, none⟩ : Addr).add k) = some v := by
    rw [hnews]; exact ZaO hg (by omega)
  have hone : ∀ v ∈ news, v.oneCell' = true := fun v hv => h1 v (by
    rw [hnews] at hv
    have : (cur.toList.drop (j * 21)).take ((n - j) * 21) = (cur.toList.take (n * 21)).drop (j * 21) := by
      rw [List.drop_take]; congr 1; omega
    rw [this] at hv
    exact List.mem_of_mem_drop hv)
  obtain ⟨c1, hc1⟩ : ∃ c1, c1 = (cur.toList.take (i * 21) ++ news ++ cur.toList.drop (i * 21 + news.length)).toArray := ⟨_, rfl⟩
  have hap : ∀ (W : World) (a : Addr) (m sc : Nat) (ty : TypeId), W.heap[g]? = w.heap[g]? → m = n - j → (m = 0 ∨ a = ⟨g, j * 21, none⟩) →
      (Builtin.append_ #[129, 129] ty #[.slice (some ⟨g, 0, none⟩) i cap, .slice (some a) m sc]).run Tryz.prog W = .ok (.slice (some ⟨g, 0, none⟩) (i + m) cap) (W.setRow g c1) := by
    intro W a m sc ty hW hm ha
    rw [hm] at ha ⊢
    have hst := run_storeCells_at Tryz.prog g (i * 21) 176 news 0 cur W (hW.trans hg) (by rw [hnl]; omega) hone
    simp only [Nat.add_zero] at hst
    rw [← hc1] at hst
    have hfc : (Builtin.firstCells 21 (n - j) (.slice (some a) (n - j) sc)).run Tryz.prog W = .ok news.toArray W := by
      refine run_firstCells_some (P := Tryz.prog) W 21 (n - j) a (n - j) sc news hnl fun k v hk => ?_
      rcases ha with h | rfl
      · have := (List.getElem?_eq_some_iff.1 hk).1
        rw [hnl] at this; omega
      · have := hsrc k v hk
        rw [← this]
        simp [World.cell?, hW, Addr.add_none]
    have hr : i + (n - j) ≤ cap := by omega
    cases hq : Tryz.prog.info? 176 with
    | none => have := inf176; rw [hq] at this; simp at this
    | some i0 =>
      have hi : i0.size = 21 := by have := inf176; rw [hq] at this; simpa using this
      simp [Builtin.append_, run_underlying Tryz.underlying129, sizeOf, typeInfo, hq, hi, Builtin.lenOf, hr, hfc, Addr.add_none, hst]
  have hc1s : c1.size = cap * 21 := by rw [hc1]; simp; omega
  have hc1t : c1.toList.take ((i + (n - j)) * 21) = (cur.toList.take (n * 21)).take (i * 21) ++ (cur.toList.take (n * 21)).drop (j * 21) := by
    rw [hc1]
    simp only [List.append_assoc]
    rw [← List.append_assoc, show (i + (n - j)) * 21 = (cur.toList.take (i * 21) ++ news).length from by simp [hnl]; omega, List.take_left, hnews, List.take_take, Nat.min_eq_left (by omega), List.drop_take]
    congr 2
    omega
  have hsub : n - (j - i) = i + (n - j) := by omega
  have hz : (Value.agg #[.int .i64 0, .int .i64 0, .int .i64 0, .int .i64 0, .int .i64 0, .int .i64 0, .int .i64 0, .slice none 0 0, .int .i64 0, .bool false, .int .i64 0, .int .i64 0, .int .i64 0, .int .i64 0, .slice none 0 0, .slice none 0 0, .int .i64 0, .int .i64 0, .int .i64 0, .int .i64 0, .int .i64 0]).cells.size = 21 := rfl
  have hz1 : ∀ v ∈ (Value.agg #[.int .i64 0, .int .i64 0, .int .i64 0, .int .i64 0, .int .i64 0, .int .i64 0, .int .i64 0, .slice none 0 0, .int .i64 0, .bool false, .int .i64 0, .int .i64 0, .int .i64 0, .int .i64 0, .slice none 0 0, .slice none 0 0, .int .i64 0, .int .i64 0, .int .i64 0, .int .i64 0, .int .i64 0]).cells, v.oneCell' = true := by decide
  rw [hsub]
  have hcn : ¬ (cap = i + (n - j)) := by omega
  have hlt : ((i + (n - j) : Nat) : Int) ≤ (n : Int) := by omega
  have hfin : ∀ (W1 : World) (d : Array Value), W1.heap[g]? = some (.cells d 176 (0, 0)) → d.size = cap * 21 → d.toList.take ((i + (n - j)) * 21) = (cur.toList.take (n * 21)).take (i * 21) ++ (cur.toList.take (n * 21)).drop (j * 21) → KeptBut [g] w W1 →
      ∃ W2, (∀ sc, (Builtin.clear_ #[129] 0 #[.slice (some ⟨g, (i + (n - j)) * 21, none⟩) (n - (i + (n - j))) sc]).run Tryz.prog W1 = .ok (.tuple #[]) W2) ∧
        ∃ cur' : Array Value, W2.heap[g]? = some (.cells cur' 176 (0, 0)) ∧ cur'.size = cap * 21 ∧ cur'.toList.take ((i + (n - j)) * 21) = (cur.toList.take (n * 21)).take (i * 21) ++ (cur.toList.take (n * 21)).drop (j * 21) ∧ KeptBut [g] w W2 := by
    intro W1 d e1 e2 e3 e4
    obtain ⟨tl, t1, t2⟩ := ZdR (P := Tryz.prog) W1 129 176 0 _ 21 Tryz.underlying129 zv176 hz hz1 (by omega) g ((i + (n - j)) * 21) (n - (i + (n - j))) (by omega) d 176 e1 (by omega)
    refine ⟨W1.setRow g (d.toList.take ((i + (n - j)) * 21) ++ tl ++ d.toList.drop ((i + (n - j)) * 21 + tl.length)).toArray, t2, (d.toList.take ((i + (n - j)) * 21) ++ tl ++ d.toList.drop ((i + (n - j)) * 21 + tl.length)).toArray, setRow_heap W1 g d _ 176 _ e1, ?_, ?_, e4.trans (KeptBut.setRow (by simp) _)⟩
    · simp; omega
    · rw [← e3, List.append_assoc]
      simp only
      rw [show (i + (n - j)) * 21 = (d.toList.take ((i + (n - j)) * 21)).length from by simp; omega]
      simp
  clear hc1 hnews hz hz1 hnl hsrc hone h1
  by_cases hjn : j = n
  · have hk : cur.toList.take ((i + (n - j)) * 21) = (cur.toList.take (n * 21)).take (i * 21) ++ (cur.toList.take (n * 21)).drop (j * 21) := by
      subst hjn
      rw [Nat.sub_self, Nat.add_zero, List.take_take, Nat.min_eq_left (by omega), List.drop_of_length_le (by simp; omega), List.append_nil]
    obtain ⟨W2, hcl, hpost⟩ := hfin w.drew cur hg hs hk (KeptBut.refl _ w).drew
    have e0 : i + (n - j) = i := by omega
    rw [e0] at hcl hpost hcn ⊢
    clear hfin hc1t hap hk hsub hlt e0
    subst hjn
    by_cases hcj : cap = j
    · subst hcj
      go_enter Tryz.func135, Tryz.ntmps135
      go_wp2
      go_region
      go_wp2_with (at_builtin; refine Zal rfl _ 129 rfl _ rfl (hcl _) ?_)
      go_ret
      exact ⟨rfl, hpost⟩
    · go_enter Tryz.func135, Tryz.ntmps135
      go_wp2
      go_region
      go_wp2_with (at_builtin; refine Zal rfl _ 129 rfl _ rfl (hcl _) ?_)
      go_ret
      exact ⟨rfl, hpost⟩
  · have hcj : ¬ (cap = j) := by omega
    obtain ⟨W2, hcl, hpost⟩ := hfin (w.drew.setRow g c1) c1 (setRow_heap _ g cur _ 176 _ hg) hc1s hc1t ((KeptBut.refl _ w).drew.trans (KeptBut.setRow (by simp) _))
    clear hfin hc1t
    go_enter Tryz.func135, Tryz.ntmps135
    go_wp2
    go_region_law (refine Zdk rfl _ _ 129 129 rfl _ _ (by simp [Act.eval, Act.put]) (by simp [Act.eval, Act.put]) (hap w.drew ⟨g, j * 21, none⟩ (n - j) (cap - j) 129 rfl rfl (Or.inr rfl)) ?_)
    go_wp2_with (at_builtin; refine Zal rfl _ 129 rfl _ rfl (hcl _) ?_)
    go_ret
    exact ⟨rfl, hpost⟩
def ilA : List Nat := [31, 69, 70, 72, 73, 74, 89, 90, 91, 95, 96, 97, 99, 100, 101, 102, 103, 109, 116, 117, 118, 119, 120, 124, 132, 133, 134, 136, 137, 138, 139, 140, 147, 148, 150, 151, 152, 154]
def flA : List Nat := [11, 13, 20, 29, 30, 32, 33, 34, 35, 36, 37, 46, 55, 56, 58, 59, 60, 61, 62, 63, 64, 65, 66, 67, 68, 71, 75, 76, 77, 81, 82, 83, 84, 85, 86, 87, 88, 93, 94, 98, 104, 105, 106, 110, 111, 112, 113, 114, 115, 121, 122, 123, 125, 130, 131, 141, 142, 143, 144, 145, 146, 149, 153, 155, 156, 157, 158, 159]
def clA : List Nat := [63, 64, 65, 66, 67, 105, 106]
def cnA : Nat → Clear := fun f => bif Nat.beq f 35 then fun k => bif Nat.beq k 11 then some [3, 8, 11, 44, 45, 46] else none else fun _ => none
end Go.Eng.R
