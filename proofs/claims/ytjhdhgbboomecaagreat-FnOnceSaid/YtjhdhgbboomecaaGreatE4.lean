/- An own evaluator of the program's form, proved sound, and what it says of this law's functions: part 4. -/
import Derived.Test.YtjhdhgbboomecaaGreatE3
import Derived.Lib.SlBytesConst
import Derived.Lib.Walk
import Derived.Test.YtjhdhgbboomecaaGreatChecked
import Derived.WalkKit
set_option linter.unusedVariables false
open Go Go.Eng
namespace Go.Eng.R
def Zb7 : Nat → List V → Int → Int → Option (List V × Int)
  | 0, _, _, _ => none
  | k_ + 1, code0, h3, i4 =>
    bif (decide (i4 < ((code0.length : Nat) : Int))) then
      bif (decide (i4 < 4000)) then
        bif (Zm i4 code0.length) then
          Zb7 k_ code0 (bAnd .i64 (IntKind.i64.wrap ((IntKind.i64.wrap ((IntKind.i64.wrap (h3 * 131)) + (IntKind.i64.wrap (gi (rd code0 i4.toNat) 0)))) + 7)) 1073741823) (IntKind.i64.wrap (i4 + 1))
        else none
      else some (code0, h3)
    else some (code0, h3)
def Zek (code : List V) : Option (V) :=
  Option.bind (Zb7 ((((code.length : Nat) : Int) - 0).toNat + 1) code (IntKind.i64.wrap (36565 + ((code.length : Nat) : Int))) 0) fun r1 =>
  some (V.agg [(V.inl Zc r1.1), (V.int .i64 0), (V.int .i64 r1.2)])
def ZbE (c : V) : Option (Int × V) :=
  bif (decide ((gi c 1) < (((gl c 0).length : Nat) : Int))) then
    bif (Zm (gi c 1) ((gl c 0).length)) then
      some ((bAnd .i64 (IntKind.i64.wrap ((bAnd .i64 (bXor .i64 (ZeQ .i64 (IntKind.i64.wrap ((IntKind.i64.wrap ((gi c 2) * 6364136223846793005)) + 1442695040888963407)) 33) (ZeQ .i64 (IntKind.i64.wrap ((IntKind.i64.wrap ((gi c 2) * 6364136223846793005)) + 1442695040888963407)) 45)) 255) + (IntKind.i64.wrap (gi (rd (gl c 0) ((gi c 1).toNat)) 0)))) 255), (V.agg [(V.inl Zc (gl c 0)), (V.int .i64 (IntKind.i64.wrap ((gi c 1) + 1))), (V.int .i64 (IntKind.i64.wrap ((IntKind.i64.wrap ((gi c 2) * 6364136223846793005)) + 1442695040888963407)))]))
    else none
  else some ((bAnd .i64 (bXor .i64 (ZeQ .i64 (IntKind.i64.wrap ((IntKind.i64.wrap ((gi c 2) * 6364136223846793005)) + 1442695040888963407)) 33) (ZeQ .i64 (IntKind.i64.wrap ((IntKind.i64.wrap ((gi c 2) * 6364136223846793005)) + 1442695040888963407)) 45)) 255), (V.agg [(V.inl Zc (gl c 0)), (V.int .i64 (gi c 1)), (V.int .i64 (IntKind.i64.wrap ((IntKind.i64.wrap ((gi c 2) * 6364136223846793005)) + 1442695040888963407)))]))
def Zh (c : V) (n : Int) : Option (Int × V) :=
  bif (decide (n ≤ 0)) then
    some (0, (Zb c))
  else bif (decide (n ≤ 256)) then
    Option.bind (ZbE (Zb c)) fun r3 =>
    bif (!(decide (n = 0))) then
      some ((r3.1.tmod n), (Zb r3.2))
    else none
  else Option.bind (ZbE (Zb c)) fun r4 =>
  Option.bind (ZbE (Zb r4.2)) fun r5 =>
  Option.bind (ZbE (Zb r5.2)) fun r6 =>
  Option.bind (ZbE (Zb r6.2)) fun r7 =>
  bif (!(decide (n = 0))) then
    some (((IntKind.i64.wrap ((IntKind.i64.wrap ((IntKind.i64.wrap ((IntKind.i64.wrap (r4.1 * 16777216)) + (IntKind.i64.wrap (r5.1 * 65536)))) + (IntKind.i64.wrap (r6.1 * 256)))) + r7.1)).tmod n), (Zb r7.2))
  else none
def ZN (c : V) (list : List V) : Option (Int × V) :=
  Option.bind (Zh (Zb c) ((list.length : Nat) : Int)) fun r11 =>
  bif (Zm r11.1 list.length) then
    some ((gi (rd list r11.1.toNat) 0), (Zb r11.2))
  else none
def Zco (c : V) : Option (List V × V) :=
  Option.bind (Zh (Zb c) 5) fun r13 =>
  bif (Zm r13.1 5) then
    some ((gs (rd [(V.str []), (V.str [(V.int .u8 120)]), (V.str [(V.int .u8 121)]), (V.str [(V.int .u8 0), (V.int .u8 255)]), (V.str [(V.int .u8 108), (V.int .u8 111), (V.int .u8 110), (V.int .u8 103), (V.int .u8 32), (V.int .u8 118), (V.int .u8 97), (V.int .u8 108), (V.int .u8 117), (V.int .u8 101)])] (0 + r13.1.toNat)) 0), (Zb r13.2))
  else none
def ZaS (c : V) : Option (List V × V) :=
  Option.bind (Zh (Zb c) 5) fun r15 =>
  bif (Zm r15.1 5) then
    bif (Zw ((gs (rd [(V.str [(V.int .u8 97)]), (V.str [(V.int .u8 98)]), (V.str [(V.int .u8 99)]), (V.str [(V.int .u8 97), (V.int .u8 47), (V.int .u8 98)]), (V.str [(V.int .u8 100)])] (0 + r15.1.toNat)) 0).length) 1) then
      some ((gs (rd [(V.str [(V.int .u8 97)]), (V.str [(V.int .u8 98)]), (V.str [(V.int .u8 99)]), (V.str [(V.int .u8 97), (V.int .u8 47), (V.int .u8 98)]), (V.str [(V.int .u8 100)])] (0 + r15.1.toNat)) 0), (Zb r15.2))
    else none
  else none
def ZfY (c : V) (index : Int) : Option (V × V) :=
  Option.bind (ZN (Zb c) [(V.int .i64 1), (V.int .i64 1), (V.int .i64 1), (V.int .i64 2), (V.int .i64 3), (V.int .i64 3), (V.int .i64 4), (V.int .i64 5), (V.int .i64 6), (V.int .i64 6), (V.int .i64 7), (V.int .i64 0)]) fun r12 =>
  bif (decide (r12.1 = 1)) then
    Option.bind (Zco (Zb r12.2)) fun r14 =>
    bif (!(decide (r12.1 = 0))) then
      bif (!(decide (r12.1 = 4))) then
        bif (!(decide (r12.1 = 5))) then
          Option.bind (ZaS (Zb r14.2)) fun r16 =>
          bif (decide (r12.1 = 4)) then
            Option.bind (Zh (Zb r16.2) 2) fun r17 =>
            some ((V.agg [(V.int .i64 r12.1), (V.inl Zc r16.1), (V.inl Zc r14.1), (V.int .i64 r17.1)]), (Zb r17.2))
          else bif (decide (r12.1 = 2)) then
            Option.bind (Zh (Zb r16.2) (IntKind.i64.wrap (index + 1))) fun r18 =>
            Option.bind (Zh (Zb r18.2) 2) fun r19 =>
            some ((V.agg [(V.int .i64 r12.1), (V.inl Zc r16.1), (V.inl Zc r14.1), (V.int .i64 (IntKind.i64.wrap (r18.1 * r19.1)))]), (Zb r19.2))
          else bif (decide (r12.1 = 5)) then
            Option.bind (Zh (Zb r16.2) 4) fun r20 =>
            bif (decide ((0 : Int) < index)) then
              Option.bind (Zh (Zb r20.2) index) fun r21 =>
              some ((V.agg [(V.int .i64 r12.1), (V.inl Zc r16.1), (V.inl Zc r14.1), (V.int .i64 (IntKind.i64.wrap (1 + r21.1)))]), (Zb r21.2))
            else some ((V.agg [(V.int .i64 r12.1), (V.inl Zc r16.1), (V.inl Zc r14.1), (V.int .i64 (IntKind.i64.wrap (1 + r20.1)))]), (Zb r20.2))
          else bif (decide (r12.1 = 6)) then
            Option.bind (Zh (Zb r16.2) 4) fun r22 =>
            bif (decide ((0 : Int) < index)) then
              Option.bind (Zh (Zb r22.2) index) fun r23 =>
              some ((V.agg [(V.int .i64 r12.1), (V.inl Zc r16.1), (V.inl Zc r14.1), (V.int .i64 (IntKind.i64.wrap (1 + r23.1)))]), (Zb r23.2))
            else some ((V.agg [(V.int .i64 r12.1), (V.inl Zc r16.1), (V.inl Zc r14.1), (V.int .i64 (IntKind.i64.wrap (1 + r22.1)))]), (Zb r22.2))
          else bif (decide (r12.1 = 7)) then
            Option.bind (Zh (Zb r16.2) 4) fun r24 =>
            bif (decide ((0 : Int) < index)) then
              Option.bind (Zh (Zb r24.2) index) fun r25 =>
              some ((V.agg [(V.int .i64 r12.1), (V.inl Zc r16.1), (V.inl Zc r14.1), (V.int .i64 (IntKind.i64.wrap (1 + r25.1)))]), (Zb r25.2))
            else some ((V.agg [(V.int .i64 r12.1), (V.inl Zc r16.1), (V.inl Zc r14.1), (V.int .i64 (IntKind.i64.wrap (1 + r24.1)))]), (Zb r24.2))
          else some ((V.agg [(V.int .i64 r12.1), (V.inl Zc r16.1), (V.inl Zc r14.1), (V.int .i64 0)]), (Zb r16.2))
        else bif (decide (r12.1 = 4)) then
          Option.bind (Zh (Zb r14.2) 2) fun r26 =>
          some ((V.agg [(V.int .i64 r12.1), (V.inl Zc []), (V.inl Zc r14.1), (V.int .i64 r26.1)]), (Zb r26.2))
        else bif (decide (r12.1 = 2)) then
          Option.bind (Zh (Zb r14.2) (IntKind.i64.wrap (index + 1))) fun r27 =>
          Option.bind (Zh (Zb r27.2) 2) fun r28 =>
          some ((V.agg [(V.int .i64 r12.1), (V.inl Zc []), (V.inl Zc r14.1), (V.int .i64 (IntKind.i64.wrap (r27.1 * r28.1)))]), (Zb r28.2))
        else bif (decide (r12.1 = 5)) then
          Option.bind (Zh (Zb r14.2) 4) fun r29 =>
          bif (decide ((0 : Int) < index)) then
            Option.bind (Zh (Zb r29.2) index) fun r30 =>
            some ((V.agg [(V.int .i64 r12.1), (V.inl Zc []), (V.inl Zc r14.1), (V.int .i64 (IntKind.i64.wrap (1 + r30.1)))]), (Zb r30.2))
          else some ((V.agg [(V.int .i64 r12.1), (V.inl Zc []), (V.inl Zc r14.1), (V.int .i64 (IntKind.i64.wrap (1 + r29.1)))]), (Zb r29.2))
        else bif (decide (r12.1 = 6)) then
          Option.bind (Zh (Zb r14.2) 4) fun r31 =>
          bif (decide ((0 : Int) < index)) then
            Option.bind (Zh (Zb r31.2) index) fun r32 =>
            some ((V.agg [(V.int .i64 r12.1), (V.inl Zc []), (V.inl Zc r14.1), (V.int .i64 (IntKind.i64.wrap (1 + r32.1)))]), (Zb r32.2))
          else some ((V.agg [(V.int .i64 r12.1), (V.inl Zc []), (V.inl Zc r14.1), (V.int .i64 (IntKind.i64.wrap (1 + r31.1)))]), (Zb r31.2))
        else bif (decide (r12.1 = 7)) then
          Option.bind (Zh (Zb r14.2) 4) fun r33 =>
          bif (decide ((0 : Int) < index)) then
            Option.bind (Zh (Zb r33.2) index) fun r34 =>
            some ((V.agg [(V.int .i64 r12.1), (V.inl Zc []), (V.inl Zc r14.1), (V.int .i64 (IntKind.i64.wrap (1 + r34.1)))]), (Zb r34.2))
          else some ((V.agg [(V.int .i64 r12.1), (V.inl Zc []), (V.inl Zc r14.1), (V.int .i64 (IntKind.i64.wrap (1 + r33.1)))]), (Zb r33.2))
        else some ((V.agg [(V.int .i64 r12.1), (V.inl Zc []), (V.inl Zc r14.1), (V.int .i64 0)]), (Zb r14.2))
      else bif (decide (r12.1 = 4)) then
        Option.bind (Zh (Zb r14.2) 2) fun r35 =>
        some ((V.agg [(V.int .i64 r12.1), (V.inl Zc []), (V.inl Zc r14.1), (V.int .i64 r35.1)]), (Zb r35.2))
      else bif (decide (r12.1 = 2)) then
        Option.bind (Zh (Zb r14.2) (IntKind.i64.wrap (index + 1))) fun r36 =>
        Option.bind (Zh (Zb r36.2) 2) fun r37 =>
        some ((V.agg [(V.int .i64 r12.1), (V.inl Zc []), (V.inl Zc r14.1), (V.int .i64 (IntKind.i64.wrap (r36.1 * r37.1)))]), (Zb r37.2))
      else bif (decide (r12.1 = 5)) then
        Option.bind (Zh (Zb r14.2) 4) fun r38 =>
        bif (decide ((0 : Int) < index)) then
          Option.bind (Zh (Zb r38.2) index) fun r39 =>
          some ((V.agg [(V.int .i64 r12.1), (V.inl Zc []), (V.inl Zc r14.1), (V.int .i64 (IntKind.i64.wrap (1 + r39.1)))]), (Zb r39.2))
        else some ((V.agg [(V.int .i64 r12.1), (V.inl Zc []), (V.inl Zc r14.1), (V.int .i64 (IntKind.i64.wrap (1 + r38.1)))]), (Zb r38.2))
      else bif (decide (r12.1 = 6)) then
        Option.bind (Zh (Zb r14.2) 4) fun r40 =>
        bif (decide ((0 : Int) < index)) then
          Option.bind (Zh (Zb r40.2) index) fun r41 =>
          some ((V.agg [(V.int .i64 r12.1), (V.inl Zc []), (V.inl Zc r14.1), (V.int .i64 (IntKind.i64.wrap (1 + r41.1)))]), (Zb r41.2))
        else some ((V.agg [(V.int .i64 r12.1), (V.inl Zc []), (V.inl Zc r14.1), (V.int .i64 (IntKind.i64.wrap (1 + r40.1)))]), (Zb r40.2))
      else bif (decide (r12.1 = 7)) then
        Option.bind (Zh (Zb r14.2) 4) fun r42 =>
        bif (decide ((0 : Int) < index)) then
          Option.bind (Zh (Zb r42.2) index) fun r43 =>
          some ((V.agg [(V.int .i64 r12.1), (V.inl Zc []), (V.inl Zc r14.1), (V.int .i64 (IntKind.i64.wrap (1 + r43.1)))]), (Zb r43.2))
        else some ((V.agg [(V.int .i64 r12.1), (V.inl Zc []), (V.inl Zc r14.1), (V.int .i64 (IntKind.i64.wrap (1 + r42.1)))]), (Zb r42.2))
      else some ((V.agg [(V.int .i64 r12.1), (V.inl Zc []), (V.inl Zc r14.1), (V.int .i64 0)]), (Zb r14.2))
    else bif (decide (r12.1 = 4)) then
      Option.bind (Zh (Zb r14.2) 2) fun r44 =>
      some ((V.agg [(V.int .i64 r12.1), (V.inl Zc []), (V.inl Zc r14.1), (V.int .i64 r44.1)]), (Zb r44.2))
    else bif (decide (r12.1 = 2)) then
      Option.bind (Zh (Zb r14.2) (IntKind.i64.wrap (index + 1))) fun r45 =>
      Option.bind (Zh (Zb r45.2) 2) fun r46 =>
      some ((V.agg [(V.int .i64 r12.1), (V.inl Zc []), (V.inl Zc r14.1), (V.int .i64 (IntKind.i64.wrap (r45.1 * r46.1)))]), (Zb r46.2))
    else bif (decide (r12.1 = 5)) then
      Option.bind (Zh (Zb r14.2) 4) fun r47 =>
      bif (decide ((0 : Int) < index)) then
        Option.bind (Zh (Zb r47.2) index) fun r48 =>
        some ((V.agg [(V.int .i64 r12.1), (V.inl Zc []), (V.inl Zc r14.1), (V.int .i64 (IntKind.i64.wrap (1 + r48.1)))]), (Zb r48.2))
      else some ((V.agg [(V.int .i64 r12.1), (V.inl Zc []), (V.inl Zc r14.1), (V.int .i64 (IntKind.i64.wrap (1 + r47.1)))]), (Zb r47.2))
    else bif (decide (r12.1 = 6)) then
      Option.bind (Zh (Zb r14.2) 4) fun r49 =>
      bif (decide ((0 : Int) < index)) then
        Option.bind (Zh (Zb r49.2) index) fun r50 =>
        some ((V.agg [(V.int .i64 r12.1), (V.inl Zc []), (V.inl Zc r14.1), (V.int .i64 (IntKind.i64.wrap (1 + r50.1)))]), (Zb r50.2))
      else some ((V.agg [(V.int .i64 r12.1), (V.inl Zc []), (V.inl Zc r14.1), (V.int .i64 (IntKind.i64.wrap (1 + r49.1)))]), (Zb r49.2))
    else bif (decide (r12.1 = 7)) then
      Option.bind (Zh (Zb r14.2) 4) fun r51 =>
      bif (decide ((0 : Int) < index)) then
        Option.bind (Zh (Zb r51.2) index) fun r52 =>
        some ((V.agg [(V.int .i64 r12.1), (V.inl Zc []), (V.inl Zc r14.1), (V.int .i64 (IntKind.i64.wrap (1 + r52.1)))]), (Zb r52.2))
      else some ((V.agg [(V.int .i64 r12.1), (V.inl Zc []), (V.inl Zc r14.1), (V.int .i64 (IntKind.i64.wrap (1 + r51.1)))]), (Zb r51.2))
    else some ((V.agg [(V.int .i64 r12.1), (V.inl Zc []), (V.inl Zc r14.1), (V.int .i64 0)]), (Zb r14.2))
  else bif (decide (r12.1 = 2)) then
    Option.bind (Zco (Zb r12.2)) fun r53 =>
    bif (!(decide (r12.1 = 0))) then
      bif (!(decide (r12.1 = 4))) then
        bif (!(decide (r12.1 = 5))) then
          Option.bind (ZaS (Zb r53.2)) fun r54 =>
          bif (decide (r12.1 = 4)) then
            Option.bind (Zh (Zb r54.2) 2) fun r55 =>
            some ((V.agg [(V.int .i64 r12.1), (V.inl Zc r54.1), (V.inl Zc r53.1), (V.int .i64 r55.1)]), (Zb r55.2))
          else bif (decide (r12.1 = 2)) then
            Option.bind (Zh (Zb r54.2) (IntKind.i64.wrap (index + 1))) fun r56 =>
            Option.bind (Zh (Zb r56.2) 2) fun r57 =>
            some ((V.agg [(V.int .i64 r12.1), (V.inl Zc r54.1), (V.inl Zc r53.1), (V.int .i64 (IntKind.i64.wrap (r56.1 * r57.1)))]), (Zb r57.2))
          else bif (decide (r12.1 = 5)) then
            Option.bind (Zh (Zb r54.2) 4) fun r58 =>
            bif (decide ((0 : Int) < index)) then
              Option.bind (Zh (Zb r58.2) index) fun r59 =>
              some ((V.agg [(V.int .i64 r12.1), (V.inl Zc r54.1), (V.inl Zc r53.1), (V.int .i64 (IntKind.i64.wrap (1 + r59.1)))]), (Zb r59.2))
            else some ((V.agg [(V.int .i64 r12.1), (V.inl Zc r54.1), (V.inl Zc r53.1), (V.int .i64 (IntKind.i64.wrap (1 + r58.1)))]), (Zb r58.2))
          else bif (decide (r12.1 = 6)) then
            Option.bind (Zh (Zb r54.2) 4) fun r60 =>
            bif (decide ((0 : Int) < index)) then
              Option.bind (Zh (Zb r60.2) index) fun r61 =>
              some ((V.agg [(V.int .i64 r12.1), (V.inl Zc r54.1), (V.inl Zc r53.1), (V.int .i64 (IntKind.i64.wrap (1 + r61.1)))]), (Zb r61.2))
            else some ((V.agg [(V.int .i64 r12.1), (V.inl Zc r54.1), (V.inl Zc r53.1), (V.int .i64 (IntKind.i64.wrap (1 + r60.1)))]), (Zb r60.2))
          else bif (decide (r12.1 = 7)) then
            Option.bind (Zh (Zb r54.2) 4) fun r62 =>
            bif (decide ((0 : Int) < index)) then
              Option.bind (Zh (Zb r62.2) index) fun r63 =>
              some ((V.agg [(V.int .i64 r12.1), (V.inl Zc r54.1), (V.inl Zc r53.1), (V.int .i64 (IntKind.i64.wrap (1 + r63.1)))]), (Zb r63.2))
            else some ((V.agg [(V.int .i64 r12.1), (V.inl Zc r54.1), (V.inl Zc r53.1), (V.int .i64 (IntKind.i64.wrap (1 + r62.1)))]), (Zb r62.2))
          else some ((V.agg [(V.int .i64 r12.1), (V.inl Zc r54.1), (V.inl Zc r53.1), (V.int .i64 0)]), (Zb r54.2))
        else bif (decide (r12.1 = 4)) then
          Option.bind (Zh (Zb r53.2) 2) fun r64 =>
          some ((V.agg [(V.int .i64 r12.1), (V.inl Zc []), (V.inl Zc r53.1), (V.int .i64 r64.1)]), (Zb r64.2))
        else bif (decide (r12.1 = 2)) then
          Option.bind (Zh (Zb r53.2) (IntKind.i64.wrap (index + 1))) fun r65 =>
          Option.bind (Zh (Zb r65.2) 2) fun r66 =>
          some ((V.agg [(V.int .i64 r12.1), (V.inl Zc []), (V.inl Zc r53.1), (V.int .i64 (IntKind.i64.wrap (r65.1 * r66.1)))]), (Zb r66.2))
        else bif (decide (r12.1 = 5)) then
          Option.bind (Zh (Zb r53.2) 4) fun r67 =>
          bif (decide ((0 : Int) < index)) then
            Option.bind (Zh (Zb r67.2) index) fun r68 =>
            some ((V.agg [(V.int .i64 r12.1), (V.inl Zc []), (V.inl Zc r53.1), (V.int .i64 (IntKind.i64.wrap (1 + r68.1)))]), (Zb r68.2))
          else some ((V.agg [(V.int .i64 r12.1), (V.inl Zc []), (V.inl Zc r53.1), (V.int .i64 (IntKind.i64.wrap (1 + r67.1)))]), (Zb r67.2))
        else bif (decide (r12.1 = 6)) then
          Option.bind (Zh (Zb r53.2) 4) fun r69 =>
          bif (decide ((0 : Int) < index)) then
            Option.bind (Zh (Zb r69.2) index) fun r70 =>
            some ((V.agg [(V.int .i64 r12.1), (V.inl Zc []), (V.inl Zc r53.1), (V.int .i64 (IntKind.i64.wrap (1 + r70.1)))]), (Zb r70.2))
          else some ((V.agg [(V.int .i64 r12.1), (V.inl Zc []), (V.inl Zc r53.1), (V.int .i64 (IntKind.i64.wrap (1 + r69.1)))]), (Zb r69.2))
        else bif (decide (r12.1 = 7)) then
          Option.bind (Zh (Zb r53.2) 4) fun r71 =>
          bif (decide ((0 : Int) < index)) then
            Option.bind (Zh (Zb r71.2) index) fun r72 =>
            some ((V.agg [(V.int .i64 r12.1), (V.inl Zc []), (V.inl Zc r53.1), (V.int .i64 (IntKind.i64.wrap (1 + r72.1)))]), (Zb r72.2))
          else some ((V.agg [(V.int .i64 r12.1), (V.inl Zc []), (V.inl Zc r53.1), (V.int .i64 (IntKind.i64.wrap (1 + r71.1)))]), (Zb r71.2))
        else some ((V.agg [(V.int .i64 r12.1), (V.inl Zc []), (V.inl Zc r53.1), (V.int .i64 0)]), (Zb r53.2))
      else bif (decide (r12.1 = 4)) then
        Option.bind (Zh (Zb r53.2) 2) fun r73 =>
        some ((V.agg [(V.int .i64 r12.1), (V.inl Zc []), (V.inl Zc r53.1), (V.int .i64 r73.1)]), (Zb r73.2))
      else bif (decide (r12.1 = 2)) then
        Option.bind (Zh (Zb r53.2) (IntKind.i64.wrap (index + 1))) fun r74 =>
        Option.bind (Zh (Zb r74.2) 2) fun r75 =>
        some ((V.agg [(V.int .i64 r12.1), (V.inl Zc []), (V.inl Zc r53.1), (V.int .i64 (IntKind.i64.wrap (r74.1 * r75.1)))]), (Zb r75.2))
      else bif (decide (r12.1 = 5)) then
        Option.bind (Zh (Zb r53.2) 4) fun r76 =>
        bif (decide ((0 : Int) < index)) then
          Option.bind (Zh (Zb r76.2) index) fun r77 =>
          some ((V.agg [(V.int .i64 r12.1), (V.inl Zc []), (V.inl Zc r53.1), (V.int .i64 (IntKind.i64.wrap (1 + r77.1)))]), (Zb r77.2))
        else some ((V.agg [(V.int .i64 r12.1), (V.inl Zc []), (V.inl Zc r53.1), (V.int .i64 (IntKind.i64.wrap (1 + r76.1)))]), (Zb r76.2))
      else bif (decide (r12.1 = 6)) then
        Option.bind (Zh (Zb r53.2) 4) fun r78 =>
        bif (decide ((0 : Int) < index)) then
          Option.bind (Zh (Zb r78.2) index) fun r79 =>
          some ((V.agg [(V.int .i64 r12.1), (V.inl Zc []), (V.inl Zc r53.1), (V.int .i64 (IntKind.i64.wrap (1 + r79.1)))]), (Zb r79.2))
        else some ((V.agg [(V.int .i64 r12.1), (V.inl Zc []), (V.inl Zc r53.1), (V.int .i64 (IntKind.i64.wrap (1 + r78.1)))]), (Zb r78.2))
      else bif (decide (r12.1 = 7)) then
        Option.bind (Zh (Zb r53.2) 4) fun r80 =>
        bif (decide ((0 : Int) < index)) then
          Option.bind (Zh (Zb r80.2) index) fun r81 =>
          some ((V.agg [(V.int .i64 r12.1), (V.inl Zc []), (V.inl Zc r53.1), (V.int .i64 (IntKind.i64.wrap (1 + r81.1)))]), (Zb r81.2))
        else some ((V.agg [(V.int .i64 r12.1), (V.inl Zc []), (V.inl Zc r53.1), (V.int .i64 (IntKind.i64.wrap (1 + r80.1)))]), (Zb r80.2))
      else some ((V.agg [(V.int .i64 r12.1), (V.inl Zc []), (V.inl Zc r53.1), (V.int .i64 0)]), (Zb r53.2))
    else bif (decide (r12.1 = 4)) then
      Option.bind (Zh (Zb r53.2) 2) fun r82 =>
      some ((V.agg [(V.int .i64 r12.1), (V.inl Zc []), (V.inl Zc r53.1), (V.int .i64 r82.1)]), (Zb r82.2))
    else bif (decide (r12.1 = 2)) then
      Option.bind (Zh (Zb r53.2) (IntKind.i64.wrap (index + 1))) fun r83 =>
      Option.bind (Zh (Zb r83.2) 2) fun r84 =>
      some ((V.agg [(V.int .i64 r12.1), (V.inl Zc []), (V.inl Zc r53.1), (V.int .i64 (IntKind.i64.wrap (r83.1 * r84.1)))]), (Zb r84.2))
    else bif (decide (r12.1 = 5)) then
      Option.bind (Zh (Zb r53.2) 4) fun r85 =>
      bif (decide ((0 : Int) < index)) then
        Option.bind (Zh (Zb r85.2) index) fun r86 =>
        some ((V.agg [(V.int .i64 r12.1), (V.inl Zc []), (V.inl Zc r53.1), (V.int .i64 (IntKind.i64.wrap (1 + r86.1)))]), (Zb r86.2))
      else some ((V.agg [(V.int .i64 r12.1), (V.inl Zc []), (V.inl Zc r53.1), (V.int .i64 (IntKind.i64.wrap (1 + r85.1)))]), (Zb r85.2))
    else bif (decide (r12.1 = 6)) then
      Option.bind (Zh (Zb r53.2) 4) fun r87 =>
      bif (decide ((0 : Int) < index)) then
        Option.bind (Zh (Zb r87.2) index) fun r88 =>
        some ((V.agg [(V.int .i64 r12.1), (V.inl Zc []), (V.inl Zc r53.1), (V.int .i64 (IntKind.i64.wrap (1 + r88.1)))]), (Zb r88.2))
      else some ((V.agg [(V.int .i64 r12.1), (V.inl Zc []), (V.inl Zc r53.1), (V.int .i64 (IntKind.i64.wrap (1 + r87.1)))]), (Zb r87.2))
    else bif (decide (r12.1 = 7)) then
      Option.bind (Zh (Zb r53.2) 4) fun r89 =>
      bif (decide ((0 : Int) < index)) then
        Option.bind (Zh (Zb r89.2) index) fun r90 =>
        some ((V.agg [(V.int .i64 r12.1), (V.inl Zc []), (V.inl Zc r53.1), (V.int .i64 (IntKind.i64.wrap (1 + r90.1)))]), (Zb r90.2))
      else some ((V.agg [(V.int .i64 r12.1), (V.inl Zc []), (V.inl Zc r53.1), (V.int .i64 (IntKind.i64.wrap (1 + r89.1)))]), (Zb r89.2))
    else some ((V.agg [(V.int .i64 r12.1), (V.inl Zc []), (V.inl Zc r53.1), (V.int .i64 0)]), (Zb r53.2))
  else bif (decide (r12.1 = 6)) then
    Option.bind (Zco (Zb r12.2)) fun r91 =>
    bif (!(decide (r12.1 = 0))) then
      bif (!(decide (r12.1 = 4))) then
        bif (!(decide (r12.1 = 5))) then
          Option.bind (ZaS (Zb r91.2)) fun r92 =>
          bif (decide (r12.1 = 4)) then
            Option.bind (Zh (Zb r92.2) 2) fun r93 =>
            some ((V.agg [(V.int .i64 r12.1), (V.inl Zc r92.1), (V.inl Zc r91.1), (V.int .i64 r93.1)]), (Zb r93.2))
          else bif (decide (r12.1 = 2)) then
            Option.bind (Zh (Zb r92.2) (IntKind.i64.wrap (index + 1))) fun r94 =>
            Option.bind (Zh (Zb r94.2) 2) fun r95 =>
            some ((V.agg [(V.int .i64 r12.1), (V.inl Zc r92.1), (V.inl Zc r91.1), (V.int .i64 (IntKind.i64.wrap (r94.1 * r95.1)))]), (Zb r95.2))
          else bif (decide (r12.1 = 5)) then
            Option.bind (Zh (Zb r92.2) 4) fun r96 =>
            bif (decide ((0 : Int) < index)) then
              Option.bind (Zh (Zb r96.2) index) fun r97 =>
              some ((V.agg [(V.int .i64 r12.1), (V.inl Zc r92.1), (V.inl Zc r91.1), (V.int .i64 (IntKind.i64.wrap (1 + r97.1)))]), (Zb r97.2))
            else some ((V.agg [(V.int .i64 r12.1), (V.inl Zc r92.1), (V.inl Zc r91.1), (V.int .i64 (IntKind.i64.wrap (1 + r96.1)))]), (Zb r96.2))
          else bif (decide (r12.1 = 6)) then
            Option.bind (Zh (Zb r92.2) 4) fun r98 =>
            bif (decide ((0 : Int) < index)) then
              Option.bind (Zh (Zb r98.2) index) fun r99 =>
              some ((V.agg [(V.int .i64 r12.1), (V.inl Zc r92.1), (V.inl Zc r91.1), (V.int .i64 (IntKind.i64.wrap (1 + r99.1)))]), (Zb r99.2))
            else some ((V.agg [(V.int .i64 r12.1), (V.inl Zc r92.1), (V.inl Zc r91.1), (V.int .i64 (IntKind.i64.wrap (1 + r98.1)))]), (Zb r98.2))
          else bif (decide (r12.1 = 7)) then
            Option.bind (Zh (Zb r92.2) 4) fun r100 =>
            bif (decide ((0 : Int) < index)) then
              Option.bind (Zh (Zb r100.2) index) fun r101 =>
              some ((V.agg [(V.int .i64 r12.1), (V.inl Zc r92.1), (V.inl Zc r91.1), (V.int .i64 (IntKind.i64.wrap (1 + r101.1)))]), (Zb r101.2))
            else some ((V.agg [(V.int .i64 r12.1), (V.inl Zc r92.1), (V.inl Zc r91.1), (V.int .i64 (IntKind.i64.wrap (1 + r100.1)))]), (Zb r100.2))
          else some ((V.agg [(V.int .i64 r12.1), (V.inl Zc r92.1), (V.inl Zc r91.1), (V.int .i64 0)]), (Zb r92.2))
        else bif (decide (r12.1 = 4)) then
          Option.bind (Zh (Zb r91.2) 2) fun r102 =>
          some ((V.agg [(V.int .i64 r12.1), (V.inl Zc []), (V.inl Zc r91.1), (V.int .i64 r102.1)]), (Zb r102.2))
        else bif (decide (r12.1 = 2)) then
          Option.bind (Zh (Zb r91.2) (IntKind.i64.wrap (index + 1))) fun r103 =>
          Option.bind (Zh (Zb r103.2) 2) fun r104 =>
          some ((V.agg [(V.int .i64 r12.1), (V.inl Zc []), (V.inl Zc r91.1), (V.int .i64 (IntKind.i64.wrap (r103.1 * r104.1)))]), (Zb r104.2))
        else bif (decide (r12.1 = 5)) then
          Option.bind (Zh (Zb r91.2) 4) fun r105 =>
          bif (decide ((0 : Int) < index)) then
            Option.bind (Zh (Zb r105.2) index) fun r106 =>
            some ((V.agg [(V.int .i64 r12.1), (V.inl Zc []), (V.inl Zc r91.1), (V.int .i64 (IntKind.i64.wrap (1 + r106.1)))]), (Zb r106.2))
          else some ((V.agg [(V.int .i64 r12.1), (V.inl Zc []), (V.inl Zc r91.1), (V.int .i64 (IntKind.i64.wrap (1 + r105.1)))]), (Zb r105.2))
        else bif (decide (r12.1 = 6)) then
          Option.bind (Zh (Zb r91.2) 4) fun r107 =>
          bif (decide ((0 : Int) < index)) then
            Option.bind (Zh (Zb r107.2) index) fun r108 =>
            some ((V.agg [(V.int .i64 r12.1), (V.inl Zc []), (V.inl Zc r91.1), (V.int .i64 (IntKind.i64.wrap (1 + r108.1)))]), (Zb r108.2))
          else some ((V.agg [(V.int .i64 r12.1), (V.inl Zc []), (V.inl Zc r91.1), (V.int .i64 (IntKind.i64.wrap (1 + r107.1)))]), (Zb r107.2))
        else bif (decide (r12.1 = 7)) then
          Option.bind (Zh (Zb r91.2) 4) fun r109 =>
          bif (decide ((0 : Int) < index)) then
            Option.bind (Zh (Zb r109.2) index) fun r110 =>
            some ((V.agg [(V.int .i64 r12.1), (V.inl Zc []), (V.inl Zc r91.1), (V.int .i64 (IntKind.i64.wrap (1 + r110.1)))]), (Zb r110.2))
          else some ((V.agg [(V.int .i64 r12.1), (V.inl Zc []), (V.inl Zc r91.1), (V.int .i64 (IntKind.i64.wrap (1 + r109.1)))]), (Zb r109.2))
        else some ((V.agg [(V.int .i64 r12.1), (V.inl Zc []), (V.inl Zc r91.1), (V.int .i64 0)]), (Zb r91.2))
      else bif (decide (r12.1 = 4)) then
        Option.bind (Zh (Zb r91.2) 2) fun r111 =>
        some ((V.agg [(V.int .i64 r12.1), (V.inl Zc []), (V.inl Zc r91.1), (V.int .i64 r111.1)]), (Zb r111.2))
      else bif (decide (r12.1 = 2)) then
        Option.bind (Zh (Zb r91.2) (IntKind.i64.wrap (index + 1))) fun r112 =>
        Option.bind (Zh (Zb r112.2) 2) fun r113 =>
        some ((V.agg [(V.int .i64 r12.1), (V.inl Zc []), (V.inl Zc r91.1), (V.int .i64 (IntKind.i64.wrap (r112.1 * r113.1)))]), (Zb r113.2))
      else bif (decide (r12.1 = 5)) then
        Option.bind (Zh (Zb r91.2) 4) fun r114 =>
        bif (decide ((0 : Int) < index)) then
          Option.bind (Zh (Zb r114.2) index) fun r115 =>
          some ((V.agg [(V.int .i64 r12.1), (V.inl Zc []), (V.inl Zc r91.1), (V.int .i64 (IntKind.i64.wrap (1 + r115.1)))]), (Zb r115.2))
        else some ((V.agg [(V.int .i64 r12.1), (V.inl Zc []), (V.inl Zc r91.1), (V.int .i64 (IntKind.i64.wrap (1 + r114.1)))]), (Zb r114.2))
      else bif (decide (r12.1 = 6)) then
        Option.bind (Zh (Zb r91.2) 4) fun r116 =>
        bif (decide ((0 : Int) < index)) then
          Option.bind (Zh (Zb r116.2) index) fun r117 =>
          some ((V.agg [(V.int .i64 r12.1), (V.inl Zc []), (V.inl Zc r91.1), (V.int .i64 (IntKind.i64.wrap (1 + r117.1)))]), (Zb r117.2))
        else some ((V.agg [(V.int .i64 r12.1), (V.inl Zc []), (V.inl Zc r91.1), (V.int .i64 (IntKind.i64.wrap (1 + r116.1)))]), (Zb r116.2))
      else bif (decide (r12.1 = 7)) then
        Option.bind (Zh (Zb r91.2) 4) fun r118 =>
        bif (decide ((0 : Int) < index)) then
          Option.bind (Zh (Zb r118.2) index) fun r119 =>
          some ((V.agg [(V.int .i64 r12.1), (V.inl Zc []), (V.inl Zc r91.1), (V.int .i64 (IntKind.i64.wrap (1 + r119.1)))]), (Zb r119.2))
        else some ((V.agg [(V.int .i64 r12.1), (V.inl Zc []), (V.inl Zc r91.1), (V.int .i64 (IntKind.i64.wrap (1 + r118.1)))]), (Zb r118.2))
      else some ((V.agg [(V.int .i64 r12.1), (V.inl Zc []), (V.inl Zc r91.1), (V.int .i64 0)]), (Zb r91.2))
    else bif (decide (r12.1 = 4)) then
      Option.bind (Zh (Zb r91.2) 2) fun r120 =>
      some ((V.agg [(V.int .i64 r12.1), (V.inl Zc []), (V.inl Zc r91.1), (V.int .i64 r120.1)]), (Zb r120.2))
    else bif (decide (r12.1 = 2)) then
      Option.bind (Zh (Zb r91.2) (IntKind.i64.wrap (index + 1))) fun r121 =>
      Option.bind (Zh (Zb r121.2) 2) fun r122 =>
      some ((V.agg [(V.int .i64 r12.1), (V.inl Zc []), (V.inl Zc r91.1), (V.int .i64 (IntKind.i64.wrap (r121.1 * r122.1)))]), (Zb r122.2))
    else bif (decide (r12.1 = 5)) then
      Option.bind (Zh (Zb r91.2) 4) fun r123 =>
      bif (decide ((0 : Int) < index)) then
        Option.bind (Zh (Zb r123.2) index) fun r124 =>
        some ((V.agg [(V.int .i64 r12.1), (V.inl Zc []), (V.inl Zc r91.1), (V.int .i64 (IntKind.i64.wrap (1 + r124.1)))]), (Zb r124.2))
      else some ((V.agg [(V.int .i64 r12.1), (V.inl Zc []), (V.inl Zc r91.1), (V.int .i64 (IntKind.i64.wrap (1 + r123.1)))]), (Zb r123.2))
    else bif (decide (r12.1 = 6)) then
      Option.bind (Zh (Zb r91.2) 4) fun r125 =>
      bif (decide ((0 : Int) < index)) then
        Option.bind (Zh (Zb r125.2) index) fun r126 =>
        some ((V.agg [(V.int .i64 r12.1), (V.inl Zc []), (V.inl Zc r91.1), (V.int .i64 (IntKind.i64.wrap (1 + r126.1)))]), (Zb r126.2))
      else some ((V.agg [(V.int .i64 r12.1), (V.inl Zc []), (V.inl Zc r91.1), (V.int .i64 (IntKind.i64.wrap (1 + r125.1)))]), (Zb r125.2))
    else bif (decide (r12.1 = 7)) then
      Option.bind (Zh (Zb r91.2) 4) fun r127 =>
      bif (decide ((0 : Int) < index)) then
        Option.bind (Zh (Zb r127.2) index) fun r128 =>
        some ((V.agg [(V.int .i64 r12.1), (V.inl Zc []), (V.inl Zc r91.1), (V.int .i64 (IntKind.i64.wrap (1 + r128.1)))]), (Zb r128.2))
      else some ((V.agg [(V.int .i64 r12.1), (V.inl Zc []), (V.inl Zc r91.1), (V.int .i64 (IntKind.i64.wrap (1 + r127.1)))]), (Zb r127.2))
    else some ((V.agg [(V.int .i64 r12.1), (V.inl Zc []), (V.inl Zc r91.1), (V.int .i64 0)]), (Zb r91.2))
  else bif (!(decide (r12.1 = 0))) then
    bif (!(decide (r12.1 = 4))) then
      bif (!(decide (r12.1 = 5))) then
        Option.bind (ZaS (Zb r12.2)) fun r129 =>
        bif (decide (r12.1 = 4)) then
          Option.bind (Zh (Zb r129.2) 2) fun r130 =>
          some ((V.agg [(V.int .i64 r12.1), (V.inl Zc r129.1), (V.inl Zc []), (V.int .i64 r130.1)]), (Zb r130.2))
        else bif (decide (r12.1 = 2)) then
          Option.bind (Zh (Zb r129.2) (IntKind.i64.wrap (index + 1))) fun r131 =>
          Option.bind (Zh (Zb r131.2) 2) fun r132 =>
          some ((V.agg [(V.int .i64 r12.1), (V.inl Zc r129.1), (V.inl Zc []), (V.int .i64 (IntKind.i64.wrap (r131.1 * r132.1)))]), (Zb r132.2))
        else bif (decide (r12.1 = 5)) then
          Option.bind (Zh (Zb r129.2) 4) fun r133 =>
          bif (decide ((0 : Int) < index)) then
            Option.bind (Zh (Zb r133.2) index) fun r134 =>
            some ((V.agg [(V.int .i64 r12.1), (V.inl Zc r129.1), (V.inl Zc []), (V.int .i64 (IntKind.i64.wrap (1 + r134.1)))]), (Zb r134.2))
          else some ((V.agg [(V.int .i64 r12.1), (V.inl Zc r129.1), (V.inl Zc []), (V.int .i64 (IntKind.i64.wrap (1 + r133.1)))]), (Zb r133.2))
        else bif (decide (r12.1 = 6)) then
          Option.bind (Zh (Zb r129.2) 4) fun r135 =>
          bif (decide ((0 : Int) < index)) then
            Option.bind (Zh (Zb r135.2) index) fun r136 =>
            some ((V.agg [(V.int .i64 r12.1), (V.inl Zc r129.1), (V.inl Zc []), (V.int .i64 (IntKind.i64.wrap (1 + r136.1)))]), (Zb r136.2))
          else some ((V.agg [(V.int .i64 r12.1), (V.inl Zc r129.1), (V.inl Zc []), (V.int .i64 (IntKind.i64.wrap (1 + r135.1)))]), (Zb r135.2))
        else bif (decide (r12.1 = 7)) then
          Option.bind (Zh (Zb r129.2) 4) fun r137 =>
          bif (decide ((0 : Int) < index)) then
            Option.bind (Zh (Zb r137.2) index) fun r138 =>
            some ((V.agg [(V.int .i64 r12.1), (V.inl Zc r129.1), (V.inl Zc []), (V.int .i64 (IntKind.i64.wrap (1 + r138.1)))]), (Zb r138.2))
          else some ((V.agg [(V.int .i64 r12.1), (V.inl Zc r129.1), (V.inl Zc []), (V.int .i64 (IntKind.i64.wrap (1 + r137.1)))]), (Zb r137.2))
        else some ((V.agg [(V.int .i64 r12.1), (V.inl Zc r129.1), (V.inl Zc []), (V.int .i64 0)]), (Zb r129.2))
      else bif (decide (r12.1 = 4)) then
        Option.bind (Zh (Zb r12.2) 2) fun r139 =>
        some ((V.agg [(V.int .i64 r12.1), (V.inl Zc []), (V.inl Zc []), (V.int .i64 r139.1)]), (Zb r139.2))
      else bif (decide (r12.1 = 2)) then
        Option.bind (Zh (Zb r12.2) (IntKind.i64.wrap (index + 1))) fun r140 =>
        Option.bind (Zh (Zb r140.2) 2) fun r141 =>
        some ((V.agg [(V.int .i64 r12.1), (V.inl Zc []), (V.inl Zc []), (V.int .i64 (IntKind.i64.wrap (r140.1 * r141.1)))]), (Zb r141.2))
      else bif (decide (r12.1 = 5)) then
        Option.bind (Zh (Zb r12.2) 4) fun r142 =>
        bif (decide ((0 : Int) < index)) then
          Option.bind (Zh (Zb r142.2) index) fun r143 =>
          some ((V.agg [(V.int .i64 r12.1), (V.inl Zc []), (V.inl Zc []), (V.int .i64 (IntKind.i64.wrap (1 + r143.1)))]), (Zb r143.2))
        else some ((V.agg [(V.int .i64 r12.1), (V.inl Zc []), (V.inl Zc []), (V.int .i64 (IntKind.i64.wrap (1 + r142.1)))]), (Zb r142.2))
      else bif (decide (r12.1 = 6)) then
        Option.bind (Zh (Zb r12.2) 4) fun r144 =>
        bif (decide ((0 : Int) < index)) then
          Option.bind (Zh (Zb r144.2) index) fun r145 =>
          some ((V.agg [(V.int .i64 r12.1), (V.inl Zc []), (V.inl Zc []), (V.int .i64 (IntKind.i64.wrap (1 + r145.1)))]), (Zb r145.2))
        else some ((V.agg [(V.int .i64 r12.1), (V.inl Zc []), (V.inl Zc []), (V.int .i64 (IntKind.i64.wrap (1 + r144.1)))]), (Zb r144.2))
      else bif (decide (r12.1 = 7)) then
        Option.bind (Zh (Zb r12.2) 4) fun r146 =>
        bif (decide ((0 : Int) < index)) then
          Option.bind (Zh (Zb r146.2) index) fun r147 =>
          some ((V.agg [(V.int .i64 r12.1), (V.inl Zc []), (V.inl Zc []), (V.int .i64 (IntKind.i64.wrap (1 + r147.1)))]), (Zb r147.2))
        else some ((V.agg [(V.int .i64 r12.1), (V.inl Zc []), (V.inl Zc []), (V.int .i64 (IntKind.i64.wrap (1 + r146.1)))]), (Zb r146.2))
      else some ((V.agg [(V.int .i64 r12.1), (V.inl Zc []), (V.inl Zc []), (V.int .i64 0)]), (Zb r12.2))
    else bif (decide (r12.1 = 4)) then
      Option.bind (Zh (Zb r12.2) 2) fun r148 =>
      some ((V.agg [(V.int .i64 r12.1), (V.inl Zc []), (V.inl Zc []), (V.int .i64 r148.1)]), (Zb r148.2))
    else bif (decide (r12.1 = 2)) then
      Option.bind (Zh (Zb r12.2) (IntKind.i64.wrap (index + 1))) fun r149 =>
      Option.bind (Zh (Zb r149.2) 2) fun r150 =>
      some ((V.agg [(V.int .i64 r12.1), (V.inl Zc []), (V.inl Zc []), (V.int .i64 (IntKind.i64.wrap (r149.1 * r150.1)))]), (Zb r150.2))
    else bif (decide (r12.1 = 5)) then
      Option.bind (Zh (Zb r12.2) 4) fun r151 =>
      bif (decide ((0 : Int) < index)) then
        Option.bind (Zh (Zb r151.2) index) fun r152 =>
        some ((V.agg [(V.int .i64 r12.1), (V.inl Zc []), (V.inl Zc []), (V.int .i64 (IntKind.i64.wrap (1 + r152.1)))]), (Zb r152.2))
      else some ((V.agg [(V.int .i64 r12.1), (V.inl Zc []), (V.inl Zc []), (V.int .i64 (IntKind.i64.wrap (1 + r151.1)))]), (Zb r151.2))
    else bif (decide (r12.1 = 6)) then
      Option.bind (Zh (Zb r12.2) 4) fun r153 =>
      bif (decide ((0 : Int) < index)) then
        Option.bind (Zh (Zb r153.2) index) fun r154 =>
        some ((V.agg [(V.int .i64 r12.1), (V.inl Zc []), (V.inl Zc []), (V.int .i64 (IntKind.i64.wrap (1 + r154.1)))]), (Zb r154.2))
      else some ((V.agg [(V.int .i64 r12.1), (V.inl Zc []), (V.inl Zc []), (V.int .i64 (IntKind.i64.wrap (1 + r153.1)))]), (Zb r153.2))
    else bif (decide (r12.1 = 7)) then
      Option.bind (Zh (Zb r12.2) 4) fun r155 =>
      bif (decide ((0 : Int) < index)) then
        Option.bind (Zh (Zb r155.2) index) fun r156 =>
        some ((V.agg [(V.int .i64 r12.1), (V.inl Zc []), (V.inl Zc []), (V.int .i64 (IntKind.i64.wrap (1 + r156.1)))]), (Zb r156.2))
      else some ((V.agg [(V.int .i64 r12.1), (V.inl Zc []), (V.inl Zc []), (V.int .i64 (IntKind.i64.wrap (1 + r155.1)))]), (Zb r155.2))
    else some ((V.agg [(V.int .i64 r12.1), (V.inl Zc []), (V.inl Zc []), (V.int .i64 0)]), (Zb r12.2))
  else bif (decide (r12.1 = 4)) then
    Option.bind (Zh (Zb r12.2) 2) fun r157 =>
    some ((V.agg [(V.int .i64 r12.1), (V.inl Zc []), (V.inl Zc []), (V.int .i64 r157.1)]), (Zb r157.2))
  else bif (decide (r12.1 = 2)) then
    Option.bind (Zh (Zb r12.2) (IntKind.i64.wrap (index + 1))) fun r158 =>
    Option.bind (Zh (Zb r158.2) 2) fun r159 =>
    some ((V.agg [(V.int .i64 r12.1), (V.inl Zc []), (V.inl Zc []), (V.int .i64 (IntKind.i64.wrap (r158.1 * r159.1)))]), (Zb r159.2))
  else bif (decide (r12.1 = 5)) then
    Option.bind (Zh (Zb r12.2) 4) fun r160 =>
    bif (decide ((0 : Int) < index)) then
      Option.bind (Zh (Zb r160.2) index) fun r161 =>
      some ((V.agg [(V.int .i64 r12.1), (V.inl Zc []), (V.inl Zc []), (V.int .i64 (IntKind.i64.wrap (1 + r161.1)))]), (Zb r161.2))
    else some ((V.agg [(V.int .i64 r12.1), (V.inl Zc []), (V.inl Zc []), (V.int .i64 (IntKind.i64.wrap (1 + r160.1)))]), (Zb r160.2))
  else bif (decide (r12.1 = 6)) then
    Option.bind (Zh (Zb r12.2) 4) fun r162 =>
    bif (decide ((0 : Int) < index)) then
      Option.bind (Zh (Zb r162.2) index) fun r163 =>
      some ((V.agg [(V.int .i64 r12.1), (V.inl Zc []), (V.inl Zc []), (V.int .i64 (IntKind.i64.wrap (1 + r163.1)))]), (Zb r163.2))
    else some ((V.agg [(V.int .i64 r12.1), (V.inl Zc []), (V.inl Zc []), (V.int .i64 (IntKind.i64.wrap (1 + r162.1)))]), (Zb r162.2))
  else bif (decide (r12.1 = 7)) then
    Option.bind (Zh (Zb r12.2) 4) fun r164 =>
    bif (decide ((0 : Int) < index)) then
      Option.bind (Zh (Zb r164.2) index) fun r165 =>
      some ((V.agg [(V.int .i64 r12.1), (V.inl Zc []), (V.inl Zc []), (V.int .i64 (IntKind.i64.wrap (1 + r165.1)))]), (Zb r165.2))
    else some ((V.agg [(V.int .i64 r12.1), (V.inl Zc []), (V.inl Zc []), (V.int .i64 (IntKind.i64.wrap (1 + r164.1)))]), (Zb r164.2))
  else some ((V.agg [(V.int .i64 r12.1), (V.inl Zc []), (V.inl Zc []), (V.int .i64 0)]), (Zb r12.2))
def ZH (c : V) (n : Int) : Option (Bool × V) :=
  Option.bind (Zh (Zb c) n) fun r168 =>
  some ((decide (r168.1 = 0)), (Zb r168.2))
def Zb8 : Nat → List V → Int → V → Option (Nat × Int)
  | 0, _, _, _ => none
  | k_ + 1, key1, i5, b0 =>
    bif (decide (i5 < (((gl b0 1).length : Nat) : Int))) then
      bif (Zm i5 ((gl b0 1).length)) then
        bif (Zbx ((gl (rd (gl b0 1) i5.toNat) 0).map Zay) (key1.map Zay)) then
          some (0, i5)
        else Zb8 k_ key1 (IntKind.i64.wrap (i5 + 1)) (Za b0)
      else none
    else some (1, 0)
def Zbb (s : V) (key : List V) : Option (Int) :=
  Option.bind (Zb8 (((((gl (Za s) 1).length : Nat) : Int) - 0).toNat + 1) key 0 (Za s)) fun r171 =>
  bif (Nat.beq r171.1 0) then
    some r171.2
  else some (-1)
def ZbT : Nat → List V → Int → V → Option (Nat × Int)
  | 0, _, _, _ => none
  | k_ + 1, key1, i5, b0 =>
    bif (decide (i5 < (((gl b0 2).length : Nat) : Int))) then
      bif (Zm i5 ((gl b0 2).length)) then
        bif (Zbx ((gl (rd (gl b0 2) i5.toNat) 0).map Zay) (key1.map Zay)) then
          some (0, i5)
        else ZbT k_ key1 (IntKind.i64.wrap (i5 + 1)) (Za b0)
      else none
    else some (1, 0)
def ZdJ (s : V) (key : List V) : Option (Int) :=
  Option.bind (ZbT (((((gl (Za s) 2).length : Nat) : Int) - 0).toNat + 1) key 0 (Za s)) fun r174 =>
  bif (Nat.beq r174.1 0) then
    some r174.2
  else some (-1)
def ZbU : Nat → Int → Int → V → Option (Nat × Int)
  | 0, _, _, _ => none
  | k_ + 1, id1, i5, b0 =>
    bif (decide (i5 < (((gl b0 4).length : Nat) : Int))) then
      bif (Zm i5 ((gl b0 4).length)) then
        bif (decide ((gi (rd (gl b0 4) i5.toNat) 0) = id1)) then
          some (0, i5)
        else ZbU k_ id1 (IntKind.i64.wrap (i5 + 1)) (Za b0)
      else none
    else some (1, 0)
def ZbF (s : V) (id : Int) : Option (Int) :=
  Option.bind (ZbU (((((gl (Za s) 4).length : Nat) : Int) - 0).toNat + 1) id 0 (Za s)) fun r183 =>
  bif (Nat.beq r183.1 0) then
    some r183.2
  else some (-1)
def Zcc : Nat → V → List V → List V → List V → List V → Option (V × List V × List V × List V × List V)
  | 0, _, _, _, _, _ => none
  | k_ + 1, b0, r1, r2, r3, r4 =>
    bif (decide ((10 : Int) < ((r2.length : Nat) : Int))) then
      bif (Zm 0 r2.length) then
        bif (decide ((1 : Int) ≤ ((r2.length : Nat) : Int))) then
          none
        else none
      else none
    else some ((V.agg [(V.int .i64 (gi b0 0)), (V.sl 1 Zg 0 none), (V.sl 2 Zf 0 none), (V.int .i64 (gi b0 3)), (V.sl 3 Zd 0 none), (V.sl 4 Ze 0 none)]), r1, r2, r3, r4)
def Zda (s : V) (i : Int) : Option (V) :=
  bif (Zm i ((gl s 1).length)) then
    bif ((decide ((0 : Int) ≤ i)) && (decide (i ≤ (((gl s 1).length : Nat) : Int)))) then
      bif ((Zw (0 + (((gl s 1).take i.toNat).length)) 64) && true) then
        bif ((decide ((0 : Int) ≤ (IntKind.i64.wrap (i + 1)))) && (decide ((IntKind.i64.wrap (i + 1)) ≤ (((gl s 1).length : Nat) : Int)))) then
          bif ((Zw ((((gl s 1).take i.toNat).length) + ((((gl s 1).drop (0 + ((IntKind.i64.wrap (i + 1)).toNat))).take (((gl s 1).length) - ((IntKind.i64.wrap (i + 1)).toNat))).length)) 64) && true) then
            bif ((Zw (0 + ((gl s 2).length)) 32) && true) then
              bif ((Zw (((gl s 2).length) + 1) 32) && true) then
                Option.bind (Zcc ((((((gl s 2) ++ [(V.agg [(V.inl Zc (gl (rd (gl s 1) (0 + i.toNat)) 0)), (V.int .i64 (gi s 0))])]).length : Nat) : Int) - 10).toNat + 1) (V.agg [(V.int .i64 (gi s 0)), (V.sl 1 Zg 0 none), (V.sl 2 Zf 0 none), (V.int .i64 (gi s 3)), (V.sl 3 Zd 0 none), (V.sl 4 Ze 0 none)]) (((gl s 1).take i.toNat) ++ (((gl s 1).drop (0 + ((IntKind.i64.wrap (i + 1)).toNat))).take (((gl s 1).length) - ((IntKind.i64.wrap (i + 1)).toNat)))) ((gl s 2) ++ [(V.agg [(V.inl Zc (gl (rd (gl s 1) (0 + i.toNat)) 0)), (V.int .i64 (gi s 0))])]) (gl s 4) (gl s 5)) fun r186 =>
                some (V.agg [(V.int .i64 (gi r186.1 0)), (V.inl Zg r186.2.1), (V.inl Zf r186.2.2.1), (V.int .i64 (gi r186.1 3)), (V.inl Zd r186.2.2.2.1), (V.inl Ze r186.2.2.2.2)])
              else none
            else none
          else none
        else none
      else none
    else none
  else none
def Z9 : Nat → List V → List V → Int → V → List V → List V → List V → List V → Option (List V × List V × Int × V × List V × List V × List V × List V)
  | 0, _, _, _, _, _, _, _, _ => none
  | k_ + 1, key1, val2, i7, b0, r1, r2, r3, r4 =>
    bif (decide (i7 < ((r1.length : Nat) : Int))) then
      bif (Zm i7 r1.length) then
        bif (Zca ((gl (rd r1 (0 + i7.toNat)) 0).map Zay) (key1.map Zay)) then
          Z9 k_ key1 val2 (IntKind.i64.wrap (i7 + 1)) (V.agg [(V.int .i64 (gi b0 0)), (V.sl 1 Zg 0 none), (V.sl 2 Zf 0 none), (V.int .i64 (gi b0 3)), (V.sl 3 Zd 0 none), (V.sl 4 Ze 0 none)]) r1 r2 r3 r4
        else some (key1, val2, i7, (V.agg [(V.int .i64 (gi b0 0)), (V.sl 1 Zg 0 none), (V.sl 2 Zf 0 none), (V.int .i64 (gi b0 3)), (V.sl 3 Zd 0 none), (V.sl 4 Ze 0 none)]), r1, r2, r3, r4)
      else none
    else some (key1, val2, i7, (V.agg [(V.int .i64 (gi b0 0)), (V.sl 1 Zg 0 none), (V.sl 2 Zf 0 none), (V.int .i64 (gi b0 3)), (V.sl 3 Zd 0 none), (V.sl 4 Ze 0 none)]), r1, r2, r3, r4)
def Zaq (s : V) (key : List V) (val : List V) : Option (Bool × V) :=
  Option.bind (Zbb (Za s) key) fun r215 =>
  bif (decide ((0 : Int) ≤ r215)) then
    bif ((Zw (0 + val.length) 1) && true) then
      bif (Zm r215 ((gl s 1).length)) then
        bif (Zm r215 (((gl s 1).set (0 + r215.toNat) (V.agg [(V.inl Zc (gl (rd (gl s 1) (0 + r215.toNat)) 0)), (V.inl Zc val), (V.int .i64 (gi (rd (gl s 1) (0 + r215.toNat)) 2)), (V.int .i64 (gi (rd (gl s 1) (0 + r215.toNat)) 3))])).length)) then
          some (true, (V.agg [(V.int .i64 (gi s 0)), (V.inl Zg (((gl s 1).set (0 + r215.toNat) (V.agg [(V.inl Zc (gl (rd (gl s 1) (0 + r215.toNat)) 0)), (V.inl Zc val), (V.int .i64 (gi (rd (gl s 1) (0 + r215.toNat)) 2)), (V.int .i64 (gi (rd (gl s 1) (0 + r215.toNat)) 3))])).set (0 + r215.toNat) (V.agg [(V.inl Zc (gl (rd ((gl s 1).set (0 + r215.toNat) (V.agg [(V.inl Zc (gl (rd (gl s 1) (0 + r215.toNat)) 0)), (V.inl Zc val), (V.int .i64 (gi (rd (gl s 1) (0 + r215.toNat)) 2)), (V.int .i64 (gi (rd (gl s 1) (0 + r215.toNat)) 3))])) (0 + r215.toNat)) 0)), (V.inl Zc (gl (rd ((gl s 1).set (0 + r215.toNat) (V.agg [(V.inl Zc (gl (rd (gl s 1) (0 + r215.toNat)) 0)), (V.inl Zc val), (V.int .i64 (gi (rd (gl s 1) (0 + r215.toNat)) 2)), (V.int .i64 (gi (rd (gl s 1) (0 + r215.toNat)) 3))])) (0 + r215.toNat)) 1)), (V.int .i64 (gi s 0)), (V.int .i64 (gi (rd ((gl s 1).set (0 + r215.toNat) (V.agg [(V.inl Zc (gl (rd (gl s 1) (0 + r215.toNat)) 0)), (V.inl Zc val), (V.int .i64 (gi (rd (gl s 1) (0 + r215.toNat)) 2)), (V.int .i64 (gi (rd (gl s 1) (0 + r215.toNat)) 3))])) (0 + r215.toNat)) 3))]))), (V.inl Zf (gl s 2)), (V.int .i64 (gi s 3)), (V.inl Zd (gl s 4)), (V.inl Ze (gl s 5))]))
        else none
      else none
    else none
  else bif (decide ((20 : Int) ≤ (((gl s 1).length : Nat) : Int))) then
    some (false, (Za s))
  else Option.bind (ZdJ (Za s) key) fun r216 =>
  bif (decide ((0 : Int) ≤ r216)) then
    bif ((decide ((0 : Int) ≤ r216)) && (decide (r216 ≤ (((gl s 2).length : Nat) : Int)))) then
      bif ((Zw (0 + (((gl s 2).take r216.toNat).length)) 32) && true) then
        bif ((decide ((0 : Int) ≤ (IntKind.i64.wrap (r216 + 1)))) && (decide ((IntKind.i64.wrap (r216 + 1)) ≤ (((gl s 2).length : Nat) : Int)))) then
          bif ((Zw ((((gl s 2).take r216.toNat).length) + ((((gl s 2).drop (0 + ((IntKind.i64.wrap (r216 + 1)).toNat))).take (((gl s 2).length) - ((IntKind.i64.wrap (r216 + 1)).toNat))).length)) 32) && true) then
            Option.bind (Z9 (((((gl s 1).length : Nat) : Int) - 0).toNat + 1) key val 0 (V.agg [(V.int .i64 (gi s 0)), (V.sl 1 Zg 0 none), (V.sl 2 Zf 0 none), (V.int .i64 (gi s 3)), (V.sl 3 Zd 0 none), (V.sl 4 Ze 0 none)]) (gl s 1) (((gl s 2).take r216.toNat) ++ (((gl s 2).drop (0 + ((IntKind.i64.wrap (r216 + 1)).toNat))).take (((gl s 2).length) - ((IntKind.i64.wrap (r216 + 1)).toNat)))) (gl s 4) (gl s 5)) fun r217 =>
            bif ((decide ((0 : Int) ≤ r217.2.2.1)) && (decide (r217.2.2.1 ≤ ((r217.2.2.2.2.1.length : Nat) : Int)))) then
              bif ((Zw (0 + ((r217.2.2.2.2.1.take r217.2.2.1.toNat).length)) 64) && true) then
                bif ((Zw (0 + r217.1.length) 1) && true) then
                  bif ((Zw (0 + r217.2.1.length) 1) && true) then
                    bif ((Zw (((r217.2.2.2.2.1.take r217.2.2.1.toNat).length) + 1) 64) && true) then
                      bif ((decide ((0 : Int) ≤ r217.2.2.1)) && (decide (r217.2.2.1 ≤ ((r217.2.2.2.2.1.length : Nat) : Int)))) then
                        bif ((Zw ((((r217.2.2.2.2.1.take r217.2.2.1.toNat) ++ [(V.agg [(V.inl Zc r217.1), (V.inl Zc r217.2.1), (V.int .i64 (gi r217.2.2.2.1 0)), (V.int .i64 0)])]).length) + (((r217.2.2.2.2.1.drop (0 + r217.2.2.1.toNat)).take (r217.2.2.2.2.1.length - r217.2.2.1.toNat)).length)) 64) && true) then
                          some (true, (V.agg [(V.int .i64 (gi r217.2.2.2.1 0)), (V.inl Zg (((r217.2.2.2.2.1.take r217.2.2.1.toNat) ++ [(V.agg [(V.inl Zc r217.1), (V.inl Zc r217.2.1), (V.int .i64 (gi r217.2.2.2.1 0)), (V.int .i64 0)])]) ++ ((r217.2.2.2.2.1.drop (0 + r217.2.2.1.toNat)).take (r217.2.2.2.2.1.length - r217.2.2.1.toNat)))), (V.inl Zf r217.2.2.2.2.2.1), (V.int .i64 (gi r217.2.2.2.1 3)), (V.inl Zd r217.2.2.2.2.2.2.1), (V.inl Ze r217.2.2.2.2.2.2.2)]))
                        else none
                      else none
                    else none
                  else none
                else none
              else none
            else none
          else none
        else none
      else none
    else none
  else Option.bind (Z9 (((((gl s 1).length : Nat) : Int) - 0).toNat + 1) key val 0 (V.agg [(V.int .i64 (gi s 0)), (V.sl 1 Zg 0 none), (V.sl 2 Zf 0 none), (V.int .i64 (gi s 3)), (V.sl 3 Zd 0 none), (V.sl 4 Ze 0 none)]) (gl s 1) (gl s 2) (gl s 4) (gl s 5)) fun r218 =>
  bif ((decide ((0 : Int) ≤ r218.2.2.1)) && (decide (r218.2.2.1 ≤ ((r218.2.2.2.2.1.length : Nat) : Int)))) then
    bif ((Zw (0 + ((r218.2.2.2.2.1.take r218.2.2.1.toNat).length)) 64) && true) then
      bif ((Zw (0 + r218.1.length) 1) && true) then
        bif ((Zw (0 + r218.2.1.length) 1) && true) then
          bif ((Zw (((r218.2.2.2.2.1.take r218.2.2.1.toNat).length) + 1) 64) && true) then
            bif ((decide ((0 : Int) ≤ r218.2.2.1)) && (decide (r218.2.2.1 ≤ ((r218.2.2.2.2.1.length : Nat) : Int)))) then
              bif ((Zw ((((r218.2.2.2.2.1.take r218.2.2.1.toNat) ++ [(V.agg [(V.inl Zc r218.1), (V.inl Zc r218.2.1), (V.int .i64 (gi r218.2.2.2.1 0)), (V.int .i64 0)])]).length) + (((r218.2.2.2.2.1.drop (0 + r218.2.2.1.toNat)).take (r218.2.2.2.2.1.length - r218.2.2.1.toNat)).length)) 64) && true) then
                some (true, (V.agg [(V.int .i64 (gi r218.2.2.2.1 0)), (V.inl Zg (((r218.2.2.2.2.1.take r218.2.2.1.toNat) ++ [(V.agg [(V.inl Zc r218.1), (V.inl Zc r218.2.1), (V.int .i64 (gi r218.2.2.2.1 0)), (V.int .i64 0)])]) ++ ((r218.2.2.2.2.1.drop (0 + r218.2.2.1.toNat)).take (r218.2.2.2.2.1.length - r218.2.2.1.toNat)))), (V.inl Zf r218.2.2.2.2.2.1), (V.int .i64 (gi r218.2.2.2.1 3)), (V.inl Zd r218.2.2.2.2.2.2.1), (V.inl Ze r218.2.2.2.2.2.2.2)]))
              else none
            else none
          else none
        else none
      else none
    else none
  else none
def Zav : Nat → Int → V → V → List V → List V → List V → List V → Option (V × List V × List V × List V × List V)
  | 0, _, _, _, _, _, _, _ => none
  | k_ + 1, k5, b0, b1, r2, r3, r4, r5 =>
    bif (decide (k5 < ((r2.length : Nat) : Int))) then
      bif (Zm k5 r2.length) then
        bif (!(decide ((gi (rd r2 (0 + k5.toNat)) 3) = (gi b1 0)))) then
          Zav k_ (IntKind.i64.wrap (k5 + 1)) (V.agg [(V.int .i64 (gi b0 0)), (V.sl 2 Zg 0 none), (V.sl 3 Zf 0 none), (V.int .i64 (gi b0 3)), (V.sl 4 Zd 0 none), (V.sl 5 Ze 0 none)]) (ZD b1) r2 r3 r4 r5
        else bif (gb b1 1) then
          Option.bind (Zda (V.agg [(V.int .i64 (gi b0 0)), (V.inl Zg r2), (V.inl Zf r3), (V.int .i64 (gi b0 3)), (V.inl Zd r4), (V.inl Ze r5)]) k5) fun r224 =>
          Zav k_ (IntKind.i64.wrap ((IntKind.i64.wrap (k5 - 1)) + 1)) (V.agg [(V.int .i64 (gi r224 0)), (V.sl 2 Zg 0 none), (V.sl 3 Zf 0 none), (V.int .i64 (gi r224 3)), (V.sl 4 Zd 0 none), (V.sl 5 Ze 0 none)]) (ZD b1) (gl r224 1) (gl r224 2) (gl r224 4) (gl r224 5)
        else bif (Zm k5 r2.length) then
          bif (Zm k5 ((r2.set (0 + k5.toNat) (V.agg [(V.inl Zc (gl (rd r2 (0 + k5.toNat)) 0)), (V.inl Zc (gl (rd r2 (0 + k5.toNat)) 1)), (V.int .i64 (gi (rd r2 (0 + k5.toNat)) 2)), (V.int .i64 0)])).length)) then
            Zav k_ (IntKind.i64.wrap (k5 + 1)) (V.agg [(V.int .i64 (gi b0 0)), (V.sl 2 Zg 0 none), (V.sl 3 Zf 0 none), (V.int .i64 (gi b0 3)), (V.sl 4 Zd 0 none), (V.sl 5 Ze 0 none)]) (ZD b1) ((r2.set (0 + k5.toNat) (V.agg [(V.inl Zc (gl (rd r2 (0 + k5.toNat)) 0)), (V.inl Zc (gl (rd r2 (0 + k5.toNat)) 1)), (V.int .i64 (gi (rd r2 (0 + k5.toNat)) 2)), (V.int .i64 0)])).set (0 + k5.toNat) (V.agg [(V.inl Zc (gl (rd (r2.set (0 + k5.toNat) (V.agg [(V.inl Zc (gl (rd r2 (0 + k5.toNat)) 0)), (V.inl Zc (gl (rd r2 (0 + k5.toNat)) 1)), (V.int .i64 (gi (rd r2 (0 + k5.toNat)) 2)), (V.int .i64 0)])) (0 + k5.toNat)) 0)), (V.inl Zc (gl (rd (r2.set (0 + k5.toNat) (V.agg [(V.inl Zc (gl (rd r2 (0 + k5.toNat)) 0)), (V.inl Zc (gl (rd r2 (0 + k5.toNat)) 1)), (V.int .i64 (gi (rd r2 (0 + k5.toNat)) 2)), (V.int .i64 0)])) (0 + k5.toNat)) 1)), (V.int .i64 (gi b0 0)), (V.int .i64 (gi (rd (r2.set (0 + k5.toNat) (V.agg [(V.inl Zc (gl (rd r2 (0 + k5.toNat)) 0)), (V.inl Zc (gl (rd r2 (0 + k5.toNat)) 1)), (V.int .i64 (gi (rd r2 (0 + k5.toNat)) 2)), (V.int .i64 0)])) (0 + k5.toNat)) 3))])) r3 r4 r5
          else none
        else none
      else none
    else some ((V.agg [(V.int .i64 (gi b0 0)), (V.sl 1 Zg 0 none), (V.sl 2 Zf 0 none), (V.int .i64 (gi b0 3)), (V.sl 3 Zd 0 none), (V.sl 4 Ze 0 none)]), r2, r3, r4, r5)
def Zdb (s : V) (i : Int) : Option (V) :=
  bif (Zm i ((gl s 4).length)) then
    bif ((decide ((0 : Int) ≤ i)) && (decide (i ≤ (((gl s 4).length : Nat) : Int)))) then
      bif ((Zw (0 + (((gl s 4).take i.toNat).length)) 16) && true) then
        bif ((decide ((0 : Int) ≤ (IntKind.i64.wrap (i + 1)))) && (decide ((IntKind.i64.wrap (i + 1)) ≤ (((gl s 4).length : Nat) : Int)))) then
          bif ((Zw ((((gl s 4).take i.toNat).length) + (((gl s 4).drop (0 + ((IntKind.i64.wrap (i + 1)).toNat))).length)) 16) && true) then
            Option.bind (Zav (((((gl s 1).length : Nat) : Int) - 0).toNat + 1) 0 (V.agg [(V.int .i64 (gi s 0)), (V.sl 2 Zg 0 none), (V.sl 3 Zf 0 none), (V.int .i64 (gi s 3)), (V.sl 4 Zd 0 none), (V.sl 5 Ze 0 none)]) (ZD (rd (gl s 4) (0 + i.toNat))) (gl s 1) (gl s 2) (((gl s 4).take i.toNat) ++ ((gl s 4).drop (0 + ((IntKind.i64.wrap (i + 1)).toNat)))) (gl s 5)) fun r225 =>
            some (V.agg [(V.int .i64 (gi r225.1 0)), (V.inl Zg r225.2.1), (V.inl Zf r225.2.2.1), (V.int .i64 (gi r225.1 3)), (V.inl Zd r225.2.2.2.1), (V.inl Ze r225.2.2.2.2)])
          else none
        else none
      else none
    else none
  else none
def Zbj (s : V) (o : V) : Option (Int × V) :=
  bif (decide ((0 : Int) < (((gl o 1).length : Nat) : Int))) then
    Option.bind (Zbb (Za s) (gl o 1)) fun r214 =>
    bif (decide ((gi o 0) = 1)) then
      Option.bind (Zaq (Za s) (gl o 1) (gl o 2)) fun r219 =>
      bif (!r219.1) then
        some (4, (Za r219.2))
      else some (0, (Za r219.2))
    else bif (decide ((gi o 0) = 2)) then
      bif (decide ((0 : Int) ≤ r214)) then
        bif (Zm r214 ((gl s 1).length)) then
          bif (!(decide ((gi (rd (gl s 1) (0 + r214.toNat)) 2) = (gi o 3)))) then
            some (3, (Za s))
          else Option.bind (Zaq (Za s) (gl o 1) (gl o 2)) fun r220 =>
          bif (!r220.1) then
            some (4, (Za r220.2))
          else some (0, (Za r220.2))
        else none
      else bif (!(decide ((0 : Int) = (gi o 3)))) then
        some (3, (Za s))
      else Option.bind (Zaq (Za s) (gl o 1) (gl o 2)) fun r221 =>
      bif (!r221.1) then
        some (4, (Za r221.2))
      else some (0, (Za r221.2))
    else bif (decide ((gi o 0) = 3)) then
      bif (decide (r214 < 0)) then
        some (1, (Za s))
      else Option.bind (Zda (Za s) r214) fun r222 =>
      some (0, (Za r222))
    else bif (decide ((gi o 0) = 4)) then
      bif (decide ((8 : Int) ≤ (((gl s 4).length : Nat) : Int))) then
        some (4, (Za s))
      else bif ((Zw (0 + ((gl s 4).length)) 16) && true) then
        bif ((Zw (((gl s 4).length) + 1) 16) && true) then
          some (0, (V.agg [(V.int .i64 (gi s 0)), (V.inl Zg (gl s 1)), (V.inl Zf (gl s 2)), (V.int .i64 (gi s 3)), (V.inl Zd ((gl s 4) ++ [(V.agg [(V.int .i64 (gi s 0)), (V.bool (decide ((gi o 3) = 1)))])])), (V.inl Ze (gl s 5))]))
        else none
      else none
    else bif (decide ((gi o 0) = 5)) then
      Option.bind (ZbF (Za s) (gi o 3)) fun r223 =>
      bif (decide (r223 < 0)) then
        some (1, (Za s))
      else Option.bind (Zdb (Za s) r223) fun r226 =>
      some (0, (Za r226))
    else bif (decide ((gi o 0) = 6)) then
      Option.bind (ZbF (Za s) (gi o 3)) fun r227 =>
      bif (decide (r227 < 0)) then
        some (1, (Za s))
      else bif (decide ((0 : Int) ≤ r214)) then
        bif (Zm r214 ((gl s 1).length)) then
          bif (!(decide ((gi (rd (gl s 1) (0 + r214.toNat)) 3) = 0))) then
            bif (Zm r214 ((gl s 1).length)) then
              bif (!(decide ((gi (rd (gl s 1) (0 + r214.toNat)) 3) = (gi o 3)))) then
                some (2, (Za s))
              else Option.bind (Zaq (Za s) (gl o 1) (gl o 2)) fun r228 =>
              bif (!r228.1) then
                some (4, (Za r228.2))
              else Option.bind (Zbb (Za r228.2) (gl o 1)) fun r229 =>
              bif (Zm r229 ((gl r228.2 1).length)) then
                some (0, (V.agg [(V.int .i64 (gi r228.2 0)), (V.inl Zg ((gl r228.2 1).set (0 + r229.toNat) (V.agg [(V.inl Zc (gl (rd (gl r228.2 1) (0 + r229.toNat)) 0)), (V.inl Zc (gl (rd (gl r228.2 1) (0 + r229.toNat)) 1)), (V.int .i64 (gi (rd (gl r228.2 1) (0 + r229.toNat)) 2)), (V.int .i64 (gi o 3))]))), (V.inl Zf (gl r228.2 2)), (V.int .i64 (gi r228.2 3)), (V.inl Zd (gl r228.2 4)), (V.inl Ze (gl r228.2 5))]))
              else none
            else none
          else Option.bind (Zaq (Za s) (gl o 1) (gl o 2)) fun r230 =>
          bif (!r230.1) then
            some (4, (Za r230.2))
          else Option.bind (Zbb (Za r230.2) (gl o 1)) fun r231 =>
          bif (Zm r231 ((gl r230.2 1).length)) then
            some (0, (V.agg [(V.int .i64 (gi r230.2 0)), (V.inl Zg ((gl r230.2 1).set (0 + r231.toNat) (V.agg [(V.inl Zc (gl (rd (gl r230.2 1) (0 + r231.toNat)) 0)), (V.inl Zc (gl (rd (gl r230.2 1) (0 + r231.toNat)) 1)), (V.int .i64 (gi (rd (gl r230.2 1) (0 + r231.toNat)) 2)), (V.int .i64 (gi o 3))]))), (V.inl Zf (gl r230.2 2)), (V.int .i64 (gi r230.2 3)), (V.inl Zd (gl r230.2 4)), (V.inl Ze (gl r230.2 5))]))
          else none
        else none
      else Option.bind (Zaq (Za s) (gl o 1) (gl o 2)) fun r232 =>
      bif (!r232.1) then
        some (4, (Za r232.2))
      else Option.bind (Zbb (Za r232.2) (gl o 1)) fun r233 =>
      bif (Zm r233 ((gl r232.2 1).length)) then
        some (0, (V.agg [(V.int .i64 (gi r232.2 0)), (V.inl Zg ((gl r232.2 1).set (0 + r233.toNat) (V.agg [(V.inl Zc (gl (rd (gl r232.2 1) (0 + r233.toNat)) 0)), (V.inl Zc (gl (rd (gl r232.2 1) (0 + r233.toNat)) 1)), (V.int .i64 (gi (rd (gl r232.2 1) (0 + r233.toNat)) 2)), (V.int .i64 (gi o 3))]))), (V.inl Zf (gl r232.2 2)), (V.int .i64 (gi r232.2 3)), (V.inl Zd (gl r232.2 4)), (V.inl Ze (gl r232.2 5))]))
      else none
    else bif (decide ((gi o 0) = 7)) then
      bif (decide (r214 < 0)) then
        some (1, (Za s))
      else bif (Zm r214 ((gl s 1).length)) then
        bif (!(decide ((gi (rd (gl s 1) (0 + r214.toNat)) 3) = (gi o 3)))) then
          some (1, (Za s))
        else bif (Zm r214 ((gl s 1).length)) then
          bif (Zm r214 (((gl s 1).set (0 + r214.toNat) (V.agg [(V.inl Zc (gl (rd (gl s 1) (0 + r214.toNat)) 0)), (V.inl Zc (gl (rd (gl s 1) (0 + r214.toNat)) 1)), (V.int .i64 (gi (rd (gl s 1) (0 + r214.toNat)) 2)), (V.int .i64 0)])).length)) then
            some (0, (V.agg [(V.int .i64 (gi s 0)), (V.inl Zg (((gl s 1).set (0 + r214.toNat) (V.agg [(V.inl Zc (gl (rd (gl s 1) (0 + r214.toNat)) 0)), (V.inl Zc (gl (rd (gl s 1) (0 + r214.toNat)) 1)), (V.int .i64 (gi (rd (gl s 1) (0 + r214.toNat)) 2)), (V.int .i64 0)])).set (0 + r214.toNat) (V.agg [(V.inl Zc (gl (rd ((gl s 1).set (0 + r214.toNat) (V.agg [(V.inl Zc (gl (rd (gl s 1) (0 + r214.toNat)) 0)), (V.inl Zc (gl (rd (gl s 1) (0 + r214.toNat)) 1)), (V.int .i64 (gi (rd (gl s 1) (0 + r214.toNat)) 2)), (V.int .i64 0)])) (0 + r214.toNat)) 0)), (V.inl Zc (gl (rd ((gl s 1).set (0 + r214.toNat) (V.agg [(V.inl Zc (gl (rd (gl s 1) (0 + r214.toNat)) 0)), (V.inl Zc (gl (rd (gl s 1) (0 + r214.toNat)) 1)), (V.int .i64 (gi (rd (gl s 1) (0 + r214.toNat)) 2)), (V.int .i64 0)])) (0 + r214.toNat)) 1)), (V.int .i64 (gi s 0)), (V.int .i64 (gi (rd ((gl s 1).set (0 + r214.toNat) (V.agg [(V.inl Zc (gl (rd (gl s 1) (0 + r214.toNat)) 0)), (V.inl Zc (gl (rd (gl s 1) (0 + r214.toNat)) 1)), (V.int .i64 (gi (rd (gl s 1) (0 + r214.toNat)) 2)), (V.int .i64 0)])) (0 + r214.toNat)) 3))]))), (V.inl Zf (gl s 2)), (V.int .i64 (gi s 3)), (V.inl Zd (gl s 4)), (V.inl Ze (gl s 5))]))
          else none
        else none
      else none
    else some (0, (Za s))
  else bif (decide ((gi o 0) = 1)) then
    Option.bind (Zaq (Za s) (gl o 1) (gl o 2)) fun r234 =>
    bif (!r234.1) then
      some (4, (Za r234.2))
    else some (0, (Za r234.2))
  else bif (decide ((gi o 0) = 2)) then
    bif (!(decide ((0 : Int) = (gi o 3)))) then
      some (3, (Za s))
    else Option.bind (Zaq (Za s) (gl o 1) (gl o 2)) fun r235 =>
    bif (!r235.1) then
      some (4, (Za r235.2))
    else some (0, (Za r235.2))
  else bif (decide ((gi o 0) = 3)) then
    some (1, (Za s))
  else bif (decide ((gi o 0) = 4)) then
    bif (decide ((8 : Int) ≤ (((gl s 4).length : Nat) : Int))) then
      some (4, (Za s))
    else bif ((Zw (0 + ((gl s 4).length)) 16) && true) then
      bif ((Zw (((gl s 4).length) + 1) 16) && true) then
        some (0, (V.agg [(V.int .i64 (gi s 0)), (V.inl Zg (gl s 1)), (V.inl Zf (gl s 2)), (V.int .i64 (gi s 3)), (V.inl Zd ((gl s 4) ++ [(V.agg [(V.int .i64 (gi s 0)), (V.bool (decide ((gi o 3) = 1)))])])), (V.inl Ze (gl s 5))]))
      else none
    else none
  else bif (decide ((gi o 0) = 5)) then
    Option.bind (ZbF (Za s) (gi o 3)) fun r236 =>
    bif (decide (r236 < 0)) then
      some (1, (Za s))
    else Option.bind (Zdb (Za s) r236) fun r237 =>
    some (0, (Za r237))
  else bif (decide ((gi o 0) = 6)) then
    Option.bind (ZbF (Za s) (gi o 3)) fun r238 =>
    bif (decide (r238 < 0)) then
      some (1, (Za s))
    else Option.bind (Zaq (Za s) (gl o 1) (gl o 2)) fun r239 =>
    bif (!r239.1) then
      some (4, (Za r239.2))
    else Option.bind (Zbb (Za r239.2) (gl o 1)) fun r240 =>
    bif (Zm r240 ((gl r239.2 1).length)) then
      some (0, (V.agg [(V.int .i64 (gi r239.2 0)), (V.inl Zg ((gl r239.2 1).set (0 + r240.toNat) (V.agg [(V.inl Zc (gl (rd (gl r239.2 1) (0 + r240.toNat)) 0)), (V.inl Zc (gl (rd (gl r239.2 1) (0 + r240.toNat)) 1)), (V.int .i64 (gi (rd (gl r239.2 1) (0 + r240.toNat)) 2)), (V.int .i64 (gi o 3))]))), (V.inl Zf (gl r239.2 2)), (V.int .i64 (gi r239.2 3)), (V.inl Zd (gl r239.2 4)), (V.inl Ze (gl r239.2 5))]))
    else none
  else bif (decide ((gi o 0) = 7)) then
    some (1, (Za s))
  else some (0, (Za s))
def Zaj : Nat → Int → V → V → V → V → List V → List V → List V → List V → Option (Int × V × V × V × V × List V × List V × List V × List V)
  | 0, _, _, _, _, _, _, _, _, _ => none
  | k_ + 1, k6, b0, b1, b2, b3, r4, r5, r6, r7 =>
    bif (decide (k6 < ((r7.length : Nat) : Int))) then
      bif (Zm k6 r7.length) then
        bif (decide ((gi (rd r7 (0 + k6.toNat)) 0) < (gi b1 0))) then
          Zaj k_ (IntKind.i64.wrap (k6 + 1)) (V.agg [(V.int .i64 (gi b0 0)), (V.sl 4 Zg 0 none), (V.sl 5 Zf 0 none), (V.int .i64 (gi b0 3)), (V.sl 6 Zd 0 none), (V.sl 7 Ze 0 none)]) (Zn b1) (ZA b2) (ZA b3) r4 r5 r6 r7
        else some (k6, (V.agg [(V.int .i64 (gi b0 0)), (V.sl 4 Zg 0 none), (V.sl 5 Zf 0 none), (V.int .i64 (gi b0 3)), (V.sl 6 Zd 0 none), (V.sl 7 Ze 0 none)]), (Zn b1), (ZA b2), (ZA b3), r4, r5, r6, r7)
      else none
    else some (k6, (V.agg [(V.int .i64 (gi b0 0)), (V.sl 4 Zg 0 none), (V.sl 5 Zf 0 none), (V.int .i64 (gi b0 3)), (V.sl 6 Zd 0 none), (V.sl 7 Ze 0 none)]), (Zn b1), (ZA b2), (ZA b3), r4, r5, r6, r7)
def ZJ (s : V) (c : V) : Option (V × V) :=
  bif (decide ((gi c 0) < 0)) then
    some ((V.agg [(V.int .i64 0), (V.int .i64 (IntKind.i64.wrap ((gi s 0) + 1)))]), (V.agg [(V.int .i64 (IntKind.i64.wrap ((gi s 0) + 1))), (V.inl Zg (gl s 1)), (V.inl Zf (gl s 2)), (V.int .i64 (gi s 3)), (V.inl Zd (gl s 4)), (V.inl Ze (gl s 5))]))
  else Option.bind (Zaj (((((gl s 5).length : Nat) : Int) - 0).toNat + 1) 0 (V.agg [(V.int .i64 (IntKind.i64.wrap ((gi s 0) + 1))), (V.sl 4 Zg 0 none), (V.sl 5 Zf 0 none), (V.int .i64 (gi s 3)), (V.sl 6 Zd 0 none), (V.sl 7 Ze 0 none)]) (Zn c) (V.agg [(V.int .i64 0), (V.int .i64 0)]) (V.agg [(V.int .i64 0), (V.int .i64 (IntKind.i64.wrap ((gi s 0) + 1)))]) (gl s 1) (gl s 2) (gl s 4) (gl s 5)) fun r213 =>
  bif (decide (r213.1 < ((r213.2.2.2.2.2.2.2.2.length : Nat) : Int))) then
    bif (Zm r213.1 r213.2.2.2.2.2.2.2.2.length) then
      bif (decide ((gi (rd r213.2.2.2.2.2.2.2.2 (0 + r213.1.toNat)) 0) = (gi r213.2.2.1 0))) then
        bif (Zm r213.1 r213.2.2.2.2.2.2.2.2.length) then
          bif (decide ((gi (rd r213.2.2.2.2.2.2.2.2 (0 + r213.1.toNat)) 1) = (gi r213.2.2.1 1))) then
            bif (Zm r213.1 r213.2.2.2.2.2.2.2.2.length) then
              some ((V.agg [(V.int .i64 (gi (rd r213.2.2.2.2.2.2.2.2 (0 + r213.1.toNat)) 2)), (V.int .i64 (gi (rd r213.2.2.2.2.2.2.2.2 (0 + r213.1.toNat)) 3))]), (V.agg [(V.int .i64 (gi r213.2.1 0)), (V.inl Zg r213.2.2.2.2.2.1), (V.inl Zf r213.2.2.2.2.2.2.1), (V.int .i64 (gi r213.2.1 3)), (V.inl Zd r213.2.2.2.2.2.2.2.1), (V.inl Ze r213.2.2.2.2.2.2.2.2)]))
            else none
          else bif (Zm r213.1 r213.2.2.2.2.2.2.2.2.length) then
            bif (decide ((gi r213.2.2.1 1) < (gi (rd r213.2.2.2.2.2.2.2.2 (0 + r213.1.toNat)) 1))) then
              some ((V.agg [(V.int .i64 5), (V.int .i64 (gi r213.2.2.2.2.1 1))]), (V.agg [(V.int .i64 (gi r213.2.1 0)), (V.inl Zg r213.2.2.2.2.2.1), (V.inl Zf r213.2.2.2.2.2.2.1), (V.int .i64 (gi r213.2.1 3)), (V.inl Zd r213.2.2.2.2.2.2.2.1), (V.inl Ze r213.2.2.2.2.2.2.2.2)]))
            else Option.bind (Zbj (V.agg [(V.int .i64 (gi r213.2.1 0)), (V.inl Zg r213.2.2.2.2.2.1), (V.inl Zf r213.2.2.2.2.2.2.1), (V.int .i64 (gi r213.2.1 3)), (V.inl Zd r213.2.2.2.2.2.2.2.1), (V.inl Ze r213.2.2.2.2.2.2.2.2)]) (V.agg [(V.int .i64 (gi r213.2.2.1 2)), (V.inl Zc (gl r213.2.2.1 3)), (V.inl Zc (gl r213.2.2.1 4)), (V.int .i64 (gi r213.2.2.1 5))])) fun r241 =>
            bif (Zm r213.1 ((gl r241.2 5).length)) then
              bif (Zm r213.1 (((gl r241.2 5).set (0 + r213.1.toNat) (V.agg [(V.int .i64 (gi (rd (gl r241.2 5) (0 + r213.1.toNat)) 0)), (V.int .i64 (gi r213.2.2.1 1)), (V.int .i64 (gi (rd (gl r241.2 5) (0 + r213.1.toNat)) 2)), (V.int .i64 (gi (rd (gl r241.2 5) (0 + r213.1.toNat)) 3))])).length)) then
                some ((V.agg [(V.int .i64 r241.1), (V.int .i64 (gi r213.2.2.2.2.1 1))]), (V.agg [(V.int .i64 (gi r241.2 0)), (V.inl Zg (gl r241.2 1)), (V.inl Zf (gl r241.2 2)), (V.int .i64 (gi r241.2 3)), (V.inl Zd (gl r241.2 4)), (V.inl Ze (((gl r241.2 5).set (0 + r213.1.toNat) (V.agg [(V.int .i64 (gi (rd (gl r241.2 5) (0 + r213.1.toNat)) 0)), (V.int .i64 (gi r213.2.2.1 1)), (V.int .i64 (gi (rd (gl r241.2 5) (0 + r213.1.toNat)) 2)), (V.int .i64 (gi (rd (gl r241.2 5) (0 + r213.1.toNat)) 3))])).set (0 + r213.1.toNat) (V.agg [(V.int .i64 (gi (rd ((gl r241.2 5).set (0 + r213.1.toNat) (V.agg [(V.int .i64 (gi (rd (gl r241.2 5) (0 + r213.1.toNat)) 0)), (V.int .i64 (gi r213.2.2.1 1)), (V.int .i64 (gi (rd (gl r241.2 5) (0 + r213.1.toNat)) 2)), (V.int .i64 (gi (rd (gl r241.2 5) (0 + r213.1.toNat)) 3))])) (0 + r213.1.toNat)) 0)), (V.int .i64 (gi (rd ((gl r241.2 5).set (0 + r213.1.toNat) (V.agg [(V.int .i64 (gi (rd (gl r241.2 5) (0 + r213.1.toNat)) 0)), (V.int .i64 (gi r213.2.2.1 1)), (V.int .i64 (gi (rd (gl r241.2 5) (0 + r213.1.toNat)) 2)), (V.int .i64 (gi (rd (gl r241.2 5) (0 + r213.1.toNat)) 3))])) (0 + r213.1.toNat)) 1)), (V.int .i64 r241.1), (V.int .i64 (gi r213.2.2.2.2.1 1))])))]))
              else none
            else none
          else none
        else none
      else Option.bind (Zbj (V.agg [(V.int .i64 (gi r213.2.1 0)), (V.inl Zg r213.2.2.2.2.2.1), (V.inl Zf r213.2.2.2.2.2.2.1), (V.int .i64 (gi r213.2.1 3)), (V.inl Zd r213.2.2.2.2.2.2.2.1), (V.inl Ze r213.2.2.2.2.2.2.2.2)]) (V.agg [(V.int .i64 (gi r213.2.2.1 2)), (V.inl Zc (gl r213.2.2.1 3)), (V.inl Zc (gl r213.2.2.1 4)), (V.int .i64 (gi r213.2.2.1 5))])) fun r242 =>
      bif ((decide ((0 : Int) ≤ r213.1)) && (decide (r213.1 ≤ (((gl r242.2 5).length : Nat) : Int)))) then
        bif ((Zw (0 + (((gl r242.2 5).take r213.1.toNat).length)) 32) && true) then
          bif ((Zw ((((gl r242.2 5).take r213.1.toNat).length) + 1) 32) && true) then
            bif ((decide ((0 : Int) ≤ r213.1)) && (decide (r213.1 ≤ (((gl r242.2 5).length : Nat) : Int)))) then
              bif ((Zw (((((gl r242.2 5).take r213.1.toNat) ++ [(V.agg [(V.int .i64 (gi r213.2.2.1 0)), (V.int .i64 (gi r213.2.2.1 1)), (V.int .i64 r242.1), (V.int .i64 (gi r213.2.2.2.2.1 1))])]).length) + (((gl r242.2 5).drop (0 + r213.1.toNat)).length)) 32) && true) then
                some ((V.agg [(V.int .i64 r242.1), (V.int .i64 (gi r213.2.2.2.2.1 1))]), (V.agg [(V.int .i64 (gi r242.2 0)), (V.inl Zg (gl r242.2 1)), (V.inl Zf (gl r242.2 2)), (V.int .i64 (gi r242.2 3)), (V.inl Zd (gl r242.2 4)), (V.inl Ze ((((gl r242.2 5).take r213.1.toNat) ++ [(V.agg [(V.int .i64 (gi r213.2.2.1 0)), (V.int .i64 (gi r213.2.2.1 1)), (V.int .i64 r242.1), (V.int .i64 (gi r213.2.2.2.2.1 1))])]) ++ ((gl r242.2 5).drop (0 + r213.1.toNat))))]))
              else none
            else none
          else none
        else none
      else none
    else none
  else Option.bind (Zbj (V.agg [(V.int .i64 (gi r213.2.1 0)), (V.inl Zg r213.2.2.2.2.2.1), (V.inl Zf r213.2.2.2.2.2.2.1), (V.int .i64 (gi r213.2.1 3)), (V.inl Zd r213.2.2.2.2.2.2.2.1), (V.inl Ze r213.2.2.2.2.2.2.2.2)]) (V.agg [(V.int .i64 (gi r213.2.2.1 2)), (V.inl Zc (gl r213.2.2.1 3)), (V.inl Zc (gl r213.2.2.1 4)), (V.int .i64 (gi r213.2.2.1 5))])) fun r243 =>
  bif ((decide ((0 : Int) ≤ r213.1)) && (decide (r213.1 ≤ (((gl r243.2 5).length : Nat) : Int)))) then
    bif ((Zw (0 + (((gl r243.2 5).take r213.1.toNat).length)) 32) && true) then
      bif ((Zw ((((gl r243.2 5).take r213.1.toNat).length) + 1) 32) && true) then
        bif ((decide ((0 : Int) ≤ r213.1)) && (decide (r213.1 ≤ (((gl r243.2 5).length : Nat) : Int)))) then
          bif ((Zw (((((gl r243.2 5).take r213.1.toNat) ++ [(V.agg [(V.int .i64 (gi r213.2.2.1 0)), (V.int .i64 (gi r213.2.2.1 1)), (V.int .i64 r243.1), (V.int .i64 (gi r213.2.2.2.2.1 1))])]).length) + (((gl r243.2 5).drop (0 + r213.1.toNat)).length)) 32) && true) then
            some ((V.agg [(V.int .i64 r243.1), (V.int .i64 (gi r213.2.2.2.2.1 1))]), (V.agg [(V.int .i64 (gi r243.2 0)), (V.inl Zg (gl r243.2 1)), (V.inl Zf (gl r243.2 2)), (V.int .i64 (gi r243.2 3)), (V.inl Zd (gl r243.2 4)), (V.inl Ze ((((gl r243.2 5).take r213.1.toNat) ++ [(V.agg [(V.int .i64 (gi r213.2.2.1 0)), (V.int .i64 (gi r213.2.2.1 1)), (V.int .i64 r243.1), (V.int .i64 (gi r213.2.2.2.2.1 1))])]) ++ ((gl r243.2 5).drop (0 + r213.1.toNat))))]))
          else none
        else none
      else none
    else none
  else none
def ZE : Nat → Int → Int → V → V → V → List V → List V → List V → List V → List V → List V → List V → List V → Option (V × V × V × List V × List V × List V × List V × List V × List V × List V × List V)
  | 0, _, _, _, _, _, _, _, _, _, _, _, _, _ => none
  | k_ + 1, n4, i5, b0, b1, b2, r3, r4, r5, r6, r7, r8, r9, r10 =>
    bif (decide (i5 < n4)) then
      Option.bind (Zh (Zb b0) 3) fun r209 =>
      Option.bind (ZfY (Zb r209.2) (gi b2 0)) fun r210 =>
      bif (decide (i5 = 0)) then
        Option.bind (Zh (Zb r210.2) 2) fun r211 =>
        Option.bind (ZH (Zb r211.2) 9) fun r212 =>
        bif r212.1 then
          Option.bind (ZJ (V.agg [(V.int .i64 (gi b2 0)), (V.inl Zg r7), (V.inl Zf r8), (V.int .i64 (gi b2 3)), (V.inl Zd r9), (V.inl Ze r10)]) (V.agg [(V.int .i64 (-1)), (V.int .i64 0), (V.int .i64 0), (V.inl Zc []), (V.inl Zc []), (V.int .i64 0)])) fun r244 =>
          ZE k_ n4 (IntKind.i64.wrap (i5 + 1)) (Zb r212.2) (V.agg [(V.int .i64 (gi b1 0)), (V.sl 3 Zg 0 none), (V.sl 4 Zf 0 none), (V.int .i64 (gi b1 3)), (V.sl 5 Zd 0 none), (V.sl 6 Ze 0 none)]) (V.agg [(V.int .i64 (gi r244.2 0)), (V.sl 7 Zg 0 none), (V.sl 8 Zf 0 none), (V.int .i64 (gi r244.2 3)), (V.sl 9 Zd 0 none), (V.sl 10 Ze 0 none)]) r3 r4 r5 r6 (gl r244.2 1) (gl r244.2 2) (gl r244.2 4) (gl r244.2 5)
        else Option.bind (ZJ (V.agg [(V.int .i64 (gi b2 0)), (V.inl Zg r7), (V.inl Zf r8), (V.int .i64 (gi b2 3)), (V.inl Zd r9), (V.inl Ze r10)]) (V.agg [(V.int .i64 r209.1), (V.int .i64 (IntKind.i64.wrap (1 + i5))), (V.int .i64 4), (V.inl Zc []), (V.inl Zc []), (V.int .i64 r211.1)])) fun r245 =>
        ZE k_ n4 (IntKind.i64.wrap (i5 + 1)) (Zb r212.2) (V.agg [(V.int .i64 (gi b1 0)), (V.sl 3 Zg 0 none), (V.sl 4 Zf 0 none), (V.int .i64 (gi b1 3)), (V.sl 5 Zd 0 none), (V.sl 6 Ze 0 none)]) (V.agg [(V.int .i64 (gi r245.2 0)), (V.sl 7 Zg 0 none), (V.sl 8 Zf 0 none), (V.int .i64 (gi r245.2 3)), (V.sl 9 Zd 0 none), (V.sl 10 Ze 0 none)]) r3 r4 r5 r6 (gl r245.2 1) (gl r245.2 2) (gl r245.2 4) (gl r245.2 5)
      else bif (decide ((5 : Int) ≤ (gi r210.1 0))) then
        bif (decide ((0 : Int) < ((r9.length : Nat) : Int))) then
          Option.bind (ZH (Zb r210.2) 3) fun r246 =>
          bif (!r246.1) then
            Option.bind (Zh (Zb r246.2) ((r9.length : Nat) : Int)) fun r247 =>
            bif (Zm r247.1 r9.length) then
              Option.bind (ZH (Zb r247.2) 9) fun r248 =>
              bif r248.1 then
                Option.bind (ZJ (V.agg [(V.int .i64 (gi b2 0)), (V.inl Zg r7), (V.inl Zf r8), (V.int .i64 (gi b2 3)), (V.inl Zd r9), (V.inl Ze r10)]) (V.agg [(V.int .i64 (-1)), (V.int .i64 0), (V.int .i64 0), (V.inl Zc []), (V.inl Zc []), (V.int .i64 0)])) fun r249 =>
                ZE k_ n4 (IntKind.i64.wrap (i5 + 1)) (Zb r248.2) (V.agg [(V.int .i64 (gi b1 0)), (V.sl 3 Zg 0 none), (V.sl 4 Zf 0 none), (V.int .i64 (gi b1 3)), (V.sl 5 Zd 0 none), (V.sl 6 Ze 0 none)]) (V.agg [(V.int .i64 (gi r249.2 0)), (V.sl 7 Zg 0 none), (V.sl 8 Zf 0 none), (V.int .i64 (gi r249.2 3)), (V.sl 9 Zd 0 none), (V.sl 10 Ze 0 none)]) r3 r4 r5 r6 (gl r249.2 1) (gl r249.2 2) (gl r249.2 4) (gl r249.2 5)
              else Option.bind (ZJ (V.agg [(V.int .i64 (gi b2 0)), (V.inl Zg r7), (V.inl Zf r8), (V.int .i64 (gi b2 3)), (V.inl Zd r9), (V.inl Ze r10)]) (V.agg [(V.int .i64 r209.1), (V.int .i64 (IntKind.i64.wrap (1 + i5))), (V.int .i64 (gi r210.1 0)), (V.inl Zc (gl r210.1 1)), (V.inl Zc (gl r210.1 2)), (V.int .i64 (gi (rd r9 (0 + r247.1.toNat)) 0))])) fun r250 =>
              ZE k_ n4 (IntKind.i64.wrap (i5 + 1)) (Zb r248.2) (V.agg [(V.int .i64 (gi b1 0)), (V.sl 3 Zg 0 none), (V.sl 4 Zf 0 none), (V.int .i64 (gi b1 3)), (V.sl 5 Zd 0 none), (V.sl 6 Ze 0 none)]) (V.agg [(V.int .i64 (gi r250.2 0)), (V.sl 7 Zg 0 none), (V.sl 8 Zf 0 none), (V.int .i64 (gi r250.2 3)), (V.sl 9 Zd 0 none), (V.sl 10 Ze 0 none)]) r3 r4 r5 r6 (gl r250.2 1) (gl r250.2 2) (gl r250.2 4) (gl r250.2 5)
            else none
          else Option.bind (ZH (Zb r246.2) 9) fun r251 =>
          bif r251.1 then
            Option.bind (ZJ (V.agg [(V.int .i64 (gi b2 0)), (V.inl Zg r7), (V.inl Zf r8), (V.int .i64 (gi b2 3)), (V.inl Zd r9), (V.inl Ze r10)]) (V.agg [(V.int .i64 (-1)), (V.int .i64 0), (V.int .i64 0), (V.inl Zc []), (V.inl Zc []), (V.int .i64 0)])) fun r252 =>
            ZE k_ n4 (IntKind.i64.wrap (i5 + 1)) (Zb r251.2) (V.agg [(V.int .i64 (gi b1 0)), (V.sl 3 Zg 0 none), (V.sl 4 Zf 0 none), (V.int .i64 (gi b1 3)), (V.sl 5 Zd 0 none), (V.sl 6 Ze 0 none)]) (V.agg [(V.int .i64 (gi r252.2 0)), (V.sl 7 Zg 0 none), (V.sl 8 Zf 0 none), (V.int .i64 (gi r252.2 3)), (V.sl 9 Zd 0 none), (V.sl 10 Ze 0 none)]) r3 r4 r5 r6 (gl r252.2 1) (gl r252.2 2) (gl r252.2 4) (gl r252.2 5)
          else Option.bind (ZJ (V.agg [(V.int .i64 (gi b2 0)), (V.inl Zg r7), (V.inl Zf r8), (V.int .i64 (gi b2 3)), (V.inl Zd r9), (V.inl Ze r10)]) (V.agg [(V.int .i64 r209.1), (V.int .i64 (IntKind.i64.wrap (1 + i5))), (V.int .i64 (gi r210.1 0)), (V.inl Zc (gl r210.1 1)), (V.inl Zc (gl r210.1 2)), (V.int .i64 (gi r210.1 3))])) fun r253 =>
          ZE k_ n4 (IntKind.i64.wrap (i5 + 1)) (Zb r251.2) (V.agg [(V.int .i64 (gi b1 0)), (V.sl 3 Zg 0 none), (V.sl 4 Zf 0 none), (V.int .i64 (gi b1 3)), (V.sl 5 Zd 0 none), (V.sl 6 Ze 0 none)]) (V.agg [(V.int .i64 (gi r253.2 0)), (V.sl 7 Zg 0 none), (V.sl 8 Zf 0 none), (V.int .i64 (gi r253.2 3)), (V.sl 9 Zd 0 none), (V.sl 10 Ze 0 none)]) r3 r4 r5 r6 (gl r253.2 1) (gl r253.2 2) (gl r253.2 4) (gl r253.2 5)
        else Option.bind (ZH (Zb r210.2) 9) fun r254 =>
        bif r254.1 then
          Option.bind (ZJ (V.agg [(V.int .i64 (gi b2 0)), (V.inl Zg r7), (V.inl Zf r8), (V.int .i64 (gi b2 3)), (V.inl Zd r9), (V.inl Ze r10)]) (V.agg [(V.int .i64 (-1)), (V.int .i64 0), (V.int .i64 0), (V.inl Zc []), (V.inl Zc []), (V.int .i64 0)])) fun r255 =>
          ZE k_ n4 (IntKind.i64.wrap (i5 + 1)) (Zb r254.2) (V.agg [(V.int .i64 (gi b1 0)), (V.sl 3 Zg 0 none), (V.sl 4 Zf 0 none), (V.int .i64 (gi b1 3)), (V.sl 5 Zd 0 none), (V.sl 6 Ze 0 none)]) (V.agg [(V.int .i64 (gi r255.2 0)), (V.sl 7 Zg 0 none), (V.sl 8 Zf 0 none), (V.int .i64 (gi r255.2 3)), (V.sl 9 Zd 0 none), (V.sl 10 Ze 0 none)]) r3 r4 r5 r6 (gl r255.2 1) (gl r255.2 2) (gl r255.2 4) (gl r255.2 5)
        else Option.bind (ZJ (V.agg [(V.int .i64 (gi b2 0)), (V.inl Zg r7), (V.inl Zf r8), (V.int .i64 (gi b2 3)), (V.inl Zd r9), (V.inl Ze r10)]) (V.agg [(V.int .i64 r209.1), (V.int .i64 (IntKind.i64.wrap (1 + i5))), (V.int .i64 (gi r210.1 0)), (V.inl Zc (gl r210.1 1)), (V.inl Zc (gl r210.1 2)), (V.int .i64 (gi r210.1 3))])) fun r256 =>
        ZE k_ n4 (IntKind.i64.wrap (i5 + 1)) (Zb r254.2) (V.agg [(V.int .i64 (gi b1 0)), (V.sl 3 Zg 0 none), (V.sl 4 Zf 0 none), (V.int .i64 (gi b1 3)), (V.sl 5 Zd 0 none), (V.sl 6 Ze 0 none)]) (V.agg [(V.int .i64 (gi r256.2 0)), (V.sl 7 Zg 0 none), (V.sl 8 Zf 0 none), (V.int .i64 (gi r256.2 3)), (V.sl 9 Zd 0 none), (V.sl 10 Ze 0 none)]) r3 r4 r5 r6 (gl r256.2 1) (gl r256.2 2) (gl r256.2 4) (gl r256.2 5)
      else Option.bind (ZH (Zb r210.2) 9) fun r257 =>
      bif r257.1 then
        Option.bind (ZJ (V.agg [(V.int .i64 (gi b2 0)), (V.inl Zg r7), (V.inl Zf r8), (V.int .i64 (gi b2 3)), (V.inl Zd r9), (V.inl Ze r10)]) (V.agg [(V.int .i64 (-1)), (V.int .i64 0), (V.int .i64 0), (V.inl Zc []), (V.inl Zc []), (V.int .i64 0)])) fun r258 =>
        ZE k_ n4 (IntKind.i64.wrap (i5 + 1)) (Zb r257.2) (V.agg [(V.int .i64 (gi b1 0)), (V.sl 3 Zg 0 none), (V.sl 4 Zf 0 none), (V.int .i64 (gi b1 3)), (V.sl 5 Zd 0 none), (V.sl 6 Ze 0 none)]) (V.agg [(V.int .i64 (gi r258.2 0)), (V.sl 7 Zg 0 none), (V.sl 8 Zf 0 none), (V.int .i64 (gi r258.2 3)), (V.sl 9 Zd 0 none), (V.sl 10 Ze 0 none)]) r3 r4 r5 r6 (gl r258.2 1) (gl r258.2 2) (gl r258.2 4) (gl r258.2 5)
      else Option.bind (ZJ (V.agg [(V.int .i64 (gi b2 0)), (V.inl Zg r7), (V.inl Zf r8), (V.int .i64 (gi b2 3)), (V.inl Zd r9), (V.inl Ze r10)]) (V.agg [(V.int .i64 r209.1), (V.int .i64 (IntKind.i64.wrap (1 + i5))), (V.int .i64 (gi r210.1 0)), (V.inl Zc (gl r210.1 1)), (V.inl Zc (gl r210.1 2)), (V.int .i64 (gi r210.1 3))])) fun r259 =>
      ZE k_ n4 (IntKind.i64.wrap (i5 + 1)) (Zb r257.2) (V.agg [(V.int .i64 (gi b1 0)), (V.sl 3 Zg 0 none), (V.sl 4 Zf 0 none), (V.int .i64 (gi b1 3)), (V.sl 5 Zd 0 none), (V.sl 6 Ze 0 none)]) (V.agg [(V.int .i64 (gi r259.2 0)), (V.sl 7 Zg 0 none), (V.sl 8 Zf 0 none), (V.int .i64 (gi r259.2 3)), (V.sl 9 Zd 0 none), (V.sl 10 Ze 0 none)]) r3 r4 r5 r6 (gl r259.2 1) (gl r259.2 2) (gl r259.2 4) (gl r259.2 5)
    else some ((Zb b0), (V.agg [(V.int .i64 (gi b1 0)), (V.sl 3 Zg 0 none), (V.sl 4 Zf 0 none), (V.int .i64 (gi b1 3)), (V.sl 5 Zd 0 none), (V.sl 6 Ze 0 none)]), (V.agg [(V.int .i64 (gi b2 0)), (V.sl 7 Zg 0 none), (V.sl 8 Zf 0 none), (V.int .i64 (gi b2 3)), (V.sl 9 Zd 0 none), (V.sl 10 Ze 0 none)]), r3, r4, r5, r6, r7, r8, r9, r10)
def Zfj (c : V) : Option (V × V) :=
  Option.bind (Zh (Zb c) 20) fun r208 =>
  Option.bind (ZE ((r208.1 - 0).toNat + 1) r208.1 0 (Zb r208.2) (V.agg [(V.int .i64 0), (V.sl 3 Zg 0 none), (V.sl 4 Zf 0 none), (V.int .i64 0), (V.sl 5 Zd 0 none), (V.sl 6 Ze 0 none)]) (V.agg [(V.int .i64 0), (V.sl 7 Zg 0 none), (V.sl 8 Zf 0 none), (V.int .i64 0), (V.sl 9 Zd 0 none), (V.sl 10 Ze 0 none)]) [] [] [] [] [] [] [] []) fun r260 =>
  some ((V.agg [(V.int .i64 (gi r260.2.2.1 0)), (V.inl Zg r260.2.2.2.2.2.2.2.1), (V.inl Zf r260.2.2.2.2.2.2.2.2.1), (V.int .i64 (gi r260.2.2.1 3)), (V.inl Zd r260.2.2.2.2.2.2.2.2.2.1), (V.inl Ze r260.2.2.2.2.2.2.2.2.2.2)]), (Zb r260.1))
def Zev (c : V) : Option (V × V) :=
  Option.bind (Zfj (Zb c)) fun r261 =>
  Option.bind (ZH (Zb r261.2) 6) fun r262 =>
  bif (!r262.1) then
    some ((Za r261.1), (Zb r262.2))
  else Option.bind (Zh (Zb r262.2) 8) fun r263 =>
  bif (decide (r263.1 = 0)) then
    Option.bind (ZN (Zb r263.2) [(V.int .i64 (-1)), (V.int .i64 0), (V.int .i64 1000000), (V.int .i64 1000001)]) fun r264 =>
    some ((V.agg [(V.int .i64 r264.1), (V.inl Zg (gl r261.1 1)), (V.inl Zf (gl r261.1 2)), (V.int .i64 (gi r261.1 3)), (V.inl Zd (gl r261.1 4)), (V.inl Ze (gl r261.1 5))]), (Zb r264.2))
  else bif (decide (r263.1 = 1)) then
    bif (decide ((0 : Int) < (((gl r261.1 1).length : Nat) : Int))) then
      Option.bind (Zh (Zb r263.2) 9) fun r265 =>
      bif (Zm 0 ((gl r261.1 1).length)) then
        some ((V.agg [(V.int .i64 (gi r261.1 0)), (V.inl Zg ((gl r261.1 1).set 0 (V.agg [(V.inl Zc (gl (rd (gl r261.1 1) 0) 0)), (V.inl Zc (gl (rd (gl r261.1 1) 0) 1)), (V.int .i64 (gi (rd (gl r261.1 1) 0) 2)), (V.int .i64 r265.1)]))), (V.inl Zf (gl r261.1 2)), (V.int .i64 (gi r261.1 3)), (V.inl Zd (gl r261.1 4)), (V.inl Ze (gl r261.1 5))]), (Zb r265.2))
      else none
    else some ((Za r261.1), (Zb r263.2))
  else bif (decide (r263.1 = 2)) then
    bif (decide ((0 : Int) < (((gl r261.1 1).length : Nat) : Int))) then
      Option.bind (ZN (Zb r263.2) [(V.int .i64 0), (V.int .i64 1), (V.int .i64 999)]) fun r266 =>
      bif (Zm 0 ((gl r261.1 1).length)) then
        some ((V.agg [(V.int .i64 (gi r261.1 0)), (V.inl Zg ((gl r261.1 1).set 0 (V.agg [(V.inl Zc (gl (rd (gl r261.1 1) 0) 0)), (V.inl Zc (gl (rd (gl r261.1 1) 0) 1)), (V.int .i64 r266.1), (V.int .i64 (gi (rd (gl r261.1 1) 0) 3))]))), (V.inl Zf (gl r261.1 2)), (V.int .i64 (gi r261.1 3)), (V.inl Zd (gl r261.1 4)), (V.inl Ze (gl r261.1 5))]), (Zb r266.2))
      else none
    else some ((Za r261.1), (Zb r263.2))
  else bif (decide (r263.1 = 3)) then
    Option.bind (ZaS (Zb r263.2)) fun r267 =>
    bif ((Zw (((gl r261.1 2).length) + 1) 32) && true) then
      some ((V.agg [(V.int .i64 (gi r261.1 0)), (V.inl Zg (gl r261.1 1)), (V.inl Zf ((gl r261.1 2) ++ [(V.agg [(V.inl Zc r267.1), (V.int .i64 (gi r261.1 0))])])), (V.int .i64 (gi r261.1 3)), (V.inl Zd (gl r261.1 4)), (V.inl Ze (gl r261.1 5))]), (Zb r267.2))
    else none
  else bif (decide (r263.1 = 4)) then
    Option.bind (ZN (Zb r263.2) [(V.int .i64 (-1)), (V.int .i64 1), (V.int .i64 5)]) fun r268 =>
    some ((V.agg [(V.int .i64 (gi r261.1 0)), (V.inl Zg (gl r261.1 1)), (V.inl Zf (gl r261.1 2)), (V.int .i64 r268.1), (V.inl Zd (gl r261.1 4)), (V.inl Ze (gl r261.1 5))]), (Zb r268.2))
  else bif (decide (r263.1 = 5)) then
    Option.bind (Zh (Zb r263.2) 9) fun r269 =>
    bif ((Zw (((gl r261.1 4).length) + 1) 16) && true) then
      some ((V.agg [(V.int .i64 (gi r261.1 0)), (V.inl Zg (gl r261.1 1)), (V.inl Zf (gl r261.1 2)), (V.int .i64 (gi r261.1 3)), (V.inl Zd ((gl r261.1 4) ++ [(V.agg [(V.int .i64 r269.1), (V.bool false)])])), (V.inl Ze (gl r261.1 5))]), (Zb r269.2))
    else none
  else bif (decide (r263.1 = 6)) then
    Option.bind (Zh (Zb r263.2) 6) fun r270 =>
    bif ((Zw (((gl r261.1 5).length) + 1) 32) && true) then
      some ((V.agg [(V.int .i64 (gi r261.1 0)), (V.inl Zg (gl r261.1 1)), (V.inl Zf (gl r261.1 2)), (V.int .i64 (gi r261.1 3)), (V.inl Zd (gl r261.1 4)), (V.inl Ze ((gl r261.1 5) ++ [(V.agg [(V.int .i64 (IntKind.i64.wrap (r270.1 - 1))), (V.int .i64 1), (V.int .i64 0), (V.int .i64 1)])]))]), (Zb r270.2))
    else none
  else bif (decide ((0 : Int) < (((gl r261.1 1).length : Nat) : Int))) then
    Option.bind (Zh (Zb r263.2) 3) fun r271 =>
    bif (Zm r271.1 3) then
      bif (Zm 0 ((gl r261.1 1).length)) then
        some ((V.agg [(V.int .i64 (gi r261.1 0)), (V.inl Zg ((gl r261.1 1).set 0 (V.agg [(V.inl Zc (gs (rd [(V.str []), (V.str [(V.int .u8 65)]), (V.str [(V.int .u8 122), (V.int .u8 122)])] (0 + r271.1.toNat)) 0)), (V.inl Zc (gl (rd (gl r261.1 1) 0) 1)), (V.int .i64 (gi (rd (gl r261.1 1) 0) 2)), (V.int .i64 (gi (rd (gl r261.1 1) 0) 3))]))), (V.inl Zf (gl r261.1 2)), (V.int .i64 (gi r261.1 3)), (V.inl Zd (gl r261.1 4)), (V.inl Ze (gl r261.1 5))]), (Zb r271.2))
      else none
    else none
  else some ((Za r261.1), (Zb r263.2))
def ZeE (c : V) : Option (V × V) :=
  Option.bind (ZfY (Zb c) 6) fun r275 =>
  Option.bind (ZH (Zb r275.2) 6) fun r276 =>
  bif r276.1 then
    Option.bind (Zh (Zb r276.2) 4) fun r277 =>
    bif (decide (r277.1 = 0)) then
      Option.bind (ZN (Zb r277.2) [(V.int .i64 (-1)), (V.int .i64 8), (V.int .i64 0), (V.int .i64 2)]) fun r278 =>
      some ((V.agg [(V.int .i64 r278.1), (V.inl Zc (gl r275.1 1)), (V.inl Zc (gl r275.1 2)), (V.int .i64 (gi r275.1 3))]), (Zb r278.2))
    else bif (decide (r277.1 = 1)) then
      bif ((Zw (((gl r275.1 1).length) + 1) 1) && true) then
        some ((V.agg [(V.int .i64 (gi r275.1 0)), (V.inl Zc ((gl r275.1 1) ++ [(V.int .u8 65)])), (V.inl Zc (gl r275.1 2)), (V.int .i64 (gi r275.1 3))]), (Zb r277.2))
      else none
    else bif (decide (r277.1 = 2)) then
      Option.bind (Zh (Zb r277.2) 2) fun r279 =>
      bif (((decide ((0 : Int) ≤ (IntKind.i64.wrap (20 + r279.1)))) && decide ((IntKind.i64.wrap (20 + r279.1)) = (IntKind.i64.wrap (20 + r279.1)))) && (Zw ((IntKind.i64.wrap (20 + r279.1)).toNat) 1)) then
        some ((V.agg [(V.int .i64 (gi r275.1 0)), (V.inl Zc (gl r275.1 1)), (V.inl Zc (List.replicate ((IntKind.i64.wrap (20 + r279.1)).toNat) (V.int .u8 0))), (V.int .i64 (gi r275.1 3))]), (Zb r279.2))
      else none
    else Option.bind (ZN (Zb r277.2) [(V.int .i64 (-1)), (V.int .i64 0), (V.int .i64 1), (V.int .i64 2), (V.int .i64 1000000), (V.int .i64 1000001)]) fun r280 =>
    some ((V.agg [(V.int .i64 (gi r275.1 0)), (V.inl Zc (gl r275.1 1)), (V.inl Zc (gl r275.1 2)), (V.int .i64 r280.1)]), (Zb r280.2))
  else some ((ZpW r275.1), (Zb r276.2))
def Zel (c : V) : Option (V × V) :=
  Option.bind (Zh (Zb c) 4) fun r273 =>
  Option.bind (Zh (Zb r273.2) 25) fun r274 =>
  Option.bind (ZeE (Zb r274.2)) fun r281 =>
  Option.bind (ZH (Zb r281.2) 8) fun r282 =>
  bif r282.1 then
    Option.bind (ZH (Zb r282.2) 10) fun r283 =>
    bif r283.1 then
      Option.bind (ZN (Zb r283.2) [(V.int .i64 (-1)), (V.int .i64 0), (V.int .i64 1), (V.int .i64 1000000), (V.int .i64 1000001)]) fun r284 =>
      Option.bind (ZH (Zb r284.2) 20) fun r285 =>
      bif r285.1 then
        Option.bind (ZN (Zb r285.2) [(V.int .i64 (-2)), (V.int .i64 (-1)), (V.int .i64 3), (V.int .i64 4)]) fun r286 =>
        some ((V.agg [(V.int .i64 r286.1), (V.int .i64 r284.1), (V.int .i64 0), (V.inl Zc []), (V.inl Zc []), (V.int .i64 0)]), (Zb r286.2))
      else some ((V.agg [(V.int .i64 (-1)), (V.int .i64 r284.1), (V.int .i64 0), (V.inl Zc []), (V.inl Zc []), (V.int .i64 0)]), (Zb r285.2))
    else Option.bind (ZH (Zb r283.2) 20) fun r287 =>
    bif r287.1 then
      Option.bind (ZN (Zb r287.2) [(V.int .i64 (-2)), (V.int .i64 (-1)), (V.int .i64 3), (V.int .i64 4)]) fun r288 =>
      some ((V.agg [(V.int .i64 r288.1), (V.int .i64 0), (V.int .i64 0), (V.inl Zc []), (V.inl Zc []), (V.int .i64 0)]), (Zb r288.2))
    else some ((V.agg [(V.int .i64 (-1)), (V.int .i64 0), (V.int .i64 0), (V.inl Zc []), (V.inl Zc []), (V.int .i64 0)]), (Zb r287.2))
  else Option.bind (ZH (Zb r282.2) 10) fun r289 =>
  bif r289.1 then
    Option.bind (ZN (Zb r289.2) [(V.int .i64 (-1)), (V.int .i64 0), (V.int .i64 1), (V.int .i64 1000000), (V.int .i64 1000001)]) fun r290 =>
    Option.bind (ZH (Zb r290.2) 20) fun r291 =>
    bif r291.1 then
      Option.bind (ZN (Zb r291.2) [(V.int .i64 (-2)), (V.int .i64 (-1)), (V.int .i64 3), (V.int .i64 4)]) fun r292 =>
      some ((V.agg [(V.int .i64 r292.1), (V.int .i64 r290.1), (V.int .i64 (gi r281.1 0)), (V.inl Zc (gl r281.1 1)), (V.inl Zc (gl r281.1 2)), (V.int .i64 (gi r281.1 3))]), (Zb r292.2))
    else some ((V.agg [(V.int .i64 r273.1), (V.int .i64 r290.1), (V.int .i64 (gi r281.1 0)), (V.inl Zc (gl r281.1 1)), (V.inl Zc (gl r281.1 2)), (V.int .i64 (gi r281.1 3))]), (Zb r291.2))
  else Option.bind (ZH (Zb r289.2) 20) fun r293 =>
  bif r293.1 then
    Option.bind (ZN (Zb r293.2) [(V.int .i64 (-2)), (V.int .i64 (-1)), (V.int .i64 3), (V.int .i64 4)]) fun r294 =>
    some ((V.agg [(V.int .i64 r294.1), (V.int .i64 (IntKind.i64.wrap (1 + r274.1))), (V.int .i64 (gi r281.1 0)), (V.inl Zc (gl r281.1 1)), (V.inl Zc (gl r281.1 2)), (V.int .i64 (gi r281.1 3))]), (Zb r294.2))
  else some ((V.agg [(V.int .i64 r273.1), (V.int .i64 (IntKind.i64.wrap (1 + r274.1))), (V.int .i64 (gi r281.1 0)), (V.inl Zc (gl r281.1 1)), (V.inl Zc (gl r281.1 2)), (V.int .i64 (gi r281.1 3))]), (Zb r293.2))
def Zbm (code : List V) : Option (V × V) :=
  Option.bind (Zek code) fun r2 =>
  Option.bind (Zev (Zb r2)) fun r272 =>
  Option.bind (Zel (Zb r272.2)) fun r295 =>
  bif (decide ((0 : Int) < (((gl r272.1 4).length : Nat) : Int))) then
    bif (decide ((5 : Int) ≤ (gi r295.1 2))) then
      Option.bind (ZH (Zb r295.2) 2) fun r296 =>
      bif r296.1 then
        Option.bind (Zh (Zb r296.2) (((gl r272.1 4).length : Nat) : Int)) fun r297 =>
        bif (Zm r297.1 ((gl r272.1 4).length)) then
          Option.bind (ZH (Zb r297.2) 2) fun r298 =>
          bif r298.1 then
            some ((Za r272.1), (V.agg [(V.int .i64 (gi r295.1 0)), (V.int .i64 (IntKind.i64.wrap ((gi r295.1 1) + 20))), (V.int .i64 (gi r295.1 2)), (V.inl Zc (gl r295.1 3)), (V.inl Zc (gl r295.1 4)), (V.int .i64 (gi (rd (gl r272.1 4) (0 + r297.1.toNat)) 0))]))
          else some ((Za r272.1), (V.agg [(V.int .i64 (gi r295.1 0)), (V.int .i64 (gi r295.1 1)), (V.int .i64 (gi r295.1 2)), (V.inl Zc (gl r295.1 3)), (V.inl Zc (gl r295.1 4)), (V.int .i64 (gi (rd (gl r272.1 4) (0 + r297.1.toNat)) 0))]))
        else none
      else Option.bind (ZH (Zb r296.2) 2) fun r299 =>
      bif r299.1 then
        some ((Za r272.1), (V.agg [(V.int .i64 (gi r295.1 0)), (V.int .i64 (IntKind.i64.wrap ((gi r295.1 1) + 20))), (V.int .i64 (gi r295.1 2)), (V.inl Zc (gl r295.1 3)), (V.inl Zc (gl r295.1 4)), (V.int .i64 (gi r295.1 5))]))
      else some ((Za r272.1), (Zn r295.1))
    else Option.bind (ZH (Zb r295.2) 2) fun r300 =>
    bif r300.1 then
      some ((Za r272.1), (V.agg [(V.int .i64 (gi r295.1 0)), (V.int .i64 (IntKind.i64.wrap ((gi r295.1 1) + 20))), (V.int .i64 (gi r295.1 2)), (V.inl Zc (gl r295.1 3)), (V.inl Zc (gl r295.1 4)), (V.int .i64 (gi r295.1 5))]))
    else some ((Za r272.1), (Zn r295.1))
  else Option.bind (ZH (Zb r295.2) 2) fun r301 =>
  bif r301.1 then
    some ((Za r272.1), (V.agg [(V.int .i64 (gi r295.1 0)), (V.int .i64 (IntKind.i64.wrap ((gi r295.1 1) + 20))), (V.int .i64 (gi r295.1 2)), (V.inl Zc (gl r295.1 3)), (V.inl Zc (gl r295.1 4)), (V.int .i64 (gi r295.1 5))]))
  else some ((Za r272.1), (Zn r295.1))
def ZQ (n : Int) (low : Int) (high : Int) : Bool :=
  bif (decide (low ≤ n)) then
    (decide (n ≤ high))
  else false
def Zbu : Nat → List V → List V → Int → Int → Option (Nat × List V × Bool)
  | 0, _, _, _, _ => none
  | k_ + 1, b0, v5, v6, v7 =>
    bif (decide (v7 < v6)) then
      bif (Zm v7 v5.length) then
        bif (decide ((gi (rd v5 v7.toNat) 0) < 97)) then
          bif (!(decide ((gi (rd v5 v7.toNat) 0) = 47))) then
            some (0, b0, false)
          else Zbu k_ b0 v5 v6 (IntKind.i64.wrap (v7 + 1))
        else bif (decide ((122 : Int) < (gi (rd v5 v7.toNat) 0))) then
          bif (!(decide ((gi (rd v5 v7.toNat) 0) = 47))) then
            some (0, b0, false)
          else Zbu k_ b0 v5 v6 (IntKind.i64.wrap (v7 + 1))
        else Zbu k_ b0 v5 v6 (IntKind.i64.wrap (v7 + 1))
      else none
    else some (1, b0, false)
def ZbI (b : List V) : Option (Bool) :=
  Option.bind (Zbu ((((b.length : Nat) : Int) - 0).toNat + 1) b b ((b.length : Nat) : Int) 0) fun r303 =>
  bif (Nat.beq r303.1 0) then
    some r303.2.2
  else some (ZQ ((r303.2.1.length : Nat) : Int) 1 20)
def Zcw (b : List V) : Bool :=
  (decide (((b.length : Nat) : Int) ≤ 20))
def Zfk (x : V) (a1 : V) : Bool :=
  (decide ((gi x 0) = (gi a1 0)))
def Zad : Nat → List V → V → Int → Int → Option (Nat × Int)
  | 0, _, _, _, _ => none
  | k_ + 1, s0, f1_0, v7, v8 =>
    bif (decide (v8 < v7)) then
      bif (Zm v8 s0.length) then
        bif Zfk (ZD (rd s0 v8.toNat)) (V.agg [(V.int .i64 (gi f1_0 0))]) then
          some (0, v8)
        else Zad k_ s0 (V.agg [(V.int .i64 (gi f1_0 0))]) v7 (IntKind.i64.wrap (v8 + 1))
      else none
    else some (1, 0)
def Zcx (s : List V) (f_0 : V) : Option (Int) :=
  Option.bind (Zad ((((s.length : Nat) : Int) - 0).toNat + 1) s (V.agg [(V.int .i64 (gi f_0 0))]) ((s.length : Nat) : Int) 0) fun r305 =>
  bif (Nat.beq r305.1 0) then
    some r305.2
  else some (-1)
def Zbk (s : V) (id : Int) : Option (Int) :=
  Option.bind (Zcx (gl s 4) (V.agg [(V.int .i64 id)])) fun r306 =>
  some r306
def Zdr (r : V) (key : List V) : Int :=
  (ZgD (gl r 0) key)
def ZO : Nat → List V → List V → Int → Int → Int → Option (List V × List V × Int × Int)
  | 0, _, _, _, _, _ => none
  | k_ + 1, x0, target1, n8, i9, j10 =>
    bif (decide (i9 < j10)) then
      bif (Zm (IntKind.i64.wrap (ZeQ .u64 (IntKind.u64.wrap (IntKind.i64.wrap (i9 + j10))) 1)) x0.length) then
        bif (decide ((Zdr (ZhX (rd x0 ((IntKind.i64.wrap (ZeQ .u64 (IntKind.u64.wrap (IntKind.i64.wrap (i9 + j10))) 1)).toNat))) target1) < 0)) then
          ZO k_ x0 target1 n8 (IntKind.i64.wrap ((IntKind.i64.wrap (ZeQ .u64 (IntKind.u64.wrap (IntKind.i64.wrap (i9 + j10))) 1)) + 1)) j10
        else ZO k_ x0 target1 n8 i9 (IntKind.i64.wrap (ZeQ .u64 (IntKind.u64.wrap (IntKind.i64.wrap (i9 + j10))) 1))
      else none
    else some (x0, target1, n8, i9)
def Zbn (x : List V) (target : List V) : Option (Int × Bool) :=
  Option.bind (ZO ((((x.length : Nat) : Int) - 0).toNat + 1) x target ((x.length : Nat) : Int) 0 ((x.length : Nat) : Int)) fun r309 =>
  bif (decide (r309.2.2.2 < r309.2.2.1)) then
    bif (Zm r309.2.2.2 r309.1.length) then
      some (r309.2.2.2, (decide ((Zdr (ZhX (rd r309.1 r309.2.2.2.toNat)) r309.2.1) = 0)))
    else none
  else some (r309.2.2.2, false)
def Zbz (s : V) (key : List V) : Option (Int × Bool) :=
  Option.bind (Zbn (gl s 1) key) fun r310 =>
  some (r310.1, r310.2)
def Zew (a : List V) (b : List V) : Bool :=
  (Zbx (a.map Zay) (b.map Zay))
def Zga (t : V) (a1 : V) : Bool :=
  (Zew (gl t 0) (gl a1 0))
def Zas : Nat → List V → V → Int → Int → Option (Nat × Int)
  | 0, _, _, _, _ => none
  | k_ + 1, s0, f1_0, v7, v8 =>
    bif (decide (v8 < v7)) then
      bif (Zm v8 s0.length) then
        bif Zga (Zn5 (rd s0 v8.toNat)) (V.agg [(V.inl Zc (gl f1_0 0))]) then
          some (0, v8)
        else Zas k_ s0 (V.agg [(V.inl Zc (gl f1_0 0))]) v7 (IntKind.i64.wrap (v8 + 1))
      else none
    else some (1, 0)
def Zdc (s : List V) (f_0 : V) : Option (Int) :=
  Option.bind (Zas ((((s.length : Nat) : Int) - 0).toNat + 1) s (V.agg [(V.inl Zc (gl f_0 0))]) ((s.length : Nat) : Int) 0) fun r313 =>
  bif (Nat.beq r313.1 0) then
    some r313.2
  else some (-1)
def ZbJ (s : V) (key : List V) : Option (Int) :=
  Option.bind (Zdc (gl s 2) (V.agg [(V.inl Zc key)])) fun r314 =>
  some r314
def ZaG : Nat → List V → Int → Int → V → Option (Nat × Bool × V)
  | 0, _, _, _, _ => none
  | k_ + 1, v51, v52, v53, b0 =>
    bif (decide (v53 < v52)) then
      bif (Zm v53 v51.length) then
        Option.bind (ZbI (gl (rd v51 v53.toNat) 0)) fun r304 =>
        bif (!r304) then
          some (0, false, (Za b0))
        else bif (!(Zcw (gl (rd v51 v53.toNat) 1))) then
          some (0, false, (Za b0))
        else bif (!(ZQ (gi (rd v51 v53.toNat) 2) 1 (gi b0 0))) then
          some (0, false, (Za b0))
        else bif (!(decide ((gi (rd v51 v53.toNat) 3) = 0))) then
          Option.bind (Zbk (Za b0) (gi (rd v51 v53.toNat) 3)) fun r307 =>
          bif (decide (r307 < 0)) then
            some (0, false, (Za b0))
          else bif (decide ((0 : Int) < v53)) then
            bif (Zm (IntKind.i64.wrap (v53 - 1)) ((gl b0 1).length)) then
              bif (decide ((0 : Int) ≤ (ZgD (gl (rd (gl b0 1) ((IntKind.i64.wrap (v53 - 1)).toNat)) 0) (gl (rd v51 v53.toNat) 0)))) then
                some (0, false, (Za b0))
              else ZaG k_ v51 v52 (IntKind.i64.wrap (v53 + 1)) (Za b0)
            else none
          else ZaG k_ v51 v52 (IntKind.i64.wrap (v53 + 1)) (Za b0)
        else bif (decide ((0 : Int) < v53)) then
          bif (Zm (IntKind.i64.wrap (v53 - 1)) ((gl b0 1).length)) then
            bif (decide ((0 : Int) ≤ (ZgD (gl (rd (gl b0 1) ((IntKind.i64.wrap (v53 - 1)).toNat)) 0) (gl (rd v51 v53.toNat) 0)))) then
              some (0, false, (Za b0))
            else ZaG k_ v51 v52 (IntKind.i64.wrap (v53 + 1)) (Za b0)
          else none
        else ZaG k_ v51 v52 (IntKind.i64.wrap (v53 + 1)) (Za b0)
      else none
    else some (1, false, (Za b0))
def ZaY : Nat → Int → List V → Int → Int → V → Option (Nat × Bool × V)
  | 0, _, _, _, _, _ => none
  | k_ + 1, before5, v110, v111, v112, b0 =>
    bif (decide (v112 < v111)) then
      bif (Zm v112 v110.length) then
        Option.bind (Zbz (Za b0) (gl (rd v110 v112.toNat) 0)) fun r311 =>
        bif r311.2 then
          some (0, false, (Za b0))
        else Option.bind (ZbI (gl (rd v110 v112.toNat) 0)) fun r312 =>
        bif (!r312) then
          some (0, false, (Za b0))
        else Option.bind (ZbJ (Za b0) (gl (rd v110 v112.toNat) 0)) fun r315 =>
        bif (!(decide (r315 = v112))) then
          some (0, false, (Za b0))
        else bif (!(ZQ (gi (rd v110 v112.toNat) 1) before5 (gi b0 0))) then
          some (0, false, (Za b0))
        else ZaY k_ (gi (rd v110 v112.toNat) 1) v110 v111 (IntKind.i64.wrap (v112 + 1)) (Za b0)
      else none
    else some (1, false, (Za b0))
def ZaZ : Nat → List V → Int → Int → V → Option (Nat × Bool × V)
  | 0, _, _, _, _ => none
  | k_ + 1, v152, v153, v154, b0 =>
    bif (decide (v154 < v153)) then
      bif (Zm v154 v152.length) then
        bif (!(ZQ (gi (rd v152 v154.toNat) 0) 1 (gi b0 0))) then
          some (0, false, (Za b0))
        else bif (decide ((0 : Int) < v154)) then
          bif (Zm (IntKind.i64.wrap (v154 - 1)) ((gl b0 4).length)) then
            bif (decide ((gi (rd v152 v154.toNat) 0) ≤ (gi (rd (gl b0 4) ((IntKind.i64.wrap (v154 - 1)).toNat)) 0))) then
              some (0, false, (Za b0))
            else ZaZ k_ v152 v153 (IntKind.i64.wrap (v154 + 1)) (Za b0)
          else none
        else ZaZ k_ v152 v153 (IntKind.i64.wrap (v154 + 1)) (Za b0)
      else none
    else some (1, false, (Za b0))
def Za0 : Nat → List V → Int → Int → V → Option (Nat × Bool)
  | 0, _, _, _, _ => none
  | k_ + 1, v183, v184, v185, b0 =>
    bif (decide (v185 < v184)) then
      bif (Zm v185 v183.length) then
        bif (!(ZQ (gi (rd v183 v185.toNat) 0) 0 3)) then
          some (0, false)
        else bif (!(ZQ (gi (rd v183 v185.toNat) 1) 1 1000000)) then
          some (0, false)
        else bif (!(ZQ (gi (rd v183 v185.toNat) 2) 0 5)) then
          some (0, false)
        else bif (!(ZQ (gi (rd v183 v185.toNat) 3) 1 (gi b0 0))) then
          some (0, false)
        else bif (decide ((0 : Int) < v185)) then
          bif (Zm (IntKind.i64.wrap (v185 - 1)) ((gl b0 5).length)) then
            bif (decide ((gi (rd v183 v185.toNat) 0) ≤ (gi (rd (gl b0 5) ((IntKind.i64.wrap (v185 - 1)).toNat)) 0))) then
              some (0, false)
            else Za0 k_ v183 v184 (IntKind.i64.wrap (v185 + 1)) (Za b0)
          else none
        else Za0 k_ v183 v184 (IntKind.i64.wrap (v185 + 1)) (Za b0)
      else none
    else some (1, false)
def Zd6 (s : V) : Option (Bool) :=
  bif (!(ZQ (gi s 0) 0 1000000)) then
    some false
  else bif (!(ZQ (gi s 3) 0 (gi s 0))) then
    some false
  else bif (decide ((20 : Int) < (((gl s 1).length : Nat) : Int))) then
    some false
  else bif (decide ((10 : Int) < (((gl s 2).length : Nat) : Int))) then
    some false
  else bif (decide ((8 : Int) < (((gl s 4).length : Nat) : Int))) then
    some false
  else bif (decide ((4 : Int) < (((gl s 5).length : Nat) : Int))) then
    some false
  else Option.bind (ZaG (((((gl s 1).length : Nat) : Int) - 0).toNat + 1) (gl s 1) (((gl s 1).length : Nat) : Int) 0 (Za s)) fun r308 =>
  bif (Nat.beq r308.1 0) then
    some r308.2.1
  else Option.bind (ZaY (((((gl r308.2.2 2).length : Nat) : Int) - 0).toNat + 1) (mxI 1 (gi r308.2.2 3)) (gl r308.2.2 2) (((gl r308.2.2 2).length : Nat) : Int) 0 (Za r308.2.2)) fun r316 =>
  bif (Nat.beq r316.1 0) then
    some r316.2.1
  else Option.bind (ZaZ (((((gl r316.2.2 4).length : Nat) : Int) - 0).toNat + 1) (gl r316.2.2 4) (((gl r316.2.2 4).length : Nat) : Int) 0 (Za r316.2.2)) fun r317 =>
  bif (Nat.beq r317.1 0) then
    some r317.2.1
  else Option.bind (Za0 (((((gl r317.2.2 5).length : Nat) : Int) - 0).toNat + 1) (gl r317.2.2 5) (((gl r317.2.2 5).length : Nat) : Int) 0 (Za r317.2.2)) fun r318 =>
  bif (Nat.beq r318.1 0) then
    some r318.2
  else some true
def ZgV : V :=
  (V.agg [(V.int .i64 (-1)), (V.int .i64 0), (V.int .i64 0), (V.inl Zc []), (V.inl Zc []), (V.int .i64 0)])
def ZgF (o : V) (p : V) : Bool :=
  bif (decide ((gi o 0) = (gi p 0))) then
    bif Zew (gl o 1) (gl p 1) then
      bif Zew (gl o 2) (gl p 2) then
        (decide ((gi o 3) = (gi p 3)))
      else false
    else false
  else false
def ZeF (c : V) (d : V) : Bool :=
  bif (decide ((gi c 0) = (gi d 0))) then
    bif (decide ((gi c 1) = (gi d 1))) then
      (ZgF (V.agg [(V.int .i64 (gi c 2)), (V.inl Zc (gl c 3)), (V.inl Zc (gl c 4)), (V.int .i64 (gi c 5))]) (V.agg [(V.int .i64 (gi d 2)), (V.inl Zc (gl d 3)), (V.inl Zc (gl d 4)), (V.int .i64 (gi d 5))]))
    else false
  else false
def ZgW (o : V) : Option (Bool) :=
  bif (decide ((gi o 0) = 0)) then
    bif ZQ (gi o 3) 0 0 then
      bif (decide ((((gl o 1).length : Nat) : Int) = 0)) then
        some (decide ((((gl o 2).length : Nat) : Int) = 0))
      else some false
    else some false
  else bif (decide ((gi o 0) = 1)) then
    bif ZQ (gi o 3) 0 0 then
      Option.bind (ZbI (gl o 1)) fun r320 =>
      bif r320 then
        bif Zcw (gl o 2) then
          some true
        else some false
      else some false
    else some false
  else bif (decide ((gi o 0) = 2)) then
    bif ZQ (gi o 3) 0 1000000 then
      Option.bind (ZbI (gl o 1)) fun r321 =>
      bif r321 then
        bif Zcw (gl o 2) then
          some true
        else some false
      else some false
    else some false
  else bif (decide ((gi o 0) = 3)) then
    bif ZQ (gi o 3) 0 0 then
      Option.bind (ZbI (gl o 1)) fun r322 =>
      bif r322 then
        some (decide ((((gl o 2).length : Nat) : Int) = 0))
      else some false
    else some false
  else bif (decide ((gi o 0) = 4)) then
    bif ZQ (gi o 3) 0 1 then
      bif (decide ((((gl o 1).length : Nat) : Int) = 0)) then
        some (decide ((((gl o 2).length : Nat) : Int) = 0))
      else some false
    else some false
  else bif (decide ((gi o 0) = 5)) then
    bif ZQ (gi o 3) 1 1000000 then
      bif (decide ((((gl o 1).length : Nat) : Int) = 0)) then
        some (decide ((((gl o 2).length : Nat) : Int) = 0))
      else some false
    else some false
  else bif (decide ((gi o 0) = 6)) then
    bif ZQ (gi o 3) 1 1000000 then
      Option.bind (ZbI (gl o 1)) fun r323 =>
      bif r323 then
        bif Zcw (gl o 2) then
          some true
        else some false
      else some false
    else some false
  else bif (decide ((gi o 0) = 7)) then
    bif ZQ (gi o 3) 1 1000000 then
      Option.bind (ZbI (gl o 1)) fun r324 =>
      bif r324 then
        some (decide ((((gl o 2).length : Nat) : Int) = 0))
      else some false
    else some false
  else some false
def Zem (c : V) : Option (Bool) :=
  bif ZeF (Zn c) (Zn ZgV) then
    some true
  else bif ZQ (gi c 0) 0 3 then
    bif ZQ (gi c 1) 1 1000000 then
      Option.bind (ZgW (V.agg [(V.int .i64 (gi c 2)), (V.inl Zc (gl c 3)), (V.inl Zc (gl c 4)), (V.int .i64 (gi c 5))])) fun r325 =>
      some r325
    else some false
  else some false
def Zcy (s : List V) : Option (List V) :=
  bif ((Zw (0 + s.length) 64) && true) then
    some s
  else none
def Zcd (s : List V) : Option (List V) :=
  bif ((Zw (0 + s.length) 32) && true) then
    some s
  else none
def ZbK (s : List V) : Option (List V) :=
  bif ((Zw (0 + s.length) 16) && true) then
    some s
  else none
def Zce (s : List V) : Option (List V) :=
  bif ((Zw (0 + s.length) 32) && true) then
    some s
  else none
def Zaa (s : List V) : Option (List V) :=
  bif ((Zw (0 + s.length) 1) && true) then
    some s
  else none
def Za9 : Nat → Int → Int → V → V → List V → List V → List V → List V → List V → List V → List V → List V → Option (V × V × List V × List V × List V × List V × List V × List V × List V × List V)
  | 0, _, _, _, _, _, _, _, _, _, _, _, _ => none
  | k_ + 1, v25, v26, b0, b1, r2, r3, r4, r5, r6, r7, r8, r9 =>
    bif (decide (v26 < v25)) then
      bif (Zm v26 r2.length) then
        Option.bind (Zaa (gl (rd r2 (0 + v26.toNat)) 0)) fun r335 =>
        Option.bind (Zaa (gl (rd r2 (0 + v26.toNat)) 1)) fun r336 =>
        bif (Zm v26 r2.length) then
          bif (Zm v26 ((r2.set (0 + v26.toNat) (V.agg [(V.inl Zc r335), (V.inl Zc (gl (rd r2 (0 + v26.toNat)) 1)), (V.int .i64 (gi (rd r2 (0 + v26.toNat)) 2)), (V.int .i64 (gi (rd r2 (0 + v26.toNat)) 3))])).length)) then
            Za9 k_ v25 (IntKind.i64.wrap (v26 + 1)) (V.agg [(V.int .i64 (gi b0 0)), (V.sl 2 Zg 0 none), (V.sl 3 Zf 0 none), (V.int .i64 (gi b0 3)), (V.sl 4 Zd 0 none), (V.sl 5 Ze 0 none)]) (V.agg [(V.int .i64 (gi b1 0)), (V.sl 6 Zg 0 none), (V.sl 7 Zf 0 none), (V.int .i64 (gi b1 3)), (V.sl 8 Zd 0 none), (V.sl 9 Ze 0 none)]) ((r2.set (0 + v26.toNat) (V.agg [(V.inl Zc r335), (V.inl Zc (gl (rd r2 (0 + v26.toNat)) 1)), (V.int .i64 (gi (rd r2 (0 + v26.toNat)) 2)), (V.int .i64 (gi (rd r2 (0 + v26.toNat)) 3))])).set (0 + v26.toNat) (V.agg [(V.inl Zc (gl (rd (r2.set (0 + v26.toNat) (V.agg [(V.inl Zc r335), (V.inl Zc (gl (rd r2 (0 + v26.toNat)) 1)), (V.int .i64 (gi (rd r2 (0 + v26.toNat)) 2)), (V.int .i64 (gi (rd r2 (0 + v26.toNat)) 3))])) (0 + v26.toNat)) 0)), (V.inl Zc r336), (V.int .i64 (gi (rd (r2.set (0 + v26.toNat) (V.agg [(V.inl Zc r335), (V.inl Zc (gl (rd r2 (0 + v26.toNat)) 1)), (V.int .i64 (gi (rd r2 (0 + v26.toNat)) 2)), (V.int .i64 (gi (rd r2 (0 + v26.toNat)) 3))])) (0 + v26.toNat)) 2)), (V.int .i64 (gi (rd (r2.set (0 + v26.toNat) (V.agg [(V.inl Zc r335), (V.inl Zc (gl (rd r2 (0 + v26.toNat)) 1)), (V.int .i64 (gi (rd r2 (0 + v26.toNat)) 2)), (V.int .i64 (gi (rd r2 (0 + v26.toNat)) 3))])) (0 + v26.toNat)) 3))])) r3 r4 r5 r6 r7 r8 r9
          else none
        else none
      else none
    else some ((V.agg [(V.int .i64 (gi b0 0)), (V.sl 2 Zg 0 none), (V.sl 3 Zf 0 none), (V.int .i64 (gi b0 3)), (V.sl 4 Zd 0 none), (V.sl 5 Ze 0 none)]), (V.agg [(V.int .i64 (gi b1 0)), (V.sl 6 Zg 0 none), (V.sl 7 Zf 0 none), (V.int .i64 (gi b1 3)), (V.sl 8 Zd 0 none), (V.sl 9 Ze 0 none)]), r2, r3, r4, r5, r6, r7, r8, r9)
def Zba : Nat → Int → Int → V → V → List V → List V → List V → List V → List V → List V → List V → List V → Option (V × V × List V × List V × List V × List V × List V × List V × List V × List V)
  | 0, _, _, _, _, _, _, _, _, _, _, _, _ => none
  | k_ + 1, v50, v51, b0, b1, r2, r3, r4, r5, r6, r7, r8, r9 =>
    bif (decide (v51 < v50)) then
      bif (Zm v51 r2.length) then
        Option.bind (Zaa (gl (rd r2 (0 + v51.toNat)) 0)) fun r338 =>
        bif (Zm v51 r2.length) then
          Zba k_ v50 (IntKind.i64.wrap (v51 + 1)) (V.agg [(V.int .i64 (gi b0 0)), (V.sl 3 Zg 0 none), (V.sl 2 Zf 0 none), (V.int .i64 (gi b0 3)), (V.sl 4 Zd 0 none), (V.sl 5 Ze 0 none)]) (V.agg [(V.int .i64 (gi b1 0)), (V.sl 6 Zg 0 none), (V.sl 7 Zf 0 none), (V.int .i64 (gi b1 3)), (V.sl 8 Zd 0 none), (V.sl 9 Ze 0 none)]) (r2.set (0 + v51.toNat) (V.agg [(V.inl Zc r338), (V.int .i64 (gi (rd r2 (0 + v51.toNat)) 1))])) r3 r4 r5 r6 r7 r8 r9
        else none
      else none
    else some ((V.agg [(V.int .i64 (gi b0 0)), (V.sl 2 Zg 0 none), (V.sl 3 Zf 0 none), (V.int .i64 (gi b0 3)), (V.sl 4 Zd 0 none), (V.sl 5 Ze 0 none)]), (V.agg [(V.int .i64 (gi b1 0)), (V.sl 6 Zg 0 none), (V.sl 7 Zf 0 none), (V.int .i64 (gi b1 3)), (V.sl 8 Zd 0 none), (V.sl 9 Ze 0 none)]), r3, r2, r4, r5, r6, r7, r8, r9)
def Zcp (s : V) : Option (V) :=
  Option.bind (Zcy (gl s 1)) fun r331 =>
  Option.bind (Zcd (gl s 2)) fun r332 =>
  Option.bind (ZbK (gl s 4)) fun r333 =>
  Option.bind (Zce (gl s 5)) fun r334 =>
  Option.bind (Za9 ((((r331.length : Nat) : Int) - 0).toNat + 1) ((r331.length : Nat) : Int) 0 (V.agg [(V.int .i64 (gi s 0)), (V.sl 2 Zg 0 none), (V.sl 3 Zf 0 none), (V.int .i64 (gi s 3)), (V.sl 4 Zd 0 none), (V.sl 5 Ze 0 none)]) (V.agg [(V.int .i64 0), (V.sl 6 Zg 0 none), (V.sl 7 Zf 0 none), (V.int .i64 0), (V.sl 8 Zd 0 none), (V.sl 9 Ze 0 none)]) r331 r332 r333 r334 [] [] [] []) fun r337 =>
  Option.bind (Zba ((((r337.2.2.2.1.length : Nat) : Int) - 0).toNat + 1) ((r337.2.2.2.1.length : Nat) : Int) 0 (V.agg [(V.int .i64 (gi r337.1 0)), (V.sl 3 Zg 0 none), (V.sl 2 Zf 0 none), (V.int .i64 (gi r337.1 3)), (V.sl 4 Zd 0 none), (V.sl 5 Ze 0 none)]) (V.agg [(V.int .i64 (gi r337.2.1 0)), (V.sl 6 Zg 0 none), (V.sl 7 Zf 0 none), (V.int .i64 (gi r337.2.1 3)), (V.sl 8 Zd 0 none), (V.sl 9 Ze 0 none)]) r337.2.2.2.1 r337.2.2.1 r337.2.2.2.2.1 r337.2.2.2.2.2.1 r337.2.2.2.2.2.2.1 r337.2.2.2.2.2.2.2.1 r337.2.2.2.2.2.2.2.2.1 r337.2.2.2.2.2.2.2.2.2) fun r339 =>
  some (V.agg [(V.int .i64 (gi r339.1 0)), (V.inl Zg r339.2.2.1), (V.inl Zf r339.2.2.2.1), (V.int .i64 (gi r339.1 3)), (V.inl Zd r339.2.2.2.2.1), (V.inl Ze r339.2.2.2.2.2.1)])
def Zcf (l : V) (client : Int) : Int :=
  (IntKind.i64.wrap ((gi l 0) - client))
def ZT : Nat → List V → Int → Int → Int → Int → Option (List V × Int × Int × Int)
  | 0, _, _, _, _, _ => none
  | k_ + 1, x0, target1, n8, i9, j10 =>
    bif (decide (i9 < j10)) then
      bif (Zm (IntKind.i64.wrap (ZeQ .u64 (IntKind.u64.wrap (IntKind.i64.wrap (i9 + j10))) 1)) x0.length) then
        bif (decide ((Zcf (ZfP (rd x0 ((IntKind.i64.wrap (ZeQ .u64 (IntKind.u64.wrap (IntKind.i64.wrap (i9 + j10))) 1)).toNat))) target1) < 0)) then
          ZT k_ x0 target1 n8 (IntKind.i64.wrap ((IntKind.i64.wrap (ZeQ .u64 (IntKind.u64.wrap (IntKind.i64.wrap (i9 + j10))) 1)) + 1)) j10
        else ZT k_ x0 target1 n8 i9 (IntKind.i64.wrap (ZeQ .u64 (IntKind.u64.wrap (IntKind.i64.wrap (i9 + j10))) 1))
      else none
    else some (x0, target1, n8, i9)
def ZaX (x : List V) (target : Int) : Option (Int × Bool) :=
  Option.bind (ZT ((((x.length : Nat) : Int) - 0).toNat + 1) x target ((x.length : Nat) : Int) 0 ((x.length : Nat) : Int)) fun r341 =>
  bif (decide (r341.2.2.2 < r341.2.2.1)) then
    bif (Zm r341.2.2.2 r341.1.length) then
      some (r341.2.2.2, (decide ((Zcf (ZfP (rd r341.1 r341.2.2.2.toNat)) r341.2.1) = 0)))
    else none
  else some (r341.2.2.2, false)
def ZdU (s : V) (client : Int) : Option (Int × Bool) :=
  Option.bind (ZaX (gl s 5) client) fun r342 =>
  some (r342.1, r342.2)
def Z4 (s : V) (key : List V) (val : List V) : Option (Bool × V) :=
  Option.bind (Zbz (Za s) key) fun r345 =>
  bif (!r345.2) then
    bif (decide ((((gl s 1).length : Nat) : Int) = 20)) then
      some (false, (Za s))
    else Option.bind (Zaa key) fun r346 =>
    Option.bind (Zfh 64 (gl s 1) r345.1 [(V.agg [(V.inl Zc r346), (V.inl Zc []), (V.int .i64 0), (V.int .i64 0)])]) fun r347 =>
    Option.bind (ZbJ (V.agg [(V.int .i64 (gi s 0)), (V.inl Zg r347), (V.inl Zf (gl s 2)), (V.int .i64 (gi s 3)), (V.inl Zd (gl s 4)), (V.inl Ze (gl s 5))]) key) fun r348 =>
    bif (decide ((0 : Int) ≤ r348)) then
      Option.bind (ZfC (gl s 2) r348 (IntKind.i64.wrap (r348 + 1))) fun r349 =>
      Option.bind (Zaa val) fun r350 =>
      bif (Zm r345.1 r347.length) then
        bif (Zm r345.1 ((r347.set (0 + r345.1.toNat) (V.agg [(V.inl Zc (gl (rd r347 (0 + r345.1.toNat)) 0)), (V.inl Zc r350), (V.int .i64 (gi (rd r347 (0 + r345.1.toNat)) 2)), (V.int .i64 (gi (rd r347 (0 + r345.1.toNat)) 3))])).length)) then
          some (true, (V.agg [(V.int .i64 (gi s 0)), (V.inl Zg ((r347.set (0 + r345.1.toNat) (V.agg [(V.inl Zc (gl (rd r347 (0 + r345.1.toNat)) 0)), (V.inl Zc r350), (V.int .i64 (gi (rd r347 (0 + r345.1.toNat)) 2)), (V.int .i64 (gi (rd r347 (0 + r345.1.toNat)) 3))])).set (0 + r345.1.toNat) (V.agg [(V.inl Zc (gl (rd (r347.set (0 + r345.1.toNat) (V.agg [(V.inl Zc (gl (rd r347 (0 + r345.1.toNat)) 0)), (V.inl Zc r350), (V.int .i64 (gi (rd r347 (0 + r345.1.toNat)) 2)), (V.int .i64 (gi (rd r347 (0 + r345.1.toNat)) 3))])) (0 + r345.1.toNat)) 0)), (V.inl Zc (gl (rd (r347.set (0 + r345.1.toNat) (V.agg [(V.inl Zc (gl (rd r347 (0 + r345.1.toNat)) 0)), (V.inl Zc r350), (V.int .i64 (gi (rd r347 (0 + r345.1.toNat)) 2)), (V.int .i64 (gi (rd r347 (0 + r345.1.toNat)) 3))])) (0 + r345.1.toNat)) 1)), (V.int .i64 (gi s 0)), (V.int .i64 (gi (rd (r347.set (0 + r345.1.toNat) (V.agg [(V.inl Zc (gl (rd r347 (0 + r345.1.toNat)) 0)), (V.inl Zc r350), (V.int .i64 (gi (rd r347 (0 + r345.1.toNat)) 2)), (V.int .i64 (gi (rd r347 (0 + r345.1.toNat)) 3))])) (0 + r345.1.toNat)) 3))]))), (V.inl Zf r349), (V.int .i64 (gi s 3)), (V.inl Zd (gl s 4)), (V.inl Ze (gl s 5))]))
        else none
      else none
    else Option.bind (Zaa val) fun r351 =>
    bif (Zm r345.1 r347.length) then
      bif (Zm r345.1 ((r347.set (0 + r345.1.toNat) (V.agg [(V.inl Zc (gl (rd r347 (0 + r345.1.toNat)) 0)), (V.inl Zc r351), (V.int .i64 (gi (rd r347 (0 + r345.1.toNat)) 2)), (V.int .i64 (gi (rd r347 (0 + r345.1.toNat)) 3))])).length)) then
        some (true, (V.agg [(V.int .i64 (gi s 0)), (V.inl Zg ((r347.set (0 + r345.1.toNat) (V.agg [(V.inl Zc (gl (rd r347 (0 + r345.1.toNat)) 0)), (V.inl Zc r351), (V.int .i64 (gi (rd r347 (0 + r345.1.toNat)) 2)), (V.int .i64 (gi (rd r347 (0 + r345.1.toNat)) 3))])).set (0 + r345.1.toNat) (V.agg [(V.inl Zc (gl (rd (r347.set (0 + r345.1.toNat) (V.agg [(V.inl Zc (gl (rd r347 (0 + r345.1.toNat)) 0)), (V.inl Zc r351), (V.int .i64 (gi (rd r347 (0 + r345.1.toNat)) 2)), (V.int .i64 (gi (rd r347 (0 + r345.1.toNat)) 3))])) (0 + r345.1.toNat)) 0)), (V.inl Zc (gl (rd (r347.set (0 + r345.1.toNat) (V.agg [(V.inl Zc (gl (rd r347 (0 + r345.1.toNat)) 0)), (V.inl Zc r351), (V.int .i64 (gi (rd r347 (0 + r345.1.toNat)) 2)), (V.int .i64 (gi (rd r347 (0 + r345.1.toNat)) 3))])) (0 + r345.1.toNat)) 1)), (V.int .i64 (gi s 0)), (V.int .i64 (gi (rd (r347.set (0 + r345.1.toNat) (V.agg [(V.inl Zc (gl (rd r347 (0 + r345.1.toNat)) 0)), (V.inl Zc r351), (V.int .i64 (gi (rd r347 (0 + r345.1.toNat)) 2)), (V.int .i64 (gi (rd r347 (0 + r345.1.toNat)) 3))])) (0 + r345.1.toNat)) 3))]))), (V.inl Zf (gl s 2)), (V.int .i64 (gi s 3)), (V.inl Zd (gl s 4)), (V.inl Ze (gl s 5))]))
      else none
    else none
  else Option.bind (Zaa val) fun r352 =>
  bif (Zm r345.1 ((gl s 1).length)) then
    bif (Zm r345.1 (((gl s 1).set (0 + r345.1.toNat) (V.agg [(V.inl Zc (gl (rd (gl s 1) (0 + r345.1.toNat)) 0)), (V.inl Zc r352), (V.int .i64 (gi (rd (gl s 1) (0 + r345.1.toNat)) 2)), (V.int .i64 (gi (rd (gl s 1) (0 + r345.1.toNat)) 3))])).length)) then
      some (true, (V.agg [(V.int .i64 (gi s 0)), (V.inl Zg (((gl s 1).set (0 + r345.1.toNat) (V.agg [(V.inl Zc (gl (rd (gl s 1) (0 + r345.1.toNat)) 0)), (V.inl Zc r352), (V.int .i64 (gi (rd (gl s 1) (0 + r345.1.toNat)) 2)), (V.int .i64 (gi (rd (gl s 1) (0 + r345.1.toNat)) 3))])).set (0 + r345.1.toNat) (V.agg [(V.inl Zc (gl (rd ((gl s 1).set (0 + r345.1.toNat) (V.agg [(V.inl Zc (gl (rd (gl s 1) (0 + r345.1.toNat)) 0)), (V.inl Zc r352), (V.int .i64 (gi (rd (gl s 1) (0 + r345.1.toNat)) 2)), (V.int .i64 (gi (rd (gl s 1) (0 + r345.1.toNat)) 3))])) (0 + r345.1.toNat)) 0)), (V.inl Zc (gl (rd ((gl s 1).set (0 + r345.1.toNat) (V.agg [(V.inl Zc (gl (rd (gl s 1) (0 + r345.1.toNat)) 0)), (V.inl Zc r352), (V.int .i64 (gi (rd (gl s 1) (0 + r345.1.toNat)) 2)), (V.int .i64 (gi (rd (gl s 1) (0 + r345.1.toNat)) 3))])) (0 + r345.1.toNat)) 1)), (V.int .i64 (gi s 0)), (V.int .i64 (gi (rd ((gl s 1).set (0 + r345.1.toNat) (V.agg [(V.inl Zc (gl (rd (gl s 1) (0 + r345.1.toNat)) 0)), (V.inl Zc r352), (V.int .i64 (gi (rd (gl s 1) (0 + r345.1.toNat)) 2)), (V.int .i64 (gi (rd (gl s 1) (0 + r345.1.toNat)) 3))])) (0 + r345.1.toNat)) 3))]))), (V.inl Zf (gl s 2)), (V.int .i64 (gi s 3)), (V.inl Zd (gl s 4)), (V.inl Ze (gl s 5))]))
    else none
  else none
def Zai : Nat → V → List V → List V → List V → List V → Option (V × List V × List V × List V × List V)
  | 0, _, _, _, _, _ => none
  | k_ + 1, b0, r1, r2, r3, r4 =>
    bif (decide ((10 : Int) < ((r2.length : Nat) : Int))) then
      bif (Zm 0 r2.length) then
        Option.bind (ZfC r2 0 1) fun r362 =>
        Zai k_ (V.agg [(V.int .i64 (gi b0 0)), (V.sl 1 Zg 0 none), (V.sl 2 Zf 0 none), (V.int .i64 (gi (rd r2 0) 1)), (V.sl 3 Zd 0 none), (V.sl 4 Ze 0 none)]) r1 r362 r3 r4
      else none
    else some ((V.agg [(V.int .i64 (gi b0 0)), (V.sl 1 Zg 0 none), (V.sl 2 Zf 0 none), (V.int .i64 (gi b0 3)), (V.sl 3 Zd 0 none), (V.sl 4 Ze 0 none)]), r1, r2, r3, r4)
def Zcg (s : V) (k : Int) : Option (V) :=
  bif (Zm k ((gl s 1).length)) then
    bif ((Zw (((gl s 2).length) + 1) 32) && true) then
      Option.bind (ZfC (gl s 1) k (IntKind.i64.wrap (k + 1))) fun r361 =>
      Option.bind (Zai ((((((gl s 2) ++ [(V.agg [(V.inl Zc (gl (rd (gl s 1) (0 + k.toNat)) 0)), (V.int .i64 (gi s 0))])]).length : Nat) : Int) - 10).toNat + 1) (V.agg [(V.int .i64 (gi s 0)), (V.sl 1 Zg 0 none), (V.sl 2 Zf 0 none), (V.int .i64 (gi s 3)), (V.sl 3 Zd 0 none), (V.sl 4 Ze 0 none)]) r361 ((gl s 2) ++ [(V.agg [(V.inl Zc (gl (rd (gl s 1) (0 + k.toNat)) 0)), (V.int .i64 (gi s 0))])]) (gl s 4) (gl s 5)) fun r363 =>
      some (V.agg [(V.int .i64 (gi r363.1 0)), (V.inl Zg r363.2.1), (V.inl Zf r363.2.2.1), (V.int .i64 (gi r363.1 3)), (V.inl Zd r363.2.2.2.1), (V.inl Ze r363.2.2.2.2)])
    else none
  else none
def Zak : Nat → Int → Bool → Int → V → List V → List V → List V → List V → Option (V × List V × List V × List V × List V)
  | 0, _, _, _, _, _, _, _, _ => none
  | k_ + 1, id1, remove6, k7, b0, r1, r2, r3, r4 =>
    bif (decide (k7 < ((r1.length : Nat) : Int))) then
      bif (Zm k7 r1.length) then
        bif (!(decide ((gi (rd r1 (0 + k7.toNat)) 3) = id1))) then
          Zak k_ id1 remove6 (IntKind.i64.wrap (k7 + 1)) (V.agg [(V.int .i64 (gi b0 0)), (V.sl 1 Zg 0 none), (V.sl 2 Zf 0 none), (V.int .i64 (gi b0 3)), (V.sl 3 Zd 0 none), (V.sl 4 Ze 0 none)]) r1 r2 r3 r4
        else bif remove6 then
          Option.bind (Zcg (V.agg [(V.int .i64 (gi b0 0)), (V.inl Zg r1), (V.inl Zf r2), (V.int .i64 (gi b0 3)), (V.inl Zd r3), (V.inl Ze r4)]) k7) fun r367 =>
          Zak k_ id1 remove6 (IntKind.i64.wrap ((IntKind.i64.wrap (k7 - 1)) + 1)) (V.agg [(V.int .i64 (gi r367 0)), (V.sl 1 Zg 0 none), (V.sl 2 Zf 0 none), (V.int .i64 (gi r367 3)), (V.sl 3 Zd 0 none), (V.sl 4 Ze 0 none)]) (gl r367 1) (gl r367 2) (gl r367 4) (gl r367 5)
        else bif (Zm k7 r1.length) then
          bif (Zm k7 ((r1.set (0 + k7.toNat) (V.agg [(V.inl Zc (gl (rd r1 (0 + k7.toNat)) 0)), (V.inl Zc (gl (rd r1 (0 + k7.toNat)) 1)), (V.int .i64 (gi (rd r1 (0 + k7.toNat)) 2)), (V.int .i64 0)])).length)) then
            Zak k_ id1 remove6 (IntKind.i64.wrap (k7 + 1)) (V.agg [(V.int .i64 (gi b0 0)), (V.sl 1 Zg 0 none), (V.sl 2 Zf 0 none), (V.int .i64 (gi b0 3)), (V.sl 3 Zd 0 none), (V.sl 4 Ze 0 none)]) ((r1.set (0 + k7.toNat) (V.agg [(V.inl Zc (gl (rd r1 (0 + k7.toNat)) 0)), (V.inl Zc (gl (rd r1 (0 + k7.toNat)) 1)), (V.int .i64 (gi (rd r1 (0 + k7.toNat)) 2)), (V.int .i64 0)])).set (0 + k7.toNat) (V.agg [(V.inl Zc (gl (rd (r1.set (0 + k7.toNat) (V.agg [(V.inl Zc (gl (rd r1 (0 + k7.toNat)) 0)), (V.inl Zc (gl (rd r1 (0 + k7.toNat)) 1)), (V.int .i64 (gi (rd r1 (0 + k7.toNat)) 2)), (V.int .i64 0)])) (0 + k7.toNat)) 0)), (V.inl Zc (gl (rd (r1.set (0 + k7.toNat) (V.agg [(V.inl Zc (gl (rd r1 (0 + k7.toNat)) 0)), (V.inl Zc (gl (rd r1 (0 + k7.toNat)) 1)), (V.int .i64 (gi (rd r1 (0 + k7.toNat)) 2)), (V.int .i64 0)])) (0 + k7.toNat)) 1)), (V.int .i64 (gi b0 0)), (V.int .i64 (gi (rd (r1.set (0 + k7.toNat) (V.agg [(V.inl Zc (gl (rd r1 (0 + k7.toNat)) 0)), (V.inl Zc (gl (rd r1 (0 + k7.toNat)) 1)), (V.int .i64 (gi (rd r1 (0 + k7.toNat)) 2)), (V.int .i64 0)])) (0 + k7.toNat)) 3))])) r2 r3 r4
          else none
        else none
      else none
    else some ((V.agg [(V.int .i64 (gi b0 0)), (V.sl 1 Zg 0 none), (V.sl 2 Zf 0 none), (V.int .i64 (gi b0 3)), (V.sl 3 Zd 0 none), (V.sl 4 Ze 0 none)]), r1, r2, r3, r4)
def ZcR (s : V) (id : Int) : Option (Int × V) :=
  Option.bind (Zbk (Za s) id) fun r365 =>
  bif (decide (r365 < 0)) then
    some (1, (Za s))
  else bif (Zm r365 ((gl s 4).length)) then
    Option.bind (ZfC (gl s 4) r365 (IntKind.i64.wrap (r365 + 1))) fun r366 =>
    Option.bind (Zak (((((gl s 1).length : Nat) : Int) - 0).toNat + 1) id (gb (rd (gl s 4) (0 + r365.toNat)) 1) 0 (V.agg [(V.int .i64 (gi s 0)), (V.sl 1 Zg 0 none), (V.sl 2 Zf 0 none), (V.int .i64 (gi s 3)), (V.sl 3 Zd 0 none), (V.sl 4 Ze 0 none)]) (gl s 1) (gl s 2) r366 (gl s 5)) fun r368 =>
    some (0, (V.agg [(V.int .i64 (gi r368.1 0)), (V.inl Zg r368.2.1), (V.inl Zf r368.2.2.1), (V.int .i64 (gi r368.1 3)), (V.inl Zd r368.2.2.2.1), (V.inl Ze r368.2.2.2.2)]))
  else none
def ZbO (s : V) (o : V) : Option (Int × V) :=
  Option.bind (Zbz (Za s) (gl o 1)) fun r344 =>
  bif (decide ((gi o 0) = 1)) then
    bif r344.2 then
      bif (Zm r344.1 ((gl s 1).length)) then
        bif (decide ((gi o 0) = 2)) then
          bif (!(decide ((gi (rd (gl s 1) (0 + r344.1.toNat)) 2) = (gi o 3)))) then
            some (3, (Za s))
          else Option.bind (Z4 (Za s) (gl o 1) (gl o 2)) fun r353 =>
          bif (!r353.1) then
            some (4, (Za r353.2))
          else some (0, (Za r353.2))
        else Option.bind (Z4 (Za s) (gl o 1) (gl o 2)) fun r354 =>
        bif (!r354.1) then
          some (4, (Za r354.2))
        else some (0, (Za r354.2))
      else none
    else bif (decide ((gi o 0) = 2)) then
      bif (!(decide ((0 : Int) = (gi o 3)))) then
        some (3, (Za s))
      else Option.bind (Z4 (Za s) (gl o 1) (gl o 2)) fun r355 =>
      bif (!r355.1) then
        some (4, (Za r355.2))
      else some (0, (Za r355.2))
    else Option.bind (Z4 (Za s) (gl o 1) (gl o 2)) fun r356 =>
    bif (!r356.1) then
      some (4, (Za r356.2))
    else some (0, (Za r356.2))
  else bif (decide ((gi o 0) = 2)) then
    bif r344.2 then
      bif (Zm r344.1 ((gl s 1).length)) then
        bif (decide ((gi o 0) = 2)) then
          bif (!(decide ((gi (rd (gl s 1) (0 + r344.1.toNat)) 2) = (gi o 3)))) then
            some (3, (Za s))
          else Option.bind (Z4 (Za s) (gl o 1) (gl o 2)) fun r357 =>
          bif (!r357.1) then
            some (4, (Za r357.2))
          else some (0, (Za r357.2))
        else Option.bind (Z4 (Za s) (gl o 1) (gl o 2)) fun r358 =>
        bif (!r358.1) then
          some (4, (Za r358.2))
        else some (0, (Za r358.2))
      else none
    else bif (decide ((gi o 0) = 2)) then
      bif (!(decide ((0 : Int) = (gi o 3)))) then
        some (3, (Za s))
      else Option.bind (Z4 (Za s) (gl o 1) (gl o 2)) fun r359 =>
      bif (!r359.1) then
        some (4, (Za r359.2))
      else some (0, (Za r359.2))
    else Option.bind (Z4 (Za s) (gl o 1) (gl o 2)) fun r360 =>
    bif (!r360.1) then
      some (4, (Za r360.2))
    else some (0, (Za r360.2))
  else bif (decide ((gi o 0) = 3)) then
    bif (!r344.2) then
      some (1, (Za s))
    else Option.bind (Zcg (Za s) r344.1) fun r364 =>
    some (0, (Za r364))
  else bif (decide ((gi o 0) = 4)) then
    bif (decide ((((gl s 4).length : Nat) : Int) = 8)) then
      some (4, (Za s))
    else bif ((Zw (((gl s 4).length) + 1) 16) && true) then
      some (0, (V.agg [(V.int .i64 (gi s 0)), (V.inl Zg (gl s 1)), (V.inl Zf (gl s 2)), (V.int .i64 (gi s 3)), (V.inl Zd ((gl s 4) ++ [(V.agg [(V.int .i64 (gi s 0)), (V.bool (decide ((gi o 3) = 1)))])])), (V.inl Ze (gl s 5))]))
    else none
  else bif (decide ((gi o 0) = 5)) then
    Option.bind (ZcR (Za s) (gi o 3)) fun r369 =>
    some (r369.1, (Za r369.2))
  else bif (decide ((gi o 0) = 6)) then
    Option.bind (Zbk (Za s) (gi o 3)) fun r370 =>
    bif (decide (r370 < 0)) then
      some (1, (Za s))
    else bif r344.2 then
      bif (Zm r344.1 ((gl s 1).length)) then
        bif (!(decide ((gi (rd (gl s 1) (0 + r344.1.toNat)) 3) = 0))) then
          bif (Zm r344.1 ((gl s 1).length)) then
            bif (!(decide ((gi (rd (gl s 1) (0 + r344.1.toNat)) 3) = (gi o 3)))) then
              some (2, (Za s))
            else Option.bind (Z4 (Za s) (gl o 1) (gl o 2)) fun r371 =>
            bif (!r371.1) then
              some (4, (Za r371.2))
            else bif (Zm r344.1 ((gl r371.2 1).length)) then
              some (0, (V.agg [(V.int .i64 (gi r371.2 0)), (V.inl Zg ((gl r371.2 1).set (0 + r344.1.toNat) (V.agg [(V.inl Zc (gl (rd (gl r371.2 1) (0 + r344.1.toNat)) 0)), (V.inl Zc (gl (rd (gl r371.2 1) (0 + r344.1.toNat)) 1)), (V.int .i64 (gi (rd (gl r371.2 1) (0 + r344.1.toNat)) 2)), (V.int .i64 (gi o 3))]))), (V.inl Zf (gl r371.2 2)), (V.int .i64 (gi r371.2 3)), (V.inl Zd (gl r371.2 4)), (V.inl Ze (gl r371.2 5))]))
            else none
          else none
        else Option.bind (Z4 (Za s) (gl o 1) (gl o 2)) fun r372 =>
        bif (!r372.1) then
          some (4, (Za r372.2))
        else bif (Zm r344.1 ((gl r372.2 1).length)) then
          some (0, (V.agg [(V.int .i64 (gi r372.2 0)), (V.inl Zg ((gl r372.2 1).set (0 + r344.1.toNat) (V.agg [(V.inl Zc (gl (rd (gl r372.2 1) (0 + r344.1.toNat)) 0)), (V.inl Zc (gl (rd (gl r372.2 1) (0 + r344.1.toNat)) 1)), (V.int .i64 (gi (rd (gl r372.2 1) (0 + r344.1.toNat)) 2)), (V.int .i64 (gi o 3))]))), (V.inl Zf (gl r372.2 2)), (V.int .i64 (gi r372.2 3)), (V.inl Zd (gl r372.2 4)), (V.inl Ze (gl r372.2 5))]))
        else none
      else none
    else Option.bind (Z4 (Za s) (gl o 1) (gl o 2)) fun r373 =>
    bif (!r373.1) then
      some (4, (Za r373.2))
    else bif (Zm r344.1 ((gl r373.2 1).length)) then
      some (0, (V.agg [(V.int .i64 (gi r373.2 0)), (V.inl Zg ((gl r373.2 1).set (0 + r344.1.toNat) (V.agg [(V.inl Zc (gl (rd (gl r373.2 1) (0 + r344.1.toNat)) 0)), (V.inl Zc (gl (rd (gl r373.2 1) (0 + r344.1.toNat)) 1)), (V.int .i64 (gi (rd (gl r373.2 1) (0 + r344.1.toNat)) 2)), (V.int .i64 (gi o 3))]))), (V.inl Zf (gl r373.2 2)), (V.int .i64 (gi r373.2 3)), (V.inl Zd (gl r373.2 4)), (V.inl Ze (gl r373.2 5))]))
    else none
  else bif (decide ((gi o 0) = 7)) then
    bif (!r344.2) then
      some (1, (Za s))
    else bif (Zm r344.1 ((gl s 1).length)) then
      bif (!(decide ((gi (rd (gl s 1) (0 + r344.1.toNat)) 3) = (gi o 3)))) then
        some (1, (Za s))
      else bif (Zm r344.1 ((gl s 1).length)) then
        bif (Zm r344.1 (((gl s 1).set (0 + r344.1.toNat) (V.agg [(V.inl Zc (gl (rd (gl s 1) (0 + r344.1.toNat)) 0)), (V.inl Zc (gl (rd (gl s 1) (0 + r344.1.toNat)) 1)), (V.int .i64 (gi (rd (gl s 1) (0 + r344.1.toNat)) 2)), (V.int .i64 0)])).length)) then
          some (0, (V.agg [(V.int .i64 (gi s 0)), (V.inl Zg (((gl s 1).set (0 + r344.1.toNat) (V.agg [(V.inl Zc (gl (rd (gl s 1) (0 + r344.1.toNat)) 0)), (V.inl Zc (gl (rd (gl s 1) (0 + r344.1.toNat)) 1)), (V.int .i64 (gi (rd (gl s 1) (0 + r344.1.toNat)) 2)), (V.int .i64 0)])).set (0 + r344.1.toNat) (V.agg [(V.inl Zc (gl (rd ((gl s 1).set (0 + r344.1.toNat) (V.agg [(V.inl Zc (gl (rd (gl s 1) (0 + r344.1.toNat)) 0)), (V.inl Zc (gl (rd (gl s 1) (0 + r344.1.toNat)) 1)), (V.int .i64 (gi (rd (gl s 1) (0 + r344.1.toNat)) 2)), (V.int .i64 0)])) (0 + r344.1.toNat)) 0)), (V.inl Zc (gl (rd ((gl s 1).set (0 + r344.1.toNat) (V.agg [(V.inl Zc (gl (rd (gl s 1) (0 + r344.1.toNat)) 0)), (V.inl Zc (gl (rd (gl s 1) (0 + r344.1.toNat)) 1)), (V.int .i64 (gi (rd (gl s 1) (0 + r344.1.toNat)) 2)), (V.int .i64 0)])) (0 + r344.1.toNat)) 1)), (V.int .i64 (gi s 0)), (V.int .i64 (gi (rd ((gl s 1).set (0 + r344.1.toNat) (V.agg [(V.inl Zc (gl (rd (gl s 1) (0 + r344.1.toNat)) 0)), (V.inl Zc (gl (rd (gl s 1) (0 + r344.1.toNat)) 1)), (V.int .i64 (gi (rd (gl s 1) (0 + r344.1.toNat)) 2)), (V.int .i64 0)])) (0 + r344.1.toNat)) 3))]))), (V.inl Zf (gl s 2)), (V.int .i64 (gi s 3)), (V.inl Zd (gl s 4)), (V.inl Ze (gl s 5))]))
        else none
      else none
    else none
  else some (0, (Za s))
def Zds (s : V) (c : V) : Option (V × V) :=
  bif (decide ((gi c 0) < 0)) then
    some ((V.agg [(V.int .i64 0), (V.int .i64 (IntKind.i64.wrap ((gi s 0) + 1)))]), (V.agg [(V.int .i64 (IntKind.i64.wrap ((gi s 0) + 1))), (V.inl Zg (gl s 1)), (V.inl Zf (gl s 2)), (V.int .i64 (gi s 3)), (V.inl Zd (gl s 4)), (V.inl Ze (gl s 5))]))
  else Option.bind (ZdU (V.agg [(V.int .i64 (IntKind.i64.wrap ((gi s 0) + 1))), (V.inl Zg (gl s 1)), (V.inl Zf (gl s 2)), (V.int .i64 (gi s 3)), (V.inl Zd (gl s 4)), (V.inl Ze (gl s 5))]) (gi c 0)) fun r343 =>
  bif r343.2 then
    bif (Zm r343.1 ((gl s 5).length)) then
      bif (decide ((gi (rd (gl s 5) (0 + r343.1.toNat)) 1) = (gi c 1))) then
        bif (Zm r343.1 ((gl s 5).length)) then
          some ((V.agg [(V.int .i64 (gi (rd (gl s 5) (0 + r343.1.toNat)) 2)), (V.int .i64 (gi (rd (gl s 5) (0 + r343.1.toNat)) 3))]), (V.agg [(V.int .i64 (IntKind.i64.wrap ((gi s 0) + 1))), (V.inl Zg (gl s 1)), (V.inl Zf (gl s 2)), (V.int .i64 (gi s 3)), (V.inl Zd (gl s 4)), (V.inl Ze (gl s 5))]))
        else none
      else bif r343.2 then
        bif (Zm r343.1 ((gl s 5).length)) then
          bif (decide ((gi c 1) < (gi (rd (gl s 5) (0 + r343.1.toNat)) 1))) then
            some ((V.agg [(V.int .i64 5), (V.int .i64 (IntKind.i64.wrap ((gi s 0) + 1)))]), (V.agg [(V.int .i64 (IntKind.i64.wrap ((gi s 0) + 1))), (V.inl Zg (gl s 1)), (V.inl Zf (gl s 2)), (V.int .i64 (gi s 3)), (V.inl Zd (gl s 4)), (V.inl Ze (gl s 5))]))
          else Option.bind (ZbO (V.agg [(V.int .i64 (IntKind.i64.wrap ((gi s 0) + 1))), (V.inl Zg (gl s 1)), (V.inl Zf (gl s 2)), (V.int .i64 (gi s 3)), (V.inl Zd (gl s 4)), (V.inl Ze (gl s 5))]) (V.agg [(V.int .i64 (gi c 2)), (V.inl Zc (gl c 3)), (V.inl Zc (gl c 4)), (V.int .i64 (gi c 5))])) fun r374 =>
          bif r343.2 then
            bif (Zm r343.1 ((gl r374.2 5).length)) then
              some ((V.agg [(V.int .i64 r374.1), (V.int .i64 (IntKind.i64.wrap ((gi s 0) + 1)))]), (V.agg [(V.int .i64 (gi r374.2 0)), (V.inl Zg (gl r374.2 1)), (V.inl Zf (gl r374.2 2)), (V.int .i64 (gi r374.2 3)), (V.inl Zd (gl r374.2 4)), (V.inl Ze ((gl r374.2 5).set (0 + r343.1.toNat) (V.agg [(V.int .i64 (gi c 0)), (V.int .i64 (gi c 1)), (V.int .i64 r374.1), (V.int .i64 (IntKind.i64.wrap ((gi s 0) + 1)))])))]))
            else none
          else Option.bind (Zfh 32 (gl r374.2 5) r343.1 [(V.agg [(V.int .i64 (gi c 0)), (V.int .i64 (gi c 1)), (V.int .i64 r374.1), (V.int .i64 (IntKind.i64.wrap ((gi s 0) + 1)))])]) fun r375 =>
          some ((V.agg [(V.int .i64 r374.1), (V.int .i64 (IntKind.i64.wrap ((gi s 0) + 1)))]), (V.agg [(V.int .i64 (gi r374.2 0)), (V.inl Zg (gl r374.2 1)), (V.inl Zf (gl r374.2 2)), (V.int .i64 (gi r374.2 3)), (V.inl Zd (gl r374.2 4)), (V.inl Ze r375)]))
        else none
      else Option.bind (ZbO (V.agg [(V.int .i64 (IntKind.i64.wrap ((gi s 0) + 1))), (V.inl Zg (gl s 1)), (V.inl Zf (gl s 2)), (V.int .i64 (gi s 3)), (V.inl Zd (gl s 4)), (V.inl Ze (gl s 5))]) (V.agg [(V.int .i64 (gi c 2)), (V.inl Zc (gl c 3)), (V.inl Zc (gl c 4)), (V.int .i64 (gi c 5))])) fun r376 =>
      bif r343.2 then
        bif (Zm r343.1 ((gl r376.2 5).length)) then
          some ((V.agg [(V.int .i64 r376.1), (V.int .i64 (IntKind.i64.wrap ((gi s 0) + 1)))]), (V.agg [(V.int .i64 (gi r376.2 0)), (V.inl Zg (gl r376.2 1)), (V.inl Zf (gl r376.2 2)), (V.int .i64 (gi r376.2 3)), (V.inl Zd (gl r376.2 4)), (V.inl Ze ((gl r376.2 5).set (0 + r343.1.toNat) (V.agg [(V.int .i64 (gi c 0)), (V.int .i64 (gi c 1)), (V.int .i64 r376.1), (V.int .i64 (IntKind.i64.wrap ((gi s 0) + 1)))])))]))
        else none
      else Option.bind (Zfh 32 (gl r376.2 5) r343.1 [(V.agg [(V.int .i64 (gi c 0)), (V.int .i64 (gi c 1)), (V.int .i64 r376.1), (V.int .i64 (IntKind.i64.wrap ((gi s 0) + 1)))])]) fun r377 =>
      some ((V.agg [(V.int .i64 r376.1), (V.int .i64 (IntKind.i64.wrap ((gi s 0) + 1)))]), (V.agg [(V.int .i64 (gi r376.2 0)), (V.inl Zg (gl r376.2 1)), (V.inl Zf (gl r376.2 2)), (V.int .i64 (gi r376.2 3)), (V.inl Zd (gl r376.2 4)), (V.inl Ze r377)]))
    else none
  else bif r343.2 then
    bif (Zm r343.1 ((gl s 5).length)) then
      bif (decide ((gi c 1) < (gi (rd (gl s 5) (0 + r343.1.toNat)) 1))) then
        some ((V.agg [(V.int .i64 5), (V.int .i64 (IntKind.i64.wrap ((gi s 0) + 1)))]), (V.agg [(V.int .i64 (IntKind.i64.wrap ((gi s 0) + 1))), (V.inl Zg (gl s 1)), (V.inl Zf (gl s 2)), (V.int .i64 (gi s 3)), (V.inl Zd (gl s 4)), (V.inl Ze (gl s 5))]))
      else Option.bind (ZbO (V.agg [(V.int .i64 (IntKind.i64.wrap ((gi s 0) + 1))), (V.inl Zg (gl s 1)), (V.inl Zf (gl s 2)), (V.int .i64 (gi s 3)), (V.inl Zd (gl s 4)), (V.inl Ze (gl s 5))]) (V.agg [(V.int .i64 (gi c 2)), (V.inl Zc (gl c 3)), (V.inl Zc (gl c 4)), (V.int .i64 (gi c 5))])) fun r378 =>
      bif r343.2 then
        bif (Zm r343.1 ((gl r378.2 5).length)) then
          some ((V.agg [(V.int .i64 r378.1), (V.int .i64 (IntKind.i64.wrap ((gi s 0) + 1)))]), (V.agg [(V.int .i64 (gi r378.2 0)), (V.inl Zg (gl r378.2 1)), (V.inl Zf (gl r378.2 2)), (V.int .i64 (gi r378.2 3)), (V.inl Zd (gl r378.2 4)), (V.inl Ze ((gl r378.2 5).set (0 + r343.1.toNat) (V.agg [(V.int .i64 (gi c 0)), (V.int .i64 (gi c 1)), (V.int .i64 r378.1), (V.int .i64 (IntKind.i64.wrap ((gi s 0) + 1)))])))]))
        else none
      else Option.bind (Zfh 32 (gl r378.2 5) r343.1 [(V.agg [(V.int .i64 (gi c 0)), (V.int .i64 (gi c 1)), (V.int .i64 r378.1), (V.int .i64 (IntKind.i64.wrap ((gi s 0) + 1)))])]) fun r379 =>
      some ((V.agg [(V.int .i64 r378.1), (V.int .i64 (IntKind.i64.wrap ((gi s 0) + 1)))]), (V.agg [(V.int .i64 (gi r378.2 0)), (V.inl Zg (gl r378.2 1)), (V.inl Zf (gl r378.2 2)), (V.int .i64 (gi r378.2 3)), (V.inl Zd (gl r378.2 4)), (V.inl Ze r379)]))
    else none
  else Option.bind (ZbO (V.agg [(V.int .i64 (IntKind.i64.wrap ((gi s 0) + 1))), (V.inl Zg (gl s 1)), (V.inl Zf (gl s 2)), (V.int .i64 (gi s 3)), (V.inl Zd (gl s 4)), (V.inl Ze (gl s 5))]) (V.agg [(V.int .i64 (gi c 2)), (V.inl Zc (gl c 3)), (V.inl Zc (gl c 4)), (V.int .i64 (gi c 5))])) fun r380 =>
  bif r343.2 then
    bif (Zm r343.1 ((gl r380.2 5).length)) then
      some ((V.agg [(V.int .i64 r380.1), (V.int .i64 (IntKind.i64.wrap ((gi s 0) + 1)))]), (V.agg [(V.int .i64 (gi r380.2 0)), (V.inl Zg (gl r380.2 1)), (V.inl Zf (gl r380.2 2)), (V.int .i64 (gi r380.2 3)), (V.inl Zd (gl r380.2 4)), (V.inl Ze ((gl r380.2 5).set (0 + r343.1.toNat) (V.agg [(V.int .i64 (gi c 0)), (V.int .i64 (gi c 1)), (V.int .i64 r380.1), (V.int .i64 (IntKind.i64.wrap ((gi s 0) + 1)))])))]))
    else none
  else Option.bind (Zfh 32 (gl r380.2 5) r343.1 [(V.agg [(V.int .i64 (gi c 0)), (V.int .i64 (gi c 1)), (V.int .i64 r380.1), (V.int .i64 (IntKind.i64.wrap ((gi s 0) + 1)))])]) fun r381 =>
  some ((V.agg [(V.int .i64 r380.1), (V.int .i64 (IntKind.i64.wrap ((gi s 0) + 1)))]), (V.agg [(V.int .i64 (gi r380.2 0)), (V.inl Zg (gl r380.2 1)), (V.inl Zf (gl r380.2 2)), (V.int .i64 (gi r380.2 3)), (V.inl Zd (gl r380.2 4)), (V.inl Ze r381)]))
def ZC (s : V) (c : V) : Option (V × V) :=
  Option.bind (Zd6 (Za s)) fun r319 =>
  bif (!r319) then
    some ((V.agg [(V.int .i64 0), (V.inl Zg []), (V.inl Zf []), (V.int .i64 0), (V.inl Zd []), (V.inl Ze [])]), (V.agg [(V.int .i64 0), (V.int .i64 0)]))
  else Option.bind (Zem (Zn c)) fun r326 =>
  bif (!r326) then
    some ((V.agg [(V.int .i64 0), (V.inl Zg []), (V.inl Zf []), (V.int .i64 0), (V.inl Zd []), (V.inl Ze [])]), (V.agg [(V.int .i64 0), (V.int .i64 0)]))
  else bif (decide ((gi s 0) = 1000000)) then
    some ((V.agg [(V.int .i64 0), (V.inl Zg []), (V.inl Zf []), (V.int .i64 0), (V.inl Zd []), (V.inl Ze [])]), (V.agg [(V.int .i64 0), (V.int .i64 0)]))
  else Option.bind (Zcp (Za s)) fun r340 =>
  Option.bind (Zds (Za r340) (Zn c)) fun r382 =>
  some ((Za r382.2), (ZA r382.1))
def Za7 (a : List V) (b : List V) : Bool :=
  (Zbx (a.map Zay) (b.map Zay))
def Zde (n : Int) : Bool :=
  bif (decide ((0 : Int) ≤ n)) then
    (decide (n ≤ 1000000))
  else false
def Zbv : Nat → List V → Int → Option (Nat × Bool)
  | 0, _, _ => none
  | k_ + 1, b0, i3 =>
    bif (decide (i3 < ((b0.length : Nat) : Int))) then
      bif (Zm i3 b0.length) then
        bif (decide ((gi (rd b0 i3.toNat) 0) < 97)) then
          bif (Zm i3 b0.length) then
            bif (!(decide ((gi (rd b0 i3.toNat) 0) = 47))) then
              some (0, false)
            else Zbv k_ b0 (IntKind.i64.wrap (i3 + 1))
          else none
        else bif (Zm i3 b0.length) then
          bif (decide ((122 : Int) < (gi (rd b0 i3.toNat) 0))) then
            bif (Zm i3 b0.length) then
              bif (!(decide ((gi (rd b0 i3.toNat) 0) = 47))) then
                some (0, false)
              else Zbv k_ b0 (IntKind.i64.wrap (i3 + 1))
            else none
          else Zbv k_ b0 (IntKind.i64.wrap (i3 + 1))
        else none
      else none
    else some (1, false)
def Zb1 (b : List V) : Option (Bool) :=
  bif (decide (((b.length : Nat) : Int) < 1)) then
    some false
  else bif (decide ((20 : Int) < ((b.length : Nat) : Int))) then
    some false
  else Option.bind (Zbv ((((b.length : Nat) : Int) - 0).toNat + 1) b 0) fun r412 =>
  bif (Nat.beq r412.1 0) then
    some r412.2
  else some true
def Zfl (b : List V) : Bool :=
  (decide (((b.length : Nat) : Int) ≤ 20))
def ZaH : Nat → Int → V → Option (Nat × Bool × V)
  | 0, _, _ => none
  | k_ + 1, i3, b0 =>
    bif (decide (i3 < (((gl b0 1).length : Nat) : Int))) then
      bif (Zm i3 ((gl b0 1).length)) then
        Option.bind (Zb1 (gl (rd (gl b0 1) i3.toNat) 0)) fun r413 =>
        bif (!r413) then
          some (0, false, (Za b0))
        else bif (!(Zfl (gl (rd (gl b0 1) i3.toNat) 1))) then
          some (0, false, (Za b0))
        else bif (decide ((gi (rd (gl b0 1) i3.toNat) 2) < 1)) then
          some (0, false, (Za b0))
        else bif (decide ((gi b0 0) < (gi (rd (gl b0 1) i3.toNat) 2))) then
          some (0, false, (Za b0))
        else bif (!(decide ((gi (rd (gl b0 1) i3.toNat) 3) = 0))) then
          Option.bind (ZbF (Za b0) (gi (rd (gl b0 1) i3.toNat) 3)) fun r414 =>
          bif (decide (r414 < 0)) then
            some (0, false, (Za b0))
          else bif (decide ((0 : Int) < i3)) then
            bif (Zm (IntKind.i64.wrap (i3 - 1)) ((gl b0 1).length)) then
              bif (!(Zca ((gl (rd (gl b0 1) ((IntKind.i64.wrap (i3 - 1)).toNat)) 0).map Zay) ((gl (rd (gl b0 1) i3.toNat) 0).map Zay))) then
                some (0, false, (Za b0))
              else ZaH k_ (IntKind.i64.wrap (i3 + 1)) (Za b0)
            else none
          else ZaH k_ (IntKind.i64.wrap (i3 + 1)) (Za b0)
        else bif (decide ((0 : Int) < i3)) then
          bif (Zm (IntKind.i64.wrap (i3 - 1)) ((gl b0 1).length)) then
            bif (!(Zca ((gl (rd (gl b0 1) ((IntKind.i64.wrap (i3 - 1)).toNat)) 0).map Zay) ((gl (rd (gl b0 1) i3.toNat) 0).map Zay))) then
              some (0, false, (Za b0))
            else ZaH k_ (IntKind.i64.wrap (i3 + 1)) (Za b0)
          else none
        else ZaH k_ (IntKind.i64.wrap (i3 + 1)) (Za b0)
      else none
    else some (1, false, (Za b0))
def Za1 : Nat → Int → V → Option (Nat × Bool × V)
  | 0, _, _ => none
  | k_ + 1, i5, b0 =>
    bif (decide (i5 < (((gl b0 2).length : Nat) : Int))) then
      bif (Zm i5 ((gl b0 2).length)) then
        Option.bind (Zb1 (gl (rd (gl b0 2) i5.toNat) 0)) fun r416 =>
        bif (!r416) then
          some (0, false, (Za b0))
        else Option.bind (Zbb (Za b0) (gl (rd (gl b0 2) i5.toNat) 0)) fun r417 =>
        bif (decide ((0 : Int) ≤ r417)) then
          some (0, false, (Za b0))
        else Option.bind (ZdJ (Za b0) (gl (rd (gl b0 2) i5.toNat) 0)) fun r418 =>
        bif (!(decide (r418 = i5))) then
          some (0, false, (Za b0))
        else bif (decide ((gi (rd (gl b0 2) i5.toNat) 1) < 1)) then
          some (0, false, (Za b0))
        else bif (decide ((gi b0 0) < (gi (rd (gl b0 2) i5.toNat) 1))) then
          some (0, false, (Za b0))
        else bif (decide ((gi (rd (gl b0 2) i5.toNat) 1) < (gi b0 3))) then
          some (0, false, (Za b0))
        else bif (decide ((0 : Int) < i5)) then
          bif (Zm (IntKind.i64.wrap (i5 - 1)) ((gl b0 2).length)) then
            bif (decide ((gi (rd (gl b0 2) i5.toNat) 1) < (gi (rd (gl b0 2) ((IntKind.i64.wrap (i5 - 1)).toNat)) 1))) then
              some (0, false, (Za b0))
            else Za1 k_ (IntKind.i64.wrap (i5 + 1)) (Za b0)
          else none
        else Za1 k_ (IntKind.i64.wrap (i5 + 1)) (Za b0)
      else none
    else some (1, false, (Za b0))
def Za2 : Nat → Int → V → Option (Nat × Bool × V)
  | 0, _, _ => none
  | k_ + 1, i7, b0 =>
    bif (decide (i7 < (((gl b0 4).length : Nat) : Int))) then
      bif (Zm i7 ((gl b0 4).length)) then
        bif (decide ((gi (rd (gl b0 4) i7.toNat) 0) < 1)) then
          some (0, false, (Za b0))
        else bif (Zm i7 ((gl b0 4).length)) then
          bif (decide ((gi b0 0) < (gi (rd (gl b0 4) i7.toNat) 0))) then
            some (0, false, (Za b0))
          else bif (decide ((0 : Int) < i7)) then
            bif (Zm (IntKind.i64.wrap (i7 - 1)) ((gl b0 4).length)) then
              bif (Zm i7 ((gl b0 4).length)) then
                bif (decide ((gi (rd (gl b0 4) i7.toNat) 0) ≤ (gi (rd (gl b0 4) ((IntKind.i64.wrap (i7 - 1)).toNat)) 0))) then
                  some (0, false, (Za b0))
                else Za2 k_ (IntKind.i64.wrap (i7 + 1)) (Za b0)
              else none
            else none
          else Za2 k_ (IntKind.i64.wrap (i7 + 1)) (Za b0)
        else none
      else none
    else some (1, false, (Za b0))
def Za3 : Nat → Int → V → Option (Nat × Bool)
  | 0, _, _ => none
  | k_ + 1, i8, b0 =>
    bif (decide (i8 < (((gl b0 5).length : Nat) : Int))) then
      bif (Zm i8 ((gl b0 5).length)) then
        bif (decide ((gi (rd (gl b0 5) i8.toNat) 0) < 0)) then
          some (0, false)
        else bif (decide ((4 : Int) ≤ (gi (rd (gl b0 5) i8.toNat) 0))) then
          some (0, false)
        else bif (decide ((gi (rd (gl b0 5) i8.toNat) 1) < 1)) then
          some (0, false)
        else bif (decide ((1000000 : Int) < (gi (rd (gl b0 5) i8.toNat) 1))) then
          some (0, false)
        else bif (decide ((gi (rd (gl b0 5) i8.toNat) 2) < 0)) then
          some (0, false)
        else bif (decide ((5 : Int) < (gi (rd (gl b0 5) i8.toNat) 2))) then
          some (0, false)
        else bif (decide ((gi (rd (gl b0 5) i8.toNat) 3) < 1)) then
          some (0, false)
        else bif (decide ((gi b0 0) < (gi (rd (gl b0 5) i8.toNat) 3))) then
          some (0, false)
        else bif (decide ((0 : Int) < i8)) then
          bif (Zm (IntKind.i64.wrap (i8 - 1)) ((gl b0 5).length)) then
            bif (decide ((gi (rd (gl b0 5) i8.toNat) 0) ≤ (gi (rd (gl b0 5) ((IntKind.i64.wrap (i8 - 1)).toNat)) 0))) then
              some (0, false)
            else Za3 k_ (IntKind.i64.wrap (i8 + 1)) (Za b0)
          else none
        else Za3 k_ (IntKind.i64.wrap (i8 + 1)) (Za b0)
      else none
    else some (1, false)
def Zd7 (s : V) : Option (Bool) :=
  bif (!(Zde (gi s 0))) then
    some false
  else bif (decide ((20 : Int) < (((gl s 1).length : Nat) : Int))) then
    some false
  else bif (decide ((10 : Int) < (((gl s 2).length : Nat) : Int))) then
    some false
  else bif (decide ((gi s 3) < 0)) then
    some false
  else bif (decide ((gi s 0) < (gi s 3))) then
    some false
  else bif (decide ((8 : Int) < (((gl s 4).length : Nat) : Int))) then
    some false
  else bif (decide ((4 : Int) < (((gl s 5).length : Nat) : Int))) then
    some false
  else Option.bind (ZaH (((((gl (Za s) 1).length : Nat) : Int) - 0).toNat + 1) 0 (Za s)) fun r415 =>
  bif (Nat.beq r415.1 0) then
    some r415.2.1
  else Option.bind (Za1 (((((gl (Za r415.2.2) 2).length : Nat) : Int) - 0).toNat + 1) 0 (Za r415.2.2)) fun r419 =>
  bif (Nat.beq r419.1 0) then
    some r419.2.1
  else Option.bind (Za2 (((((gl (Za r419.2.2) 4).length : Nat) : Int) - 0).toNat + 1) 0 (Za r419.2.2)) fun r420 =>
  bif (Nat.beq r420.1 0) then
    some r420.2.1
  else Option.bind (Za3 (((((gl (Za r420.2.2) 5).length : Nat) : Int) - 0).toNat + 1) 0 (Za r420.2.2)) fun r421 =>
  bif (Nat.beq r421.1 0) then
    some r421.2
  else some true
def Ze0 (code : List V) (i : Int) : Option (Int) :=
  bif (decide (((code.length : Nat) : Int) = 0)) then
    some 0
  else bif (!(decide (((code.length : Nat) : Int) = 0))) then
    bif (Zm (i.tmod ((code.length : Nat) : Int)) code.length) then
      some (IntKind.i64.wrap (gi (rd code ((i.tmod ((code.length : Nat) : Int)).toNat)) 0))
    else none
  else none
def ZfZ (o : V) : Option (Bool) :=
  bif (decide ((gi o 0) < 0)) then
    some false
  else bif (decide ((7 : Int) < (gi o 0))) then
    some false
  else bif (!(Zfl (gl o 2))) then
    some false
  else bif (!(Zde (gi o 3))) then
    some false
  else bif (decide ((gi o 0) = 1)) then
    Option.bind (Zb1 (gl o 1)) fun r457 =>
    bif (!r457) then
      some false
    else bif (decide ((gi o 0) = 1)) then
      bif (decide ((gi o 0) = 0)) then
        some (decide ((gi o 3) = 0))
      else bif (decide ((gi o 0) = 1)) then
        some (decide ((gi o 3) = 0))
      else bif (decide ((gi o 0) = 3)) then
        some (decide ((gi o 3) = 0))
      else bif (decide ((gi o 0) = 4)) then
        some (decide ((gi o 3) ≤ 1))
      else bif (decide ((gi o 0) = 2)) then
        some true
      else some (decide ((1 : Int) ≤ (gi o 3)))
    else bif (decide ((gi o 0) = 2)) then
      bif (decide ((gi o 0) = 0)) then
        some (decide ((gi o 3) = 0))
      else bif (decide ((gi o 0) = 1)) then
        some (decide ((gi o 3) = 0))
      else bif (decide ((gi o 0) = 3)) then
        some (decide ((gi o 3) = 0))
      else bif (decide ((gi o 0) = 4)) then
        some (decide ((gi o 3) ≤ 1))
      else bif (decide ((gi o 0) = 2)) then
        some true
      else some (decide ((1 : Int) ≤ (gi o 3)))
    else bif (!(decide ((gi o 0) = 6))) then
      bif (decide ((0 : Int) < (((gl o 2).length : Nat) : Int))) then
        some false
      else bif (decide ((gi o 0) = 0)) then
        some (decide ((gi o 3) = 0))
      else bif (decide ((gi o 0) = 1)) then
        some (decide ((gi o 3) = 0))
      else bif (decide ((gi o 0) = 3)) then
        some (decide ((gi o 3) = 0))
      else bif (decide ((gi o 0) = 4)) then
        some (decide ((gi o 3) ≤ 1))
      else bif (decide ((gi o 0) = 2)) then
        some true
      else some (decide ((1 : Int) ≤ (gi o 3)))
    else bif (decide ((gi o 0) = 0)) then
      some (decide ((gi o 3) = 0))
    else bif (decide ((gi o 0) = 1)) then
      some (decide ((gi o 3) = 0))
    else bif (decide ((gi o 0) = 3)) then
      some (decide ((gi o 3) = 0))
    else bif (decide ((gi o 0) = 4)) then
      some (decide ((gi o 3) ≤ 1))
    else bif (decide ((gi o 0) = 2)) then
      some true
    else some (decide ((1 : Int) ≤ (gi o 3)))
  else bif (decide ((gi o 0) = 2)) then
    Option.bind (Zb1 (gl o 1)) fun r458 =>
    bif (!r458) then
      some false
    else bif (decide ((gi o 0) = 1)) then
      bif (decide ((gi o 0) = 0)) then
        some (decide ((gi o 3) = 0))
      else bif (decide ((gi o 0) = 1)) then
        some (decide ((gi o 3) = 0))
      else bif (decide ((gi o 0) = 3)) then
        some (decide ((gi o 3) = 0))
      else bif (decide ((gi o 0) = 4)) then
        some (decide ((gi o 3) ≤ 1))
      else bif (decide ((gi o 0) = 2)) then
        some true
      else some (decide ((1 : Int) ≤ (gi o 3)))
    else bif (decide ((gi o 0) = 2)) then
      bif (decide ((gi o 0) = 0)) then
        some (decide ((gi o 3) = 0))
      else bif (decide ((gi o 0) = 1)) then
        some (decide ((gi o 3) = 0))
      else bif (decide ((gi o 0) = 3)) then
        some (decide ((gi o 3) = 0))
      else bif (decide ((gi o 0) = 4)) then
        some (decide ((gi o 3) ≤ 1))
      else bif (decide ((gi o 0) = 2)) then
        some true
      else some (decide ((1 : Int) ≤ (gi o 3)))
    else bif (!(decide ((gi o 0) = 6))) then
      bif (decide ((0 : Int) < (((gl o 2).length : Nat) : Int))) then
        some false
      else bif (decide ((gi o 0) = 0)) then
        some (decide ((gi o 3) = 0))
      else bif (decide ((gi o 0) = 1)) then
        some (decide ((gi o 3) = 0))
      else bif (decide ((gi o 0) = 3)) then
        some (decide ((gi o 3) = 0))
      else bif (decide ((gi o 0) = 4)) then
        some (decide ((gi o 3) ≤ 1))
      else bif (decide ((gi o 0) = 2)) then
        some true
      else some (decide ((1 : Int) ≤ (gi o 3)))
    else bif (decide ((gi o 0) = 0)) then
      some (decide ((gi o 3) = 0))
    else bif (decide ((gi o 0) = 1)) then
      some (decide ((gi o 3) = 0))
    else bif (decide ((gi o 0) = 3)) then
      some (decide ((gi o 3) = 0))
    else bif (decide ((gi o 0) = 4)) then
      some (decide ((gi o 3) ≤ 1))
    else bif (decide ((gi o 0) = 2)) then
      some true
    else some (decide ((1 : Int) ≤ (gi o 3)))
  else bif (decide ((gi o 0) = 3)) then
    Option.bind (Zb1 (gl o 1)) fun r459 =>
    bif (!r459) then
      some false
    else bif (decide ((gi o 0) = 1)) then
      bif (decide ((gi o 0) = 0)) then
        some (decide ((gi o 3) = 0))
      else bif (decide ((gi o 0) = 1)) then
        some (decide ((gi o 3) = 0))
      else bif (decide ((gi o 0) = 3)) then
        some (decide ((gi o 3) = 0))
      else bif (decide ((gi o 0) = 4)) then
        some (decide ((gi o 3) ≤ 1))
      else bif (decide ((gi o 0) = 2)) then
        some true
      else some (decide ((1 : Int) ≤ (gi o 3)))
    else bif (decide ((gi o 0) = 2)) then
      bif (decide ((gi o 0) = 0)) then
        some (decide ((gi o 3) = 0))
      else bif (decide ((gi o 0) = 1)) then
        some (decide ((gi o 3) = 0))
      else bif (decide ((gi o 0) = 3)) then
        some (decide ((gi o 3) = 0))
      else bif (decide ((gi o 0) = 4)) then
        some (decide ((gi o 3) ≤ 1))
      else bif (decide ((gi o 0) = 2)) then
        some true
      else some (decide ((1 : Int) ≤ (gi o 3)))
    else bif (!(decide ((gi o 0) = 6))) then
      bif (decide ((0 : Int) < (((gl o 2).length : Nat) : Int))) then
        some false
      else bif (decide ((gi o 0) = 0)) then
        some (decide ((gi o 3) = 0))
      else bif (decide ((gi o 0) = 1)) then
        some (decide ((gi o 3) = 0))
      else bif (decide ((gi o 0) = 3)) then
        some (decide ((gi o 3) = 0))
      else bif (decide ((gi o 0) = 4)) then
        some (decide ((gi o 3) ≤ 1))
      else bif (decide ((gi o 0) = 2)) then
        some true
      else some (decide ((1 : Int) ≤ (gi o 3)))
    else bif (decide ((gi o 0) = 0)) then
      some (decide ((gi o 3) = 0))
    else bif (decide ((gi o 0) = 1)) then
      some (decide ((gi o 3) = 0))
    else bif (decide ((gi o 0) = 3)) then
      some (decide ((gi o 3) = 0))
    else bif (decide ((gi o 0) = 4)) then
      some (decide ((gi o 3) ≤ 1))
    else bif (decide ((gi o 0) = 2)) then
      some true
    else some (decide ((1 : Int) ≤ (gi o 3)))
  else bif (decide ((gi o 0) = 6)) then
    Option.bind (Zb1 (gl o 1)) fun r460 =>
    bif (!r460) then
      some false
    else bif (decide ((gi o 0) = 1)) then
      bif (decide ((gi o 0) = 0)) then
        some (decide ((gi o 3) = 0))
      else bif (decide ((gi o 0) = 1)) then
        some (decide ((gi o 3) = 0))
      else bif (decide ((gi o 0) = 3)) then
        some (decide ((gi o 3) = 0))
      else bif (decide ((gi o 0) = 4)) then
        some (decide ((gi o 3) ≤ 1))
      else bif (decide ((gi o 0) = 2)) then
        some true
      else some (decide ((1 : Int) ≤ (gi o 3)))
    else bif (decide ((gi o 0) = 2)) then
      bif (decide ((gi o 0) = 0)) then
        some (decide ((gi o 3) = 0))
      else bif (decide ((gi o 0) = 1)) then
        some (decide ((gi o 3) = 0))
      else bif (decide ((gi o 0) = 3)) then
        some (decide ((gi o 3) = 0))
      else bif (decide ((gi o 0) = 4)) then
        some (decide ((gi o 3) ≤ 1))
      else bif (decide ((gi o 0) = 2)) then
        some true
      else some (decide ((1 : Int) ≤ (gi o 3)))
    else bif (!(decide ((gi o 0) = 6))) then
      bif (decide ((0 : Int) < (((gl o 2).length : Nat) : Int))) then
        some false
      else bif (decide ((gi o 0) = 0)) then
        some (decide ((gi o 3) = 0))
      else bif (decide ((gi o 0) = 1)) then
        some (decide ((gi o 3) = 0))
      else bif (decide ((gi o 0) = 3)) then
        some (decide ((gi o 3) = 0))
      else bif (decide ((gi o 0) = 4)) then
        some (decide ((gi o 3) ≤ 1))
      else bif (decide ((gi o 0) = 2)) then
        some true
      else some (decide ((1 : Int) ≤ (gi o 3)))
    else bif (decide ((gi o 0) = 0)) then
      some (decide ((gi o 3) = 0))
    else bif (decide ((gi o 0) = 1)) then
      some (decide ((gi o 3) = 0))
    else bif (decide ((gi o 0) = 3)) then
      some (decide ((gi o 3) = 0))
    else bif (decide ((gi o 0) = 4)) then
      some (decide ((gi o 3) ≤ 1))
    else bif (decide ((gi o 0) = 2)) then
      some true
    else some (decide ((1 : Int) ≤ (gi o 3)))
  else bif (decide ((gi o 0) = 7)) then
    Option.bind (Zb1 (gl o 1)) fun r461 =>
    bif (!r461) then
      some false
    else bif (!(decide ((gi o 0) = 7))) then
      bif (decide ((0 : Int) < (((gl o 1).length : Nat) : Int))) then
        some false
      else bif (decide ((gi o 0) = 1)) then
        bif (decide ((gi o 0) = 0)) then
          some (decide ((gi o 3) = 0))
        else bif (decide ((gi o 0) = 1)) then
          some (decide ((gi o 3) = 0))
        else bif (decide ((gi o 0) = 3)) then
          some (decide ((gi o 3) = 0))
        else bif (decide ((gi o 0) = 4)) then
          some (decide ((gi o 3) ≤ 1))
        else bif (decide ((gi o 0) = 2)) then
          some true
        else some (decide ((1 : Int) ≤ (gi o 3)))
      else bif (decide ((gi o 0) = 2)) then
        bif (decide ((gi o 0) = 0)) then
          some (decide ((gi o 3) = 0))
        else bif (decide ((gi o 0) = 1)) then
          some (decide ((gi o 3) = 0))
        else bif (decide ((gi o 0) = 3)) then
          some (decide ((gi o 3) = 0))
        else bif (decide ((gi o 0) = 4)) then
          some (decide ((gi o 3) ≤ 1))
        else bif (decide ((gi o 0) = 2)) then
          some true
        else some (decide ((1 : Int) ≤ (gi o 3)))
      else bif (!(decide ((gi o 0) = 6))) then
        bif (decide ((0 : Int) < (((gl o 2).length : Nat) : Int))) then
          some false
        else bif (decide ((gi o 0) = 0)) then
          some (decide ((gi o 3) = 0))
        else bif (decide ((gi o 0) = 1)) then
          some (decide ((gi o 3) = 0))
        else bif (decide ((gi o 0) = 3)) then
          some (decide ((gi o 3) = 0))
        else bif (decide ((gi o 0) = 4)) then
          some (decide ((gi o 3) ≤ 1))
        else bif (decide ((gi o 0) = 2)) then
          some true
        else some (decide ((1 : Int) ≤ (gi o 3)))
      else bif (decide ((gi o 0) = 0)) then
        some (decide ((gi o 3) = 0))
      else bif (decide ((gi o 0) = 1)) then
        some (decide ((gi o 3) = 0))
      else bif (decide ((gi o 0) = 3)) then
        some (decide ((gi o 3) = 0))
      else bif (decide ((gi o 0) = 4)) then
        some (decide ((gi o 3) ≤ 1))
      else bif (decide ((gi o 0) = 2)) then
        some true
      else some (decide ((1 : Int) ≤ (gi o 3)))
    else bif (decide ((gi o 0) = 1)) then
      bif (decide ((gi o 0) = 0)) then
        some (decide ((gi o 3) = 0))
      else bif (decide ((gi o 0) = 1)) then
        some (decide ((gi o 3) = 0))
      else bif (decide ((gi o 0) = 3)) then
        some (decide ((gi o 3) = 0))
      else bif (decide ((gi o 0) = 4)) then
        some (decide ((gi o 3) ≤ 1))
      else bif (decide ((gi o 0) = 2)) then
        some true
      else some (decide ((1 : Int) ≤ (gi o 3)))
    else bif (decide ((gi o 0) = 2)) then
      bif (decide ((gi o 0) = 0)) then
        some (decide ((gi o 3) = 0))
      else bif (decide ((gi o 0) = 1)) then
        some (decide ((gi o 3) = 0))
      else bif (decide ((gi o 0) = 3)) then
        some (decide ((gi o 3) = 0))
      else bif (decide ((gi o 0) = 4)) then
        some (decide ((gi o 3) ≤ 1))
      else bif (decide ((gi o 0) = 2)) then
        some true
      else some (decide ((1 : Int) ≤ (gi o 3)))
    else bif (!(decide ((gi o 0) = 6))) then
      bif (decide ((0 : Int) < (((gl o 2).length : Nat) : Int))) then
        some false
      else bif (decide ((gi o 0) = 0)) then
        some (decide ((gi o 3) = 0))
      else bif (decide ((gi o 0) = 1)) then
        some (decide ((gi o 3) = 0))
      else bif (decide ((gi o 0) = 3)) then
        some (decide ((gi o 3) = 0))
      else bif (decide ((gi o 0) = 4)) then
        some (decide ((gi o 3) ≤ 1))
      else bif (decide ((gi o 0) = 2)) then
        some true
      else some (decide ((1 : Int) ≤ (gi o 3)))
    else bif (decide ((gi o 0) = 0)) then
      some (decide ((gi o 3) = 0))
    else bif (decide ((gi o 0) = 1)) then
      some (decide ((gi o 3) = 0))
    else bif (decide ((gi o 0) = 3)) then
      some (decide ((gi o 3) = 0))
    else bif (decide ((gi o 0) = 4)) then
      some (decide ((gi o 3) ≤ 1))
    else bif (decide ((gi o 0) = 2)) then
      some true
    else some (decide ((1 : Int) ≤ (gi o 3)))
  else bif (!(decide ((gi o 0) = 7))) then
    bif (decide ((0 : Int) < (((gl o 1).length : Nat) : Int))) then
      some false
    else bif (decide ((gi o 0) = 1)) then
      bif (decide ((gi o 0) = 0)) then
        some (decide ((gi o 3) = 0))
      else bif (decide ((gi o 0) = 1)) then
        some (decide ((gi o 3) = 0))
      else bif (decide ((gi o 0) = 3)) then
        some (decide ((gi o 3) = 0))
      else bif (decide ((gi o 0) = 4)) then
        some (decide ((gi o 3) ≤ 1))
      else bif (decide ((gi o 0) = 2)) then
        some true
      else some (decide ((1 : Int) ≤ (gi o 3)))
    else bif (decide ((gi o 0) = 2)) then
      bif (decide ((gi o 0) = 0)) then
        some (decide ((gi o 3) = 0))
      else bif (decide ((gi o 0) = 1)) then
        some (decide ((gi o 3) = 0))
      else bif (decide ((gi o 0) = 3)) then
        some (decide ((gi o 3) = 0))
      else bif (decide ((gi o 0) = 4)) then
        some (decide ((gi o 3) ≤ 1))
      else bif (decide ((gi o 0) = 2)) then
        some true
      else some (decide ((1 : Int) ≤ (gi o 3)))
    else bif (!(decide ((gi o 0) = 6))) then
      bif (decide ((0 : Int) < (((gl o 2).length : Nat) : Int))) then
        some false
      else bif (decide ((gi o 0) = 0)) then
        some (decide ((gi o 3) = 0))
      else bif (decide ((gi o 0) = 1)) then
        some (decide ((gi o 3) = 0))
      else bif (decide ((gi o 0) = 3)) then
        some (decide ((gi o 3) = 0))
      else bif (decide ((gi o 0) = 4)) then
        some (decide ((gi o 3) ≤ 1))
      else bif (decide ((gi o 0) = 2)) then
        some true
      else some (decide ((1 : Int) ≤ (gi o 3)))
    else bif (decide ((gi o 0) = 0)) then
      some (decide ((gi o 3) = 0))
    else bif (decide ((gi o 0) = 1)) then
      some (decide ((gi o 3) = 0))
    else bif (decide ((gi o 0) = 3)) then
      some (decide ((gi o 3) = 0))
    else bif (decide ((gi o 0) = 4)) then
      some (decide ((gi o 3) ≤ 1))
    else bif (decide ((gi o 0) = 2)) then
      some true
    else some (decide ((1 : Int) ≤ (gi o 3)))
  else bif (decide ((gi o 0) = 1)) then
    bif (decide ((gi o 0) = 0)) then
      some (decide ((gi o 3) = 0))
    else bif (decide ((gi o 0) = 1)) then
      some (decide ((gi o 3) = 0))
    else bif (decide ((gi o 0) = 3)) then
      some (decide ((gi o 3) = 0))
    else bif (decide ((gi o 0) = 4)) then
      some (decide ((gi o 3) ≤ 1))
    else bif (decide ((gi o 0) = 2)) then
      some true
    else some (decide ((1 : Int) ≤ (gi o 3)))
  else bif (decide ((gi o 0) = 2)) then
    bif (decide ((gi o 0) = 0)) then
      some (decide ((gi o 3) = 0))
    else bif (decide ((gi o 0) = 1)) then
      some (decide ((gi o 3) = 0))
    else bif (decide ((gi o 0) = 3)) then
      some (decide ((gi o 3) = 0))
    else bif (decide ((gi o 0) = 4)) then
      some (decide ((gi o 3) ≤ 1))
    else bif (decide ((gi o 0) = 2)) then
      some true
    else some (decide ((1 : Int) ≤ (gi o 3)))
  else bif (!(decide ((gi o 0) = 6))) then
    bif (decide ((0 : Int) < (((gl o 2).length : Nat) : Int))) then
      some false
    else bif (decide ((gi o 0) = 0)) then
      some (decide ((gi o 3) = 0))
    else bif (decide ((gi o 0) = 1)) then
      some (decide ((gi o 3) = 0))
    else bif (decide ((gi o 0) = 3)) then
      some (decide ((gi o 3) = 0))
    else bif (decide ((gi o 0) = 4)) then
      some (decide ((gi o 3) ≤ 1))
    else bif (decide ((gi o 0) = 2)) then
      some true
    else some (decide ((1 : Int) ≤ (gi o 3)))
  else bif (decide ((gi o 0) = 0)) then
    some (decide ((gi o 3) = 0))
  else bif (decide ((gi o 0) = 1)) then
    some (decide ((gi o 3) = 0))
  else bif (decide ((gi o 0) = 3)) then
    some (decide ((gi o 3) = 0))
  else bif (decide ((gi o 0) = 4)) then
    some (decide ((gi o 3) ≤ 1))
  else bif (decide ((gi o 0) = 2)) then
    some true
  else some (decide ((1 : Int) ≤ (gi o 3)))
def Zfm (c : V) : Option (Bool) :=
  bif (decide ((gi c 0) = (-1))) then
    bif (decide ((gi c 1) = 0)) then
      bif (decide ((gi c 2) = 0)) then
        Option.bind (ZfZ (V.agg [(V.int .i64 (gi c 2)), (V.inl Zc (gl c 3)), (V.inl Zc (gl c 4)), (V.int .i64 (gi c 5))])) fun r462 =>
        some r462
      else some false
    else some false
  else bif (decide ((0 : Int) ≤ (gi c 0))) then
    bif (decide ((gi c 0) < 4)) then
      bif (decide ((1 : Int) ≤ (gi c 1))) then
        bif (decide ((gi c 1) ≤ 1000000)) then
          Option.bind (ZfZ (V.agg [(V.int .i64 (gi c 2)), (V.inl Zc (gl c 3)), (V.inl Zc (gl c 4)), (V.int .i64 (gi c 5))])) fun r463 =>
          some r463
        else some false
      else some false
    else some false
  else some false
def Zaw : Nat → Int → V → V → Option (Nat × Bool × V × V)
  | 0, _, _, _ => none
  | k_ + 1, i5, b0, b1 =>
    bif (decide (i5 < (((gl b0 1).length : Nat) : Int))) then
      bif (Zm i5 ((gl b0 1).length)) then
        bif (Zm i5 ((gl b1 1).length)) then
          bif (!(Za7 (gl (rd (gl b0 1) i5.toNat) 0) (gl (rd (gl b1 1) i5.toNat) 0))) then
            some (0, false, (Za b0), (Za b1))
          else bif (!(Za7 (gl (rd (gl b0 1) i5.toNat) 1) (gl (rd (gl b1 1) i5.toNat) 1))) then
            some (0, false, (Za b0), (Za b1))
          else bif (!(decide ((gi (rd (gl b0 1) i5.toNat) 2) = (gi (rd (gl b1 1) i5.toNat) 2)))) then
            some (0, false, (Za b0), (Za b1))
          else bif (!(decide ((gi (rd (gl b0 1) i5.toNat) 3) = (gi (rd (gl b1 1) i5.toNat) 3)))) then
            some (0, false, (Za b0), (Za b1))
          else Zaw k_ (IntKind.i64.wrap (i5 + 1)) (Za b0) (Za b1)
        else none
      else none
    else some (1, false, (Za b0), (Za b1))
def Zal : Nat → Int → V → V → Option (Nat × Bool × V × V)
  | 0, _, _, _ => none
  | k_ + 1, i8, b0, b1 =>
    bif (decide (i8 < (((gl b0 2).length : Nat) : Int))) then
      bif (Zm i8 ((gl b0 2).length)) then
        bif (Zm i8 ((gl b1 2).length)) then
          bif (!(Za7 (gl (rd (gl b0 2) i8.toNat) 0) (gl (rd (gl b1 2) i8.toNat) 0))) then
            some (0, false, (Za b0), (Za b1))
          else bif (Zm i8 ((gl b0 2).length)) then
            bif (Zm i8 ((gl b1 2).length)) then
              bif (!(decide ((gi (rd (gl b0 2) i8.toNat) 1) = (gi (rd (gl b1 2) i8.toNat) 1)))) then
                some (0, false, (Za b0), (Za b1))
              else Zal k_ (IntKind.i64.wrap (i8 + 1)) (Za b0) (Za b1)
            else none
          else none
        else none
      else none
    else some (1, false, (Za b0), (Za b1))
def Zam : Nat → Int → V → V → Option (Nat × Bool × V × V)
  | 0, _, _, _ => none
  | k_ + 1, i9, b0, b1 =>
    bif (decide (i9 < (((gl b0 4).length : Nat) : Int))) then
      bif (Zm i9 ((gl b0 4).length)) then
        bif (Zm i9 ((gl b1 4).length)) then
          bif (!((decide ((gi (rd (gl b0 4) i9.toNat) 0) = (gi (rd (gl b1 4) i9.toNat) 0))) && ((gb (rd (gl b0 4) i9.toNat) 1) == (gb (rd (gl b1 4) i9.toNat) 1)))) then
            some (0, false, (Za b0), (Za b1))
          else Zam k_ (IntKind.i64.wrap (i9 + 1)) (Za b0) (Za b1)
        else none
      else none
    else some (1, false, (Za b0), (Za b1))
def Zan : Nat → Int → V → V → Option (Nat × Bool)
  | 0, _, _, _ => none
  | k_ + 1, i10, b0, b1 =>
    bif (decide (i10 < (((gl b0 5).length : Nat) : Int))) then
      bif (Zm i10 ((gl b0 5).length)) then
        bif (Zm i10 ((gl b1 5).length)) then
          bif (!((decide ((gi (rd (gl b0 5) i10.toNat) 0) = (gi (rd (gl b1 5) i10.toNat) 0))) && ((decide ((gi (rd (gl b0 5) i10.toNat) 1) = (gi (rd (gl b1 5) i10.toNat) 1))) && ((decide ((gi (rd (gl b0 5) i10.toNat) 2) = (gi (rd (gl b1 5) i10.toNat) 2))) && (decide ((gi (rd (gl b0 5) i10.toNat) 3) = (gi (rd (gl b1 5) i10.toNat) 3))))))) then
            some (0, false)
          else Zan k_ (IntKind.i64.wrap (i10 + 1)) (Za b0) (Za b1)
        else none
      else none
    else some (1, false)
def Zen (a : V) (b : V) : Option (Bool) :=
  bif (!(decide ((gi a 0) = (gi b 0)))) then
    some false
  else bif (!(decide ((gi a 3) = (gi b 3)))) then
    some false
  else bif (!(decide ((((gl a 1).length : Nat) : Int) = (((gl b 1).length : Nat) : Int)))) then
    some false
  else bif (!(decide ((((gl a 2).length : Nat) : Int) = (((gl b 2).length : Nat) : Int)))) then
    some false
  else bif (!(decide ((((gl a 4).length : Nat) : Int) = (((gl b 4).length : Nat) : Int)))) then
    some false
  else bif (!(decide ((((gl a 5).length : Nat) : Int) = (((gl b 5).length : Nat) : Int)))) then
    some false
  else Option.bind (Zaw (((((gl (Za a) 1).length : Nat) : Int) - 0).toNat + 1) 0 (Za a) (Za b)) fun r474 =>
  bif (Nat.beq r474.1 0) then
    some r474.2.1
  else Option.bind (Zal (((((gl (Za r474.2.2.1) 2).length : Nat) : Int) - 0).toNat + 1) 0 (Za r474.2.2.1) (Za r474.2.2.2)) fun r475 =>
  bif (Nat.beq r475.1 0) then
    some r475.2.1
  else Option.bind (Zam (((((gl (Za r475.2.2.1) 4).length : Nat) : Int) - 0).toNat + 1) 0 (Za r475.2.2.1) (Za r475.2.2.2)) fun r476 =>
  bif (Nat.beq r476.1 0) then
    some r476.2.1
  else Option.bind (Zan (((((gl (Za r476.2.2.1) 5).length : Nat) : Int) - 0).toNat + 1) 0 (Za r476.2.2.1) (Za r476.2.2.2)) fun r477 =>
  bif (Nat.beq r477.1 0) then
    some r477.2
  else some true
def ZaP (a : V) (b : V) : Option (Bool) :=
  Option.bind (Zen (Za a) (V.agg [(V.int .i64 (gi a 0)), (V.inl Zg (gl b 1)), (V.inl Zf (gl b 2)), (V.int .i64 (gi b 3)), (V.inl Zd (gl b 4)), (V.inl Ze (gl a 5))])) fun r478 =>
  some r478
def ZdL (code : List V) : Option (Bool) :=
  Option.bind (Zbm code) fun r467 =>
  Option.bind (Ze0 code 1) fun r468 =>
  bif ((Zw (2 + code.length) 1) && true) then
    Option.bind (Zbm ([(V.int .u8 (IntKind.u8.wrap r468)), (V.int .u8 7)] ++ code)) fun r469 =>
    Option.bind (ZC (Za r467.1) (Zn r467.2)) fun r470 =>
    bif (decide ((gi r470.2 1) = 0)) then
      some Zcb
    else bif (decide ((gi r467.2 0) < 0)) then
      some Zcb
    else bif (decide ((999998 : Int) ≤ (gi r470.1 0))) then
      some Zcb
    else Option.bind (Zfm (Zn r469.2)) fun r471 =>
    bif r471 then
      bif (!(decide ((gi r469.2 0) = (gi r467.2 0)))) then
        Option.bind (ZC (Za r470.1) (Zn r469.2)) fun r472 =>
        Option.bind (ZC (Za r472.1) (Zn r467.2)) fun r473 =>
        bif (decide ((gi r470.2 0) = 5)) then
          bif (decide ((gi r473.2 0) = 5)) then
            Option.bind (ZaP (Za r472.1) (Za r473.1)) fun r479 =>
            some r479
          else some false
        else bif ((decide ((gi r473.2 0) = (gi r470.2 0))) && (decide ((gi r473.2 1) = (gi r470.2 1)))) then
          Option.bind (ZaP (Za r472.1) (Za r473.1)) fun r480 =>
          bif r480 then
            some (decide ((gi r473.1 0) = (IntKind.i64.wrap ((gi r472.1 0) + 1))))
          else some false
        else some false
      else Option.bind (ZC (Za r470.1) (Zn r467.2)) fun r481 =>
      bif (decide ((gi r470.2 0) = 5)) then
        bif (decide ((gi r481.2 0) = 5)) then
          Option.bind (ZaP (Za r470.1) (Za r481.1)) fun r482 =>
          some r482
        else some false
      else bif ((decide ((gi r481.2 0) = (gi r470.2 0))) && (decide ((gi r481.2 1) = (gi r470.2 1)))) then
        Option.bind (ZaP (Za r470.1) (Za r481.1)) fun r483 =>
        bif r483 then
          some (decide ((gi r481.1 0) = (IntKind.i64.wrap ((gi r470.1 0) + 1))))
        else some false
      else some false
    else Option.bind (ZC (Za r470.1) (Zn r467.2)) fun r484 =>
    bif (decide ((gi r470.2 0) = 5)) then
      bif (decide ((gi r484.2 0) = 5)) then
        Option.bind (ZaP (Za r470.1) (Za r484.1)) fun r485 =>
        some r485
      else some false
    else bif ((decide ((gi r484.2 0) = (gi r470.2 0))) && (decide ((gi r484.2 1) = (gi r470.2 1)))) then
      Option.bind (ZaP (Za r470.1) (Za r484.1)) fun r486 =>
      bif r486 then
        some (decide ((gi r484.1 0) = (IntKind.i64.wrap ((gi r470.1 0) + 1))))
      else some false
    else some false
  else none
end Go.Eng.R
open Go Go.Eng Go.Proofs
namespace Go.Eng.R
theorem tab_ok : Zx Tryz.prog tab := ZpP (by kernel_rfl)
theorem mixed : Tryz.prog.follows .mixedOrders = true := by kernel_rfl
theorem base : Base Tryz.prog tab := ⟨tab_ok, mixed⟩
def l0 (x : V) : List V := [(V.inl Zc (gl x 0)), (V.int .i64 (gi x 1)), (V.int .i64 (gi x 2))]
def h1 (x : V) : V := V.agg [(V.int .i64 (gi x 0)), (V.rr Zc true (gl x 1)), (V.inl Zc (gl x 2)), (V.int .i64 (gi x 3))]
def q2 : List S1 := [(.int .i64), (.inl Zg), (.inl Zf), (.int .i64), (.inl Zd), (.inl Ze)]
def l3 (x : V) : List V := [(V.int .i64 (gi x 0)), (V.sl 1 Zg 0 none), (V.sl 2 Zf 0 none), (V.int .i64 (gi x 3)), (V.sl 3 Zd 0 none), (V.sl 4 Ze 0 none)]
def q4 : List S1 := [(.int .i64), (.sl 1 Zg), (.sl 2 Zf), (.int .i64), (.sl 3 Zd), (.sl 4 Ze)]
def q5 : List S1 := [(.int .i64), (.rr Zg false), (.rr Zf false), (.int .i64), (.rr Zd true), (.rr Ze true)]
def l6 (x : V) : List V := [(V.int .i64 (gi x 0)), (V.rr Zg false (gl x 1)), (V.rr Zf false (gl x 2)), (V.int .i64 (gi x 3)), (V.rr Zd true (gl x 4)), (V.rr Ze true (gl x 5))]
def q7 : List S1 := [.dead, (.rr Zg false), (.rr Zf false), .dead, (.rr Zd true), (.rr Ze true)]
def q8 : List S1 := [(.int .i64), (.sl 2 Zg), (.sl 3 Zf), (.int .i64), (.sl 4 Zd), (.sl 5 Ze)]
def q9 : List S1 := [(.int .i64), (.inl Zc), (.inl Zc), (.int .i64)]
def l10 (x : V) : List V := [(V.int .i64 (gi x 0)), (V.sl 4 Zg 0 none), (V.sl 5 Zf 0 none), (V.int .i64 (gi x 3)), (V.sl 6 Zd 0 none), (V.sl 7 Ze 0 none)]
def l11 (x : V) : List V := [(V.int .i64 (gi x 0)), (V.int .i64 (gi x 1)), (V.int .i64 (gi x 2)), (V.inl Zc (gl x 3)), (V.inl Zc (gl x 4)), (V.int .i64 (gi x 5))]
def l12 (x : V) : List V := [(V.int .i64 (gi x 0)), (V.int .i64 (gi x 1))]
def q13 : List S1 := [(.int .i64), (.sl 4 Zg), (.sl 5 Zf), (.int .i64), (.sl 6 Zd), (.sl 7 Ze)]
def q14 : List S1 := [(.int .i64), (.int .i64), (.int .i64), (.inl Zc), (.inl Zc), (.int .i64)]
def l15 (x : V) : List V := [(V.int .i64 (gi x 0)), (V.sl 3 Zg 0 none), (V.sl 4 Zf 0 none), (V.int .i64 (gi x 3)), (V.sl 5 Zd 0 none), (V.sl 6 Ze 0 none)]
def l16 (x : V) : List V := [(V.int .i64 (gi x 0)), (V.sl 7 Zg 0 none), (V.sl 8 Zf 0 none), (V.int .i64 (gi x 3)), (V.sl 9 Zd 0 none), (V.sl 10 Ze 0 none)]
def q17 : List S1 := [(.int .i64), (.sl 3 Zg), (.sl 4 Zf), (.int .i64), (.sl 5 Zd), (.sl 6 Ze)]
def q18 : List S1 := [(.int .i64), (.sl 7 Zg), (.sl 8 Zf), (.int .i64), (.sl 9 Zd), (.sl 10 Ze)]
def h19 (x : V) : V := V.agg [(V.int .i64 (gi x 0)), (V.rr Zg false (gl x 1)), (V.rr Zf false (gl x 2)), (V.int .i64 (gi x 3)), (V.rr Zd true (gl x 4)), (V.rr Ze true (gl x 5))]
def h20 (x : V) : V := V.agg [(V.int .i64 (gi x 0)), (V.int .i64 (gi x 1)), (V.int .i64 (gi x 2)), (V.rr Zc true (gl x 3)), (V.inl Zc (gl x 4)), (V.int .i64 (gi x 5))]
def q21 : List S1 := [.dead, .dead, .dead, (.rr Zc true), (.inl Zc)]
def q22 : List S1 := [(.inl Zc), (.inl Zc), (.int .i64), (.int .i64)]
def l23 (x : V) : List V := [(V.int .i64 (gi x 0)), (V.inl Zg (gl x 1)), (V.inl Zf (gl x 2)), (V.int .i64 (gi x 3)), (V.inl Zd (gl x 4)), (V.inl Ze (gl x 5))]
def h24 (x : V) : V := V.agg [(V.int .i64 (gi x 0)), (V.int .i64 (gi x 1)), (V.int .i64 (gi x 2)), (V.rr Zc true (gl x 3)), (V.rr Zc true (gl x 4)), (V.int .i64 (gi x 5))]
def q25 : List S1 := [.dead, .dead, .dead, (.rr Zc true), (.rr Zc true)]
def l26 (x : V) : List V := [(V.int .i64 (gi x 0)), (V.sl 2 Zg 0 none), (V.sl 3 Zf 0 none), (V.int .i64 (gi x 3)), (V.sl 4 Zd 0 none), (V.sl 5 Ze 0 none)]
def l27 (x : V) : List V := [(V.int .i64 (gi x 0)), (V.sl 6 Zg 0 none), (V.sl 7 Zf 0 none), (V.int .i64 (gi x 3)), (V.sl 8 Zd 0 none), (V.sl 9 Ze 0 none)]
def q28 : List S1 := [(.int .i64), (.sl 6 Zg), (.sl 7 Zf), (.int .i64), (.sl 8 Zd), (.sl 9 Ze)]
def q29 : List S1 := [(.int .i64), (.sl 3 Zg), (.sl 2 Zf), (.int .i64), (.sl 4 Zd), (.sl 5 Ze)]
def q30 : List S1 := [(.int .i64), (.int .i64), (.int .i64), (.int .i64)]
def h31 (x : V) : V := V.agg [(V.int .i64 (gi x 0)), (V.bool (gb x 1)), (V.rr Zc true (gl x 2))]
def l32 (x : V) : List V := [(V.int .i64 (gi x 0)), (V.bool (gb x 1))]
def q33 : List S1 := [(.int .i64), (.inl Zg), (.inl Zf), (.int .i64), (.inl Zd), (.sl 3 Ze)]
end Go.Eng.R
open Go Go.Eng Go.Proofs
namespace Go.Eng.R
set_option maxHeartbeats 4000000 in
set_option maxRecDepth 1000000 in
theorem cmp57 : CmpOk Tryz.prog 57 := by
  intro v1 v2 c w h
  have hcall : (callFunc 80 #[v1, v2]).run Tryz.prog w = .ok (.value (.int .i64 c)) w := by
    rw [run_callFunc_extern Tryz.func80 (by kernel_rfl) (by kernel_rfl) (by kernel_rfl) (e := Extern.BytealgCompare.compare) (by kernel_rfl), h]
    rfl
  clear h
  go_enter Tryz.func57, Tryz.ntmps57
  go_wp2_with (simp only [hcall])
  all_goals (go_ret; exact ⟨rfl, .refl _ _⟩)
theorem Zi9 : (Tryz.prog.info? 55).map (·.size) = some 4 := by kernel_rfl
theorem sz55 : ∀ w, (Go.sizeOf 55).run Tryz.prog w = .ok 4 w := fun w => by kernel_rfl
theorem zv55 : ∀ w, (zeroValue 55).run Tryz.prog w = .ok (Value.agg #[.slice none 0 0, .slice none 0 0, .int .i64 0, .int .i64 0]) w := fun w => by kernel_rfl
theorem info55 : (Tryz.prog.info? 55).map (fun i => (i.zero, i.size, i.bytes)) = some (some (Value.agg #[.slice none 0 0, .slice none 0 0, .int .i64 0, .int .i64 0]), 4, 64) := by kernel_rfl
set_option maxHeartbeats 4000000 in
set_option maxRecDepth 1000000 in
theorem Zn6 (w : World) (g n cap i h caph : Nat) (cur curh : Array Value) (hg : w.heap[g]? = some (.cells cur 55 (0, 0))) (hs : cur.size = cap * 4) (hcm : cap ≤ maxLen) (h1 : ZdQ (cur.toList.take (n * 4)))
    (hh : w.heap[h]? = some (.cells curh 55 (0, 0))) (hhs : curh.size = caph * 4) (hc1 : 1 ≤ caph) (hne : h ≠ g) (h1h : ZdQ (curh.toList.take 4)) (hi : i < n) (hroom : n + 1 ≤ cap) :
    Calls Tryz.prog 109 #[.slice (some ⟨g, 0, none⟩) n cap, .int .i64 i, .slice (some ⟨h, 0, none⟩) 1 caph] w fun e w' => e = .returned (.slice (some ⟨g, 0, none⟩) (n + 1) cap) ∧
      ∃ cur' : Array Value, w'.heap[g]? = some (.cells cur' 55 (0, 0)) ∧ cur'.size = cap * 4 ∧ cur'.toList.take ((n + 1) * 4) = (cur.toList.take (n * 4)).take (i * 4) ++ curh.toList.take 4 ++ (cur.toList.take (n * 4)).drop (i * 4) ∧ KeptBut [g] w w' := by
  have hcmx : cap ≤ 9223372036854775807 := hcm
  have hz2 : ¬ ((i : Int) = (n : Int)) := by omega
  have hov : ∀ lb cb, (callFunc 129 #[.slice (some ⟨h, 0, none⟩) 1 caph, .slice (some ⟨g, (i + 1) * 4, none⟩) lb cb]).run Tryz.prog w = .ok (.value (.bool false)) w := fun lb cb => by
    rw [run_callFunc_extern Tryz.func129 (by kernel_rfl) (by kernel_rfl) (by kernel_rfl) (e := Extern.SlicesOverlaps.overlaps #[23, 23] #[4]) (by kernel_rfl),
      Lib.run_overlaps_apart w 23 4 55 Tryz.underlying23 4 sz55 ⟨h, 0, none⟩ ⟨g, (i + 1) * 4, none⟩ 1 caph lb cb hne 55 55 curh.size cur.size (by simp [World.shape?, hh]) (by simp [World.shape?, hg]) (by omega) (by simp [World.frozen?, hh]) (by simp [World.frozen?, hh])]
    rfl
  obtain ⟨tl, htl⟩ : ∃ tl, tl = (cur.toList.drop (i * 4)).take ((n - i) * 4) := ⟨_, rfl⟩
  have htll : tl.length = (n - i) * 4 := by rw [htl]; simp; omega
  have htl1 : ∀ v ∈ tl, v.oneCell' = true := fun v hv => h1 v (by
    rw [htl, show (cur.toList.drop (i * 4)).take ((n - i) * 4) = (cur.toList.take (n * 4)).drop (i * 4) from by rw [List.drop_take]; congr 1; omega] at hv
    exact List.mem_of_mem_drop hv)
  obtain ⟨c1, hc1'⟩ : ∃ c1, c1 = (cur.toList.take ((i + 1) * 4) ++ tl ++ cur.toList.drop ((i + 1) * 4 + tl.length)).toArray := ⟨_, rfl⟩
  have hc1s : c1.size = cap * 4 := by rw [hc1']; simp; omega
  have hcp1 : ∀ ty dc sc, (Builtin.copy_ #[23, 23] ty #[.slice (some ⟨g, (i + 1) * 4, none⟩) (n + 1 - (i + 1)) dc, .slice (some ⟨g, i * 4, none⟩) (n + 1 - i) sc]).run Tryz.prog w.drew = .ok (goInt (Nat.min (n + 1 - i) (n + 1 - (i + 1)))) (w.drew.setRow g c1) := fun ty dc sc => by
    rw [hc1']
    exact ZcP w.drew 23 23 ty 55 4 g ((i + 1) * 4) (n + 1 - (i + 1)) dc ⟨g, i * 4, none⟩ (n + 1 - i) sc cur 55 tl Tryz.underlying23 Zi9 hg (by rw [htll]; simp only [Nat.min_def]; split <;> omega) (by rw [htl]; exact Za8 (w := w.drew) hg (by omega)) (by rw [htll]; omega) htl1
  obtain ⟨W1, hW1⟩ : ∃ W1, W1 = w.drew.setRow g c1 := ⟨_, rfl⟩
  rw [← hW1] at hcp1
  have hg1 : W1.heap[g]? = some (.cells c1 55 (0, 0)) := by rw [hW1]; exact setRow_heap _ g cur _ 55 _ hg
  have hh1 : W1.heap[h]? = some (.cells curh 55 (0, 0)) := by
    rw [hW1, ← hh]
    exact (KeptBut.setRow (w := w.drew) (F := [g]) (by simp) c1).block h (by have := (Array.getElem?_eq_some_iff.1 hh).1; exact this) (by simp [hne])
  obtain ⟨c2, hc2⟩ : ∃ c2, c2 = (c1.toList.take (i * 4) ++ curh.toList.take 4 ++ c1.toList.drop (i * 4 + (curh.toList.take 4).length)).toArray := ⟨_, rfl⟩
  have hyl : (curh.toList.take 4).length = 4 := by simp; omega
  have hcp2 : ∀ ty dc, (Builtin.copy_ #[23, 23] ty #[.slice (some ⟨g, i * 4, none⟩) (n + 1 - i) dc, .slice (some ⟨h, 0, none⟩) 1 caph]).run Tryz.prog W1 = .ok (goInt (Nat.min 1 (n + 1 - i))) (W1.setRow g c2) := fun ty dc => by
    rw [hc2]
    exact ZcP W1 23 23 ty 55 4 g (i * 4) (n + 1 - i) dc ⟨h, 0, none⟩ 1 caph c1 55 (curh.toList.take 4) Tryz.underlying23 Zi9 hg1 (by rw [hyl]; simp only [Nat.min_def]; split <;> omega) (by have := Za8 (o := 0) (m := 4) hh1 (by omega); simpa using this) (by rw [hyl]; omega) h1h
  have hpost : ∃ cur' : Array Value, (W1.setRow g c2).heap[g]? = some (.cells cur' 55 (0, 0)) ∧ cur'.size = cap * 4 ∧ cur'.toList.take ((n + 1) * 4) = (cur.toList.take (n * 4)).take (i * 4) ++ curh.toList.take 4 ++ (cur.toList.take (n * 4)).drop (i * 4) ∧ KeptBut [g] w (W1.setRow g c2) := by
    refine ⟨c2, setRow_heap W1 g c1 _ 55 _ hg1, ?_, ?_, ?_⟩
    · rw [hc2]; simp; omega
    · have q := Zm7 (cur := cur.toList) (y := curh.toList.take 4) (tl := tl) (c1 := c1.toList) (c2 := c2.toList) (a := i * 4) (s := 4) (by simp; omega) hyl (by rw [hc1', show i * 4 + 4 = (i + 1) * 4 from by omega]) (by rw [hc2, hyl])
      rw [show (n + 1) * 4 = i * 4 + 4 + tl.length from by rw [htll]; omega, q, htl, show (n - i) * 4 = n * 4 - i * 4 from by omega, Zk4, List.take_take, Nat.min_eq_left (by omega)]
    · rw [hW1]; exact ((KeptBut.refl _ w).drew.trans (KeptBut.setRow (by simp) _)).trans (KeptBut.setRow (by simp) _)
  have hw1 : IntKind.i64.wrap ((i : Int) + 1) = (i : Int) + 1 := by rw [IntKind.wrap_i64]; omega
  have hw2 : IntKind.i64.wrap ((n : Int) + 1) = (n : Int) + 1 := by rw [IntKind.wrap_i64]; omega
  have hb1 : ¬ ((cap : Int) < (n : Int) + 1) := by omega
  have hb2 : ¬ (cap = i + 1) := by omega
  have hb3 : (i : Int) ≤ (n : Int) := by omega
  have hb4 : ¬ (cap = i) := by omega
  have hb5 : (i : Int) ≤ (n : Int) + 1 := by omega
  have hb6 : (i : Int) + 1 ≤ (n : Int) + 1 := by omega
  have hb7 : (n : Int) + 1 ≤ (cap : Int) := by omega
  have hb8 : (0 : Int) ≤ (i : Int) + 1 := by omega
  have hb9 : (0 : Int) ≤ (n : Int) + 1 := by omega
  have ht1 : ((i : Int) + 1).toNat = i + 1 := by omega
  have ht2 : ((n : Int) + 1).toNat = n + 1 := by omega
  clear hc2 hW1 hc1' htl h1 h1h
  go_enter Tryz.func109, Tryz.ntmps109
  go_wp2_with (simp only [hov])
  go_region_law (refine ZfO rfl _ _ 23 23 rfl (.slice (some ⟨g, (i + 1) * 4, none⟩) (n + 1 - (i + 1)) (cap - (i + 1))) (.slice (some ⟨g, i * 4, none⟩) (n + 1 - i) (cap - i)) (by simp [Act.eval, Act.put]) (by simp [Act.eval, Act.put]) (hcp1 _ _ _) ?_)
  go_wp2_with (at_builtin; refine ZeC rfl _ _ 23 23 rfl _ _ rfl rfl (hcp2 _ _) ?_)
  go_ret
  exact ⟨rfl, hpost⟩
set_option maxHeartbeats 4000000 in
set_option maxRecDepth 1000000 in
theorem Zn7 (w : World) (g n cap i h caph : Nat) (cur curh : Array Value) (hg : w.heap[g]? = some (.cells cur 55 (0, 0))) (hs : cur.size = cap * 4) (hcm : cap ≤ maxLen) (h1 : ZdQ (cur.toList.take (n * 4)))
    (hh : w.heap[h]? = some (.cells curh 55 (0, 0))) (hhs : curh.size = caph * 4) (hc1 : 1 ≤ caph) (h1h : ZdQ (curh.toList.take 4)) (hi : i < n) (hn : n ≤ cap) (hroom : cap < n + 1) (hbig : (n + 1) * 64 ≤ 140737488355328) :
    Calls Tryz.prog 109 #[.slice (some ⟨g, 0, none⟩) n cap, .int .i64 i, .slice (some ⟨h, 0, none⟩) 1 caph] w fun e w' => ∃ cap', e = .returned (.slice (some ⟨w.heap.size, 0, none⟩) (n + 1) cap') ∧ n + 1 ≤ cap' ∧ cap' ≤ maxLen ∧
      ∃ cur' : Array Value, w'.heap[w.heap.size]? = some (.cells cur' 55 (0, 0)) ∧ cur'.size = cap' * 4 ∧ cur'.toList.take ((n + 1) * 4) = (cur.toList.take (n * 4)).take (i * 4) ++ curh.toList.take 4 ++ (cur.toList.take (n * 4)).drop (i * 4) ∧ KeptBut [] w w' := by
  have hcmx : cap ≤ 9223372036854775807 := hcm
  have hz2 : ¬ ((i : Int) = (n : Int)) := by omega
  have hgw : g < w.heap.size := (Array.getElem?_eq_some_iff.1 hg).1
  have hhw : h < w.heap.size := (Array.getElem?_eq_some_iff.1 hh).1
  obtain ⟨i0, hi0, hz0, hzs, hzb⟩ := info_parts info55
  have hkk : (n : Int) + 1 - (i : Int) = ((n + 1 - i : Nat) : Int) := by omega
  have hik : i + (n + 1 - i) = n + 1 := by omega
  obtain ⟨olds, hol⟩ : ∃ olds, olds = cur.toList.take (i * 4) := ⟨_, rfl⟩
  have holl : olds.length = i * 4 := by rw [hol]; simp; omega
  have hold : (Builtin.firstCells i0.size i (.slice (some ⟨g, 0, none⟩) i cap)).run Tryz.prog w.drew = .ok olds.toArray w.drew := by
    rw [hzs]
    refine run_firstCells_some w.drew 4 i ⟨g, 0, none⟩ i cap olds holl fun j v hj => ?_
    have := Za8 (o := 0) (m := i * 4) (w := w.drew) hg (by omega) j v (by rw [List.drop_zero, ← hol]; exact hj)
    exact this
  obtain ⟨G, hG⟩ : ∃ G, G = grownCap w (n + 1) cap 55 := ⟨_, rfl⟩
  obtain ⟨ROW, hROW⟩ : ∃ ROW : Array Value, ROW = olds.toArray ++ Builtin.zeroCells (Value.agg #[.slice none 0 0, .slice none 0 0, .int .i64 0, .int .i64 0]).cells (n + 1 - i) ++ Builtin.zeroCells (Value.agg #[.slice none 0 0, .slice none 0 0, .int .i64 0, .int .i64 0]).cells (G - (n + 1)) := ⟨_, rfl⟩
  have hrz : ∀ ty, (Builtin.append_ #[23, 3] ty #[.slice (some ⟨g, 0, none⟩) i cap, .int .i64 ((n : Int) + 1 - (i : Int))]).run Tryz.prog w =
      .ok (.slice (some ⟨w.heap.size, 0, none⟩) (n + 1) G) (w.drew.alloc (.cells ROW 55)) := fun ty => by
    have h := Lib.run_append_grow_zeros w 23 3 ty 55 i0 _ .i64 .i64 Tryz.underlying23 Tryz.underlying3 hi0 hz0 (some ⟨g, 0, none⟩) i cap olds hold (n + 1 - i) (by omega) (by omega) (by omega) (by omega) (by rw [hzb]; omega) (by rw [hzb, hik]; exact growslice_fits hroom hbig)
    rw [hik, ← hG, ← hROW] at h
    rw [hkk]
    exact h
  have hGn : n + 1 ≤ G := by rw [hG]; exact grownCap_ge w _ _ _
  have hGm : G ≤ maxLen := by rw [hG]; exact grownCap_le_maxLen w (n + 1) cap 55 (by unfold maxLen; omega)
  have hG63 : G ≤ 9223372036854775807 := hGm
  have hRs : ROW.size = G * 4 := by
    rw [hROW]; simp only [Array.size_append, List.size_toArray, size_zeroCells, holl]
    rw [show (Value.agg #[.slice none 0 0, .slice none 0 0, .int .i64 0, .int .i64 0]).cells.size = 4 from rfl]; omega
  obtain ⟨W1, hW1⟩ : ∃ W1, W1 = w.drew.alloc (.cells ROW 55) := ⟨_, rfl⟩
  rw [← hW1] at hrz
  have hN1 : W1.heap[w.heap.size]? = some (.cells ROW 55 (0, 0)) := by rw [hW1]; exact heap_alloc_new w.drew _
  have hk1 : KeptBut [] w W1 := by rw [hW1]; exact (KeptBut.refl _ w).drew.alloc _
  have hyl : (curh.toList.take 4).length = 4 := by simp; omega
  obtain ⟨c2, hc2⟩ : ∃ c2, c2 = (ROW.toList.take (i * 4) ++ curh.toList.take 4 ++ ROW.toList.drop (i * 4 + (curh.toList.take 4).length)).toArray := ⟨_, rfl⟩
  have hc2s : c2.size = G * 4 := by rw [hc2]; simp; omega
  have hcpA : ∀ (W : World), W.heap = W1.heap → ∀ ty dc, (Builtin.copy_ #[23, 23] ty #[.slice (some ⟨w.heap.size, i * 4, none⟩) (n + 1 - i) dc, .slice (some ⟨h, 0, none⟩) 1 caph]).run Tryz.prog W = .ok (goInt (Nat.min 1 (n + 1 - i))) (W.setRow w.heap.size c2) := fun W hW ty dc => by
    rw [hc2]
    exact ZcP W 23 23 ty 55 4 w.heap.size (i * 4) (n + 1 - i) dc ⟨h, 0, none⟩ 1 caph ROW 55 (curh.toList.take 4) Tryz.underlying23 Zi9 (by rw [hW]; exact hN1) (by rw [hyl]; simp only [Nat.min_def]; split <;> omega)
      (by have := Za8 (w := W) (o := 0) (m := 4) (cur := curh) (T := 55) (g := h) (by rw [hW, hk1.block h hhw (by simp)]; exact hh) (by omega); simpa using this) (by rw [hyl]; omega) h1h
  obtain ⟨tl, htl⟩ : ∃ tl, tl = (cur.toList.drop (i * 4)).take ((n - i) * 4) := ⟨_, rfl⟩
  have htll : tl.length = (n - i) * 4 := by rw [htl]; simp; omega
  have htl1 : ∀ v ∈ tl, v.oneCell' = true := fun v hv => h1 v (by
    rw [htl, show (cur.toList.drop (i * 4)).take ((n - i) * 4) = (cur.toList.take (n * 4)).drop (i * 4) from by rw [List.drop_take]; congr 1; omega] at hv
    exact List.mem_of_mem_drop hv)
  obtain ⟨W2, hW2⟩ : ∃ W2, W2 = W1.setRow w.heap.size c2 := ⟨_, rfl⟩
  have hN2 : W2.heap[w.heap.size]? = some (.cells c2 55 (0, 0)) := by rw [hW2]; exact setRow_heap _ _ ROW _ 55 _ hN1
  have hk2 : KeptBut [w.heap.size] w W2 := by rw [hW2]; exact (hk1.mono (by simp)).trans (KeptBut.setRow (by simp) _)
  obtain ⟨c3, hc3⟩ : ∃ c3, c3 = (c2.toList.take ((i + 1) * 4) ++ tl ++ c2.toList.drop ((i + 1) * 4 + tl.length)).toArray := ⟨_, rfl⟩
  have hcpB : ∀ (W : World), W.heap = W2.heap → ∀ ty dc sc, (Builtin.copy_ #[23, 23] ty #[.slice (some ⟨w.heap.size, (i + 1) * 4, none⟩) (n + 1 - (i + 1)) dc, .slice (some ⟨g, i * 4, none⟩) (n - i) sc]).run Tryz.prog W = .ok (goInt (Nat.min (n - i) (n + 1 - (i + 1)))) (W.setRow w.heap.size c3) := fun W hW ty dc sc => by
    rw [hc3]
    exact ZcP W 23 23 ty 55 4 w.heap.size ((i + 1) * 4) (n + 1 - (i + 1)) dc ⟨g, i * 4, none⟩ (n - i) sc c2 55 tl Tryz.underlying23 Zi9 (by rw [hW]; exact hN2) (by rw [htll]; simp only [Nat.min_def]; split <;> omega)
      (by rw [htl]; exact Za8 (w := W) (T := 55) (by rw [hW, hk2.block g hgw (by simp; omega)]; exact hg) (by omega)) (by rw [htll]; omega) htl1
  have hpost : ∀ W, W.heap = W2.heap → KeptBut [w.heap.size] w W → ∃ cur' : Array Value, (W.setRow w.heap.size c3).heap[w.heap.size]? = some (.cells cur' 55 (0, 0)) ∧ cur'.size = G * 4 ∧ cur'.toList.take ((n + 1) * 4) = (cur.toList.take (n * 4)).take (i * 4) ++ curh.toList.take 4 ++ (cur.toList.take (n * 4)).drop (i * 4) ∧ KeptBut [] w (W.setRow w.heap.size c3) := by
    intro W hW hk
    refine ⟨c3, setRow_heap W _ c2 _ 55 _ (by rw [hW]; exact hN2), ?_, ?_, (hk.trans (KeptBut.setRow (by simp) _)).fresh (by simp)⟩
    · rw [hc3]; simp; omega
    · have q := ZlV (row := ROW.toList) (y := curh.toList.take 4) (tl := tl) (c2 := c2.toList) (c3 := c3.toList) (a := i * 4) (s := 4) (by simp; omega) hyl (by rw [hc2, hyl]) (by rw [hc3, show i * 4 + 4 = (i + 1) * 4 from by omega])
      rw [show (n + 1) * 4 = i * 4 + 4 + tl.length from by rw [htll]; omega, q, htl, show (n - i) * 4 = n * 4 - i * 4 from by omega, Zk4, List.take_take, Nat.min_eq_left (by omega), hROW]
      congr 2
      simp only [Array.toList_append, List.append_assoc]
      exact (List.take_left' holl).trans hol
  have hw1 : IntKind.i64.wrap ((i : Int) + 1) = (i : Int) + 1 := by rw [IntKind.wrap_i64]; omega
  have hw2 : IntKind.i64.wrap ((n : Int) + 1) = (n : Int) + 1 := by rw [IntKind.wrap_i64]; omega
  have hw3 : IntKind.i64.wrap ((n : Int) + 1 - (i : Int)) = (n : Int) + 1 - (i : Int) := by rw [IntKind.wrap_i64]; omega
  have hz3 : (cap : Int) < (n : Int) + 1 := by omega
  have hGi : ¬ (G = i) := by omega
  have hGi1 : ¬ (G = i + 1) := by omega
  have hci : ¬ (cap = i) := by omega
  have hb3 : (i : Int) ≤ (n : Int) := by omega
  have hb5 : (i : Int) ≤ (n : Int) + 1 := by omega
  have hb6 : (i : Int) + 1 ≤ (n : Int) + 1 := by omega
  have hb8 : (0 : Int) ≤ (i : Int) + 1 := by omega
  have ht1 : ((i : Int) + 1).toNat = i + 1 := by omega
  have hb9 : i ≤ cap := by omega
  have hb10 : (i : Int) ≤ (cap : Int) := by omega
  clear hkk hik hold hROW hG hc2 hc3 htl hol h1 h1h
  go_enter Tryz.func109, Tryz.ntmps109
  go_wp2_with (first
    | (at_builtin; refine Lib.wpList_append_run _ rfl _ _ _ _ rfl _ _ rfl rfl _ _ (hrz _) ?_)
    | (at_builtin; refine ZeC rfl _ _ 23 23 rfl _ _ rfl rfl (hcpA _ rfl _ _) ?_))
  go_region_law (refine ZfO rfl _ _ 23 23 rfl (.slice (some ⟨w.heap.size, (i + 1) * 4, none⟩) (n + 1 - (i + 1)) (G - (i + 1))) (.slice (some ⟨g, i * 4, none⟩) (n - i) (cap - i)) (by simp [Act.eval, Act.put]) (by simp [Act.eval, Act.put]) (hcpB _ (by rw [hW2, hW1]; rfl) _ _ _) ?_)
  go_wp2
  go_ret
  exact ⟨G, rfl, hGn, hGm, hpost _ (by rw [hW2, hW1]; rfl) (by rw [hW2, hW1] at hk2; exact ⟨hk2.os, hk2.tape, hk2.output, hk2.size, hk2.block⟩)⟩
set_option maxHeartbeats 4000000 in
set_option maxRecDepth 1000000 in
theorem ZpX : Zm8 Tryz.prog 109 55 4 64 := by
  intro w v v2 n xs ys hr hr2 h1 hbig h63
  rcases hr2.2 with ⟨a, rfl, h0⟩ | ⟨h, caph, curh, rfl, hch, hh, hn2, hm2, hs2, hx2⟩
  · omega
  obtain ⟨a, cap, rfl, hnc, hcm⟩ := hr.slice
  have hh := hh.zero (show 55 ≠ 5 by decide)
  have hhw : h < w.heap.size := (Array.getElem?_eq_some_iff.1 hh).1
  have hyl : ys.length = 1 * 4 := hr2.1
  obtain ⟨v', w', hrun, k1, k2, k3⟩ := Zgb (P := Tryz.prog) (tab := tab) (w := w) (t := 23) (t2 := 23) (e := 55) (ot := 23) Tryz.underlying23 (base.tab 55 _ rfl) (.inl ⟨55, Tryz.underlying23⟩) (n := n) hr (Nat.le_refl n) (xv := .slice (some ⟨h, 0, none⟩) 1 caph) (news := ys) (m := 1) hyl h1
    (fun w' => by simp [Builtin.lenOf]) (fun w' hw' => run_firstCells_some w' 4 1 ⟨h, 0, none⟩ 1 caph ys hyl fun j v hj => by
      have := Za8 (o := 0) (m := 1 * 4) (w := w') (by rw [hw' h hhw]; exact hh) (by omega) j v (by rw [List.drop_zero, hx2]; exact hj)
      exact this) h63 hbig
  have hxl : xs.take (n * 4) = xs := List.take_of_length_le (by rw [hr.1]; exact Nat.le_refl _)
  have k1' : RowIs w' 55 4 (n + 1) v' (xs ++ ys) := by
    have k1 : RowIs w' 55 4 (n + 1) v' (xs.take (n * 4) ++ ys) := k1
    rw [hxl] at k1; exact k1
  clear k1
  cases a with
  | none =>
    go_enter Tryz.func109, Tryz.ntmps109
    go_wp2_with (at_builtin; refine Lib.wpList_append_run _ rfl _ _ _ _ rfl _ _ rfl rfl _ _ hrun ?_)
    all_goals (go_ret; first | exact ⟨v', rfl, k1', k2, k3⟩ | (subst_vars; exact ⟨v', rfl, k1', k2, k3⟩))
  | some a =>
    obtain ⟨ab, ao, asp⟩ := a
    go_enter Tryz.func109, Tryz.ntmps109
    go_wp2_with (at_builtin; refine Lib.wpList_append_run _ rfl _ _ _ _ rfl _ _ rfl rfl _ _ hrun ?_)
    all_goals (go_ret; first | exact ⟨v', rfl, k1', k2, k3⟩ | (subst_vars; exact ⟨v', rfl, k1', k2, k3⟩))
theorem ins109 : ZhV Tryz.prog 109 55 4 64 := ins_ok
  (fun w g n cap i h caph cur curh h1 h2 h3 h4 h5 h6 h7 h8 h9 h10 h11 => Zn6 w g n cap i h caph cur curh h1 h2 h3 h4 h5 h6 h7 h8 h9 h10 h11)
  (fun w g n cap i h caph cur curh h1 h2 h3 h4 h5 h6 h7 h8 h9 h10 h11 h12 => Zn7 w g n cap i h caph cur curh h1 h2 h3 h4 h5 h6 h7 h8 h9 h10 h11 h12)
  ZpX
theorem inf98 : (Tryz.prog.info? 98).map (·.size) = some 2 := by kernel_rfl
theorem zv98 : ∀ w, (zeroValue 98).run Tryz.prog w = .ok (Value.agg #[.slice none 0 0, .int .i64 0]) w := fun w => by kernel_rfl
set_option maxHeartbeats 4000000 in
set_option maxRecDepth 1000000 in
theorem Zpb : ZfB Tryz.prog 110 := by
  intro a n cap i w hin hn hcm
  go_enter Tryz.func110, Tryz.ntmps110
  go_wp2
  all_goals (go_ret; exact ⟨rfl, .refl _ _⟩)
set_option maxHeartbeats 4000000 in
set_option maxRecDepth 1000000 in
theorem del110 : ZhU Tryz.prog 110 98 2 := by
  intro g n cap i j cur w hg hs hn hcm h1 hij hj
  have hne : ¬ ((i : Int) = (j : Int)) := by omega
  have hb1 : (i : Int) ≤ (j : Int) := by omega
  have hb2 : (j : Int) ≤ (n : Int) := by omega
  have hb3 : (i : Int) ≤ (n : Int) := by omega
  have hb4 : i ≤ cap := by omega
  have hb5 : j ≤ cap := by omega
  obtain ⟨news, hnews⟩ : ∃ news, news = (cur.toList.drop (j * 2)).take ((n - j) * 2) := ⟨_, rfl⟩
  have hnl : news.length = (n - j) * 2 := by rw [hnews]; simp; omega
  have hsrc : ∀ k v, news[k]? = some v → w.cell? ((⟨g, j * 2, none⟩ : Addr).add k) = some v := by
    rw [hnews]; exact Za8 hg (by omega)
  have hone : ∀ v ∈ news, v.oneCell' = true := fun v hv => h1 v (by
    rw [hnews] at hv
    have : (cur.toList.drop (j * 2)).take ((n - j) * 2) = (cur.toList.take (n * 2)).drop (j * 2) := by
      rw [List.drop_take]; congr 1; omega
    rw [this] at hv
    exact List.mem_of_mem_drop hv)
  obtain ⟨c1, hc1⟩ : ∃ c1, c1 = (cur.toList.take (i * 2) ++ news ++ cur.toList.drop (i * 2 + news.length)).toArray := ⟨_, rfl⟩
  have hap : ∀ (W : World) (a : Addr) (m sc : Nat) (ty : TypeId), W.heap[g]? = w.heap[g]? → m = n - j → (m = 0 ∨ a = ⟨g, j * 2, none⟩) →
      (Builtin.append_ #[24, 24] ty #[.slice (some ⟨g, 0, none⟩) i cap, .slice (some a) m sc]).run Tryz.prog W = .ok (.slice (some ⟨g, 0, none⟩) (i + m) cap) (W.setRow g c1) := by
    intro W a m sc ty hW hm ha
    rw [hm] at ha ⊢
    have hst := run_storeCells_at Tryz.prog g (i * 2) 98 news 0 cur W (hW.trans hg) (by rw [hnl]; omega) hone
    simp only [Nat.add_zero] at hst
    rw [← hc1] at hst
    have hfc : (Builtin.firstCells 2 (n - j) (.slice (some a) (n - j) sc)).run Tryz.prog W = .ok news.toArray W := by
      refine run_firstCells_some (P := Tryz.prog) W 2 (n - j) a (n - j) sc news hnl fun k v hk => ?_
      rcases ha with h | rfl
      · have := (List.getElem?_eq_some_iff.1 hk).1
        rw [hnl] at this; omega
      · have := hsrc k v hk
        rw [← this]
        simp [World.cell?, hW, Addr.add_none]
    have hr : i + (n - j) ≤ cap := by omega
    cases hq : Tryz.prog.info? 98 with
    | none => have := inf98; rw [hq] at this; simp at this
    | some i0 =>
      have hi : i0.size = 2 := by have := inf98; rw [hq] at this; simpa using this
      simp [Builtin.append_, run_underlying Tryz.underlying24, sizeOf, typeInfo, hq, hi, Builtin.lenOf, hr, hfc, Addr.add_none, hst]
  have hc1s : c1.size = cap * 2 := by rw [hc1]; simp; omega
  have hc1t : c1.toList.take ((i + (n - j)) * 2) = (cur.toList.take (n * 2)).take (i * 2) ++ (cur.toList.take (n * 2)).drop (j * 2) := by
    rw [hc1]
    simp only [List.append_assoc]
    rw [← List.append_assoc, show (i + (n - j)) * 2 = (cur.toList.take (i * 2) ++ news).length from by simp [hnl]; omega, List.take_left, hnews, List.take_take, Nat.min_eq_left (by omega), List.drop_take]
    congr 2
    omega
  have hsub : n - (j - i) = i + (n - j) := by omega
  have hz : (Value.agg #[.slice none 0 0, .int .i64 0]).cells.size = 2 := rfl
  have hz1 : ∀ v ∈ (Value.agg #[.slice none 0 0, .int .i64 0]).cells, v.oneCell' = true := by decide
  rw [hsub]
  have hcn : ¬ (cap = i + (n - j)) := by omega
  have hlt : ((i + (n - j) : Nat) : Int) ≤ (n : Int) := by omega
  have hfin : ∀ (W1 : World) (d : Array Value), W1.heap[g]? = some (.cells d 98 (0, 0)) → d.size = cap * 2 → d.toList.take ((i + (n - j)) * 2) = (cur.toList.take (n * 2)).take (i * 2) ++ (cur.toList.take (n * 2)).drop (j * 2) → KeptBut [g] w W1 →
      ∃ W2, (∀ sc, (Builtin.clear_ #[24] 0 #[.slice (some ⟨g, (i + (n - j)) * 2, none⟩) (n - (i + (n - j))) sc]).run Tryz.prog W1 = .ok (.tuple #[]) W2) ∧
        ∃ cur' : Array Value, W2.heap[g]? = some (.cells cur' 98 (0, 0)) ∧ cur'.size = cap * 2 ∧ cur'.toList.take ((i + (n - j)) * 2) = (cur.toList.take (n * 2)).take (i * 2) ++ (cur.toList.take (n * 2)).drop (j * 2) ∧ KeptBut [g] w W2 := by
    intro W1 d e1 e2 e3 e4
    obtain ⟨tl, t1, t2⟩ := ZfN (P := Tryz.prog) W1 24 98 0 _ 2 Tryz.underlying24 zv98 hz hz1 (by omega) g ((i + (n - j)) * 2) (n - (i + (n - j))) (by omega) d 98 e1 (by omega)
    refine ⟨W1.setRow g (d.toList.take ((i + (n - j)) * 2) ++ tl ++ d.toList.drop ((i + (n - j)) * 2 + tl.length)).toArray, t2, (d.toList.take ((i + (n - j)) * 2) ++ tl ++ d.toList.drop ((i + (n - j)) * 2 + tl.length)).toArray, setRow_heap W1 g d _ 98 _ e1, ?_, ?_, e4.trans (KeptBut.setRow (by simp) _)⟩
    · simp; omega
    · rw [← e3, List.append_assoc]
      simp only
      rw [show (i + (n - j)) * 2 = (d.toList.take ((i + (n - j)) * 2)).length from by simp; omega]
      simp
  clear hc1 hnews hz hz1 hnl hsrc hone h1
  by_cases hjn : j = n
  · have hk : cur.toList.take ((i + (n - j)) * 2) = (cur.toList.take (n * 2)).take (i * 2) ++ (cur.toList.take (n * 2)).drop (j * 2) := by
      subst hjn
      rw [Nat.sub_self, Nat.add_zero, List.take_take, Nat.min_eq_left (by omega), List.drop_of_length_le (by simp; omega), List.append_nil]
    obtain ⟨W2, hcl, hpost⟩ := hfin w.drew cur hg hs hk (KeptBut.refl _ w).drew
    have e0 : i + (n - j) = i := by omega
    rw [e0] at hcl hpost hcn ⊢
    clear hfin hc1t hap hk hsub hlt e0
    subst hjn
    by_cases hcj : cap = j
    · subst hcj
      go_enter Tryz.func110, Tryz.ntmps110
      go_wp2
      go_region
      go_wp2_with (at_builtin; refine ZaA rfl _ 24 rfl _ rfl (hcl _) ?_)
      go_ret
      exact ⟨rfl, hpost⟩
    · go_enter Tryz.func110, Tryz.ntmps110
      go_wp2
      go_region
      go_wp2_with (at_builtin; refine ZaA rfl _ 24 rfl _ rfl (hcl _) ?_)
      go_ret
      exact ⟨rfl, hpost⟩
  · have hcj : ¬ (cap = j) := by omega
    obtain ⟨W2, hcl, hpost⟩ := hfin (w.drew.setRow g c1) c1 (setRow_heap _ g cur _ 98 _ hg) hc1s hc1t ((KeptBut.refl _ w).drew.trans (KeptBut.setRow (by simp) _))
    clear hfin hc1t
    go_enter Tryz.func110, Tryz.ntmps110
    go_wp2
    go_region_law (refine ZeD rfl _ _ 24 24 rfl _ _ (by simp [Act.eval, Act.put]) (by simp [Act.eval, Act.put]) (hap w.drew ⟨g, j * 2, none⟩ (n - j) (cap - j) 24 rfl rfl (Or.inr rfl)) ?_)
    go_wp2_with (at_builtin; refine ZaA rfl _ 24 rfl _ rfl (hcl _) ?_)
    go_ret
    exact ⟨rfl, hpost⟩
set_option maxHeartbeats 4000000 in
set_option maxRecDepth 1000000 in
theorem Zpc : ZfB Tryz.prog 111 := by
  intro a n cap i w hin hn hcm
  go_enter Tryz.func111, Tryz.ntmps111
  go_wp2
  all_goals (go_ret; exact ⟨rfl, .refl _ _⟩)
set_option maxHeartbeats 4000000 in
set_option maxRecDepth 1000000 in
theorem del111 : ZhU Tryz.prog 111 55 4 := by
  intro g n cap i j cur w hg hs hn hcm h1 hij hj
  have hne : ¬ ((i : Int) = (j : Int)) := by omega
  have hb1 : (i : Int) ≤ (j : Int) := by omega
  have hb2 : (j : Int) ≤ (n : Int) := by omega
  have hb3 : (i : Int) ≤ (n : Int) := by omega
  have hb4 : i ≤ cap := by omega
  have hb5 : j ≤ cap := by omega
  obtain ⟨news, hnews⟩ : ∃ news, news = (cur.toList.drop (j * 4)).take ((n - j) * 4) := ⟨_, rfl⟩
  have hnl : news.length = (n - j) * 4 := by rw [hnews]; simp; omega
  have hsrc : ∀ k v, news[k]? = some v → w.cell? ((⟨g, j * 4, none⟩ : Addr).add k) = some v := by
    rw [hnews]; exact Za8 hg (by omega)
  have hone : ∀ v ∈ news, v.oneCell' = true := fun v hv => h1 v (by
    rw [hnews] at hv
    have : (cur.toList.drop (j * 4)).take ((n - j) * 4) = (cur.toList.take (n * 4)).drop (j * 4) := by
      rw [List.drop_take]; congr 1; omega
    rw [this] at hv
    exact List.mem_of_mem_drop hv)
  obtain ⟨c1, hc1⟩ : ∃ c1, c1 = (cur.toList.take (i * 4) ++ news ++ cur.toList.drop (i * 4 + news.length)).toArray := ⟨_, rfl⟩
  have hap : ∀ (W : World) (a : Addr) (m sc : Nat) (ty : TypeId), W.heap[g]? = w.heap[g]? → m = n - j → (m = 0 ∨ a = ⟨g, j * 4, none⟩) →
      (Builtin.append_ #[23, 23] ty #[.slice (some ⟨g, 0, none⟩) i cap, .slice (some a) m sc]).run Tryz.prog W = .ok (.slice (some ⟨g, 0, none⟩) (i + m) cap) (W.setRow g c1) := by
    intro W a m sc ty hW hm ha
    rw [hm] at ha ⊢
    have hst := run_storeCells_at Tryz.prog g (i * 4) 55 news 0 cur W (hW.trans hg) (by rw [hnl]; omega) hone
    simp only [Nat.add_zero] at hst
    rw [← hc1] at hst
    have hfc : (Builtin.firstCells 4 (n - j) (.slice (some a) (n - j) sc)).run Tryz.prog W = .ok news.toArray W := by
      refine run_firstCells_some (P := Tryz.prog) W 4 (n - j) a (n - j) sc news hnl fun k v hk => ?_
      rcases ha with h | rfl
      · have := (List.getElem?_eq_some_iff.1 hk).1
        rw [hnl] at this; omega
      · have := hsrc k v hk
        rw [← this]
        simp [World.cell?, hW, Addr.add_none]
    have hr : i + (n - j) ≤ cap := by omega
    cases hq : Tryz.prog.info? 55 with
    | none => have := Zi9; rw [hq] at this; simp at this
    | some i0 =>
      have hi : i0.size = 4 := by have := Zi9; rw [hq] at this; simpa using this
      simp [Builtin.append_, run_underlying Tryz.underlying23, sizeOf, typeInfo, hq, hi, Builtin.lenOf, hr, hfc, Addr.add_none, hst]
  have hc1s : c1.size = cap * 4 := by rw [hc1]; simp; omega
  have hc1t : c1.toList.take ((i + (n - j)) * 4) = (cur.toList.take (n * 4)).take (i * 4) ++ (cur.toList.take (n * 4)).drop (j * 4) := by
    rw [hc1]
    simp only [List.append_assoc]
    rw [← List.append_assoc, show (i + (n - j)) * 4 = (cur.toList.take (i * 4) ++ news).length from by simp [hnl]; omega, List.take_left, hnews, List.take_take, Nat.min_eq_left (by omega), List.drop_take]
    congr 2
    omega
  have hsub : n - (j - i) = i + (n - j) := by omega
  have hz : (Value.agg #[.slice none 0 0, .slice none 0 0, .int .i64 0, .int .i64 0]).cells.size = 4 := rfl
  have hz1 : ∀ v ∈ (Value.agg #[.slice none 0 0, .slice none 0 0, .int .i64 0, .int .i64 0]).cells, v.oneCell' = true := by decide
  rw [hsub]
  have hcn : ¬ (cap = i + (n - j)) := by omega
  have hlt : ((i + (n - j) : Nat) : Int) ≤ (n : Int) := by omega
  have hfin : ∀ (W1 : World) (d : Array Value), W1.heap[g]? = some (.cells d 55 (0, 0)) → d.size = cap * 4 → d.toList.take ((i + (n - j)) * 4) = (cur.toList.take (n * 4)).take (i * 4) ++ (cur.toList.take (n * 4)).drop (j * 4) → KeptBut [g] w W1 →
      ∃ W2, (∀ sc, (Builtin.clear_ #[23] 0 #[.slice (some ⟨g, (i + (n - j)) * 4, none⟩) (n - (i + (n - j))) sc]).run Tryz.prog W1 = .ok (.tuple #[]) W2) ∧
        ∃ cur' : Array Value, W2.heap[g]? = some (.cells cur' 55 (0, 0)) ∧ cur'.size = cap * 4 ∧ cur'.toList.take ((i + (n - j)) * 4) = (cur.toList.take (n * 4)).take (i * 4) ++ (cur.toList.take (n * 4)).drop (j * 4) ∧ KeptBut [g] w W2 := by
    intro W1 d e1 e2 e3 e4
    obtain ⟨tl, t1, t2⟩ := ZfN (P := Tryz.prog) W1 23 55 0 _ 4 Tryz.underlying23 zv55 hz hz1 (by omega) g ((i + (n - j)) * 4) (n - (i + (n - j))) (by omega) d 55 e1 (by omega)
    refine ⟨W1.setRow g (d.toList.take ((i + (n - j)) * 4) ++ tl ++ d.toList.drop ((i + (n - j)) * 4 + tl.length)).toArray, t2, (d.toList.take ((i + (n - j)) * 4) ++ tl ++ d.toList.drop ((i + (n - j)) * 4 + tl.length)).toArray, setRow_heap W1 g d _ 55 _ e1, ?_, ?_, e4.trans (KeptBut.setRow (by simp) _)⟩
    · simp; omega
    · rw [← e3, List.append_assoc]
      simp only
      rw [show (i + (n - j)) * 4 = (d.toList.take ((i + (n - j)) * 4)).length from by simp; omega]
      simp
  clear hc1 hnews hz hz1 hnl hsrc hone h1
  by_cases hjn : j = n
  · have hk : cur.toList.take ((i + (n - j)) * 4) = (cur.toList.take (n * 4)).take (i * 4) ++ (cur.toList.take (n * 4)).drop (j * 4) := by
      subst hjn
      rw [Nat.sub_self, Nat.add_zero, List.take_take, Nat.min_eq_left (by omega), List.drop_of_length_le (by simp; omega), List.append_nil]
    obtain ⟨W2, hcl, hpost⟩ := hfin w.drew cur hg hs hk (KeptBut.refl _ w).drew
    have e0 : i + (n - j) = i := by omega
    rw [e0] at hcl hpost hcn ⊢
    clear hfin hc1t hap hk hsub hlt e0
    subst hjn
    by_cases hcj : cap = j
    · subst hcj
      go_enter Tryz.func111, Tryz.ntmps111
      go_wp2
      go_region
      go_wp2_with (at_builtin; refine ZaA rfl _ 23 rfl _ rfl (hcl _) ?_)
      go_ret
      exact ⟨rfl, hpost⟩
    · go_enter Tryz.func111, Tryz.ntmps111
      go_wp2
      go_region
      go_wp2_with (at_builtin; refine ZaA rfl _ 23 rfl _ rfl (hcl _) ?_)
      go_ret
      exact ⟨rfl, hpost⟩
  · have hcj : ¬ (cap = j) := by omega
    obtain ⟨W2, hcl, hpost⟩ := hfin (w.drew.setRow g c1) c1 (setRow_heap _ g cur _ 55 _ hg) hc1s hc1t ((KeptBut.refl _ w).drew.trans (KeptBut.setRow (by simp) _))
    clear hfin hc1t
    go_enter Tryz.func111, Tryz.ntmps111
    go_wp2
    go_region_law (refine ZeD rfl _ _ 23 23 rfl _ _ (by simp [Act.eval, Act.put]) (by simp [Act.eval, Act.put]) (hap w.drew ⟨g, j * 4, none⟩ (n - j) (cap - j) 23 rfl rfl (Or.inr rfl)) ?_)
    go_wp2_with (at_builtin; refine ZaA rfl _ 23 rfl _ rfl (hcl _) ?_)
    go_ret
    exact ⟨rfl, hpost⟩
theorem inf53 : (Tryz.prog.info? 53).map (·.size) = some 2 := by kernel_rfl
theorem zv53 : ∀ w, (zeroValue 53).run Tryz.prog w = .ok (Value.agg #[.int .i64 0, .bool false]) w := fun w => by kernel_rfl
set_option maxHeartbeats 4000000 in
set_option maxRecDepth 1000000 in
theorem Zpd : ZfB Tryz.prog 112 := by
  intro a n cap i w hin hn hcm
  go_enter Tryz.func112, Tryz.ntmps112
  go_wp2
  all_goals (go_ret; exact ⟨rfl, .refl _ _⟩)
set_option maxHeartbeats 4000000 in
set_option maxRecDepth 1000000 in
theorem del112 : ZhU Tryz.prog 112 53 2 := by
  intro g n cap i j cur w hg hs hn hcm h1 hij hj
  have hne : ¬ ((i : Int) = (j : Int)) := by omega
  have hb1 : (i : Int) ≤ (j : Int) := by omega
  have hb2 : (j : Int) ≤ (n : Int) := by omega
  have hb3 : (i : Int) ≤ (n : Int) := by omega
  have hb4 : i ≤ cap := by omega
  have hb5 : j ≤ cap := by omega
  obtain ⟨news, hnews⟩ : ∃ news, news = (cur.toList.drop (j * 2)).take ((n - j) * 2) := ⟨_, rfl⟩
  have hnl : news.length = (n - j) * 2 := by rw [hnews]; simp; omega
  have hsrc : ∀ k v, news[k]? = some v → w.cell? ((⟨g, j * 2, none⟩ : Addr).add k) = some v := by
    rw [hnews]; exact Za8 hg (by omega)
  have hone : ∀ v ∈ news, v.oneCell' = true := fun v hv => h1 v (by
    rw [hnews] at hv
    have : (cur.toList.drop (j * 2)).take ((n - j) * 2) = (cur.toList.take (n * 2)).drop (j * 2) := by
      rw [List.drop_take]; congr 1; omega
    rw [this] at hv
    exact List.mem_of_mem_drop hv)
  obtain ⟨c1, hc1⟩ : ∃ c1, c1 = (cur.toList.take (i * 2) ++ news ++ cur.toList.drop (i * 2 + news.length)).toArray := ⟨_, rfl⟩
  have hap : ∀ (W : World) (a : Addr) (m sc : Nat) (ty : TypeId), W.heap[g]? = w.heap[g]? → m = n - j → (m = 0 ∨ a = ⟨g, j * 2, none⟩) →
      (Builtin.append_ #[25, 25] ty #[.slice (some ⟨g, 0, none⟩) i cap, .slice (some a) m sc]).run Tryz.prog W = .ok (.slice (some ⟨g, 0, none⟩) (i + m) cap) (W.setRow g c1) := by
    intro W a m sc ty hW hm ha
    rw [hm] at ha ⊢
    have hst := run_storeCells_at Tryz.prog g (i * 2) 53 news 0 cur W (hW.trans hg) (by rw [hnl]; omega) hone
    simp only [Nat.add_zero] at hst
    rw [← hc1] at hst
    have hfc : (Builtin.firstCells 2 (n - j) (.slice (some a) (n - j) sc)).run Tryz.prog W = .ok news.toArray W := by
      refine run_firstCells_some (P := Tryz.prog) W 2 (n - j) a (n - j) sc news hnl fun k v hk => ?_
      rcases ha with h | rfl
      · have := (List.getElem?_eq_some_iff.1 hk).1
        rw [hnl] at this; omega
      · have := hsrc k v hk
        rw [← this]
        simp [World.cell?, hW, Addr.add_none]
    have hr : i + (n - j) ≤ cap := by omega
    cases hq : Tryz.prog.info? 53 with
    | none => have := inf53; rw [hq] at this; simp at this
    | some i0 =>
      have hi : i0.size = 2 := by have := inf53; rw [hq] at this; simpa using this
      simp [Builtin.append_, run_underlying Tryz.underlying25, sizeOf, typeInfo, hq, hi, Builtin.lenOf, hr, hfc, Addr.add_none, hst]
  have hc1s : c1.size = cap * 2 := by rw [hc1]; simp; omega
  have hc1t : c1.toList.take ((i + (n - j)) * 2) = (cur.toList.take (n * 2)).take (i * 2) ++ (cur.toList.take (n * 2)).drop (j * 2) := by
    rw [hc1]
    simp only [List.append_assoc]
    rw [← List.append_assoc, show (i + (n - j)) * 2 = (cur.toList.take (i * 2) ++ news).length from by simp [hnl]; omega, List.take_left, hnews, List.take_take, Nat.min_eq_left (by omega), List.drop_take]
    congr 2
    omega
  have hsub : n - (j - i) = i + (n - j) := by omega
  have hz : (Value.agg #[.int .i64 0, .bool false]).cells.size = 2 := rfl
  have hz1 : ∀ v ∈ (Value.agg #[.int .i64 0, .bool false]).cells, v.oneCell' = true := by decide
  rw [hsub]
  have hcn : ¬ (cap = i + (n - j)) := by omega
  have hlt : ((i + (n - j) : Nat) : Int) ≤ (n : Int) := by omega
  have hfin : ∀ (W1 : World) (d : Array Value), W1.heap[g]? = some (.cells d 53 (0, 0)) → d.size = cap * 2 → d.toList.take ((i + (n - j)) * 2) = (cur.toList.take (n * 2)).take (i * 2) ++ (cur.toList.take (n * 2)).drop (j * 2) → KeptBut [g] w W1 →
      ∃ W2, (∀ sc, (Builtin.clear_ #[25] 0 #[.slice (some ⟨g, (i + (n - j)) * 2, none⟩) (n - (i + (n - j))) sc]).run Tryz.prog W1 = .ok (.tuple #[]) W2) ∧
        ∃ cur' : Array Value, W2.heap[g]? = some (.cells cur' 53 (0, 0)) ∧ cur'.size = cap * 2 ∧ cur'.toList.take ((i + (n - j)) * 2) = (cur.toList.take (n * 2)).take (i * 2) ++ (cur.toList.take (n * 2)).drop (j * 2) ∧ KeptBut [g] w W2 := by
    intro W1 d e1 e2 e3 e4
    obtain ⟨tl, t1, t2⟩ := ZfN (P := Tryz.prog) W1 25 53 0 _ 2 Tryz.underlying25 zv53 hz hz1 (by omega) g ((i + (n - j)) * 2) (n - (i + (n - j))) (by omega) d 53 e1 (by omega)
    refine ⟨W1.setRow g (d.toList.take ((i + (n - j)) * 2) ++ tl ++ d.toList.drop ((i + (n - j)) * 2 + tl.length)).toArray, t2, (d.toList.take ((i + (n - j)) * 2) ++ tl ++ d.toList.drop ((i + (n - j)) * 2 + tl.length)).toArray, setRow_heap W1 g d _ 53 _ e1, ?_, ?_, e4.trans (KeptBut.setRow (by simp) _)⟩
    · simp; omega
    · rw [← e3, List.append_assoc]
      simp only
      rw [show (i + (n - j)) * 2 = (d.toList.take ((i + (n - j)) * 2)).length from by simp; omega]
      simp
  clear hc1 hnews hz hz1 hnl hsrc hone h1
  by_cases hjn : j = n
  · have hk : cur.toList.take ((i + (n - j)) * 2) = (cur.toList.take (n * 2)).take (i * 2) ++ (cur.toList.take (n * 2)).drop (j * 2) := by
      subst hjn
      rw [Nat.sub_self, Nat.add_zero, List.take_take, Nat.min_eq_left (by omega), List.drop_of_length_le (by simp; omega), List.append_nil]
    obtain ⟨W2, hcl, hpost⟩ := hfin w.drew cur hg hs hk (KeptBut.refl _ w).drew
    have e0 : i + (n - j) = i := by omega
    rw [e0] at hcl hpost hcn ⊢
    clear hfin hc1t hap hk hsub hlt e0
    subst hjn
    by_cases hcj : cap = j
    · subst hcj
      go_enter Tryz.func112, Tryz.ntmps112
      go_wp2
      go_region
      go_wp2_with (at_builtin; refine ZaA rfl _ 25 rfl _ rfl (hcl _) ?_)
      go_ret
      exact ⟨rfl, hpost⟩
    · go_enter Tryz.func112, Tryz.ntmps112
      go_wp2
      go_region
      go_wp2_with (at_builtin; refine ZaA rfl _ 25 rfl _ rfl (hcl _) ?_)
      go_ret
      exact ⟨rfl, hpost⟩
  · have hcj : ¬ (cap = j) := by omega
    obtain ⟨W2, hcl, hpost⟩ := hfin (w.drew.setRow g c1) c1 (setRow_heap _ g cur _ 53 _ hg) hc1s hc1t ((KeptBut.refl _ w).drew.trans (KeptBut.setRow (by simp) _))
    clear hfin hc1t
    go_enter Tryz.func112, Tryz.ntmps112
    go_wp2
    go_region_law (refine ZeD rfl _ _ 25 25 rfl _ _ (by simp [Act.eval, Act.put]) (by simp [Act.eval, Act.put]) (hap w.drew ⟨g, j * 2, none⟩ (n - j) (cap - j) 25 rfl rfl (Or.inr rfl)) ?_)
    go_wp2_with (at_builtin; refine ZaA rfl _ 25 rfl _ rfl (hcl _) ?_)
    go_ret
    exact ⟨rfl, hpost⟩
theorem inf57 : (Tryz.prog.info? 57).map (·.size) = some 4 := by kernel_rfl
theorem sz57 : ∀ w, (Go.sizeOf 57).run Tryz.prog w = .ok 4 w := fun w => by kernel_rfl
theorem info57 : (Tryz.prog.info? 57).map (fun i => (i.zero, i.size, i.bytes)) = some (some (Value.agg #[.int .i64 0, .int .i64 0, .int .i64 0, .int .i64 0]), 4, 32) := by kernel_rfl
set_option maxHeartbeats 4000000 in
set_option maxRecDepth 1000000 in
theorem Zpe (w : World) (g n cap i h caph : Nat) (cur curh : Array Value) (hg : w.heap[g]? = some (.cells cur 57 (0, 0))) (hs : cur.size = cap * 4) (hcm : cap ≤ maxLen) (h1 : ZdQ (cur.toList.take (n * 4)))
    (hh : w.heap[h]? = some (.cells curh 57 (0, 0))) (hhs : curh.size = caph * 4) (hc1 : 1 ≤ caph) (hne : h ≠ g) (h1h : ZdQ (curh.toList.take 4)) (hi : i < n) (hroom : n + 1 ≤ cap) :
    Calls Tryz.prog 70 #[.slice (some ⟨g, 0, none⟩) n cap, .int .i64 i, .slice (some ⟨h, 0, none⟩) 1 caph] w fun e w' => e = .returned (.slice (some ⟨g, 0, none⟩) (n + 1) cap) ∧
      ∃ cur' : Array Value, w'.heap[g]? = some (.cells cur' 57 (0, 0)) ∧ cur'.size = cap * 4 ∧ cur'.toList.take ((n + 1) * 4) = (cur.toList.take (n * 4)).take (i * 4) ++ curh.toList.take 4 ++ (cur.toList.take (n * 4)).drop (i * 4) ∧ KeptBut [g] w w' := by
  have hcmx : cap ≤ 9223372036854775807 := hcm
  have hz2 : ¬ ((i : Int) = (n : Int)) := by omega
  have hov : ∀ lb cb, (callFunc 92 #[.slice (some ⟨h, 0, none⟩) 1 caph, .slice (some ⟨g, (i + 1) * 4, none⟩) lb cb]).run Tryz.prog w = .ok (.value (.bool false)) w := fun lb cb => by
    rw [run_callFunc_extern Tryz.func92 (by kernel_rfl) (by kernel_rfl) (by kernel_rfl) (e := Extern.SlicesOverlaps.overlaps #[26, 26] #[4]) (by kernel_rfl),
      Lib.run_overlaps_apart w 26 4 57 Tryz.underlying26 4 sz57 ⟨h, 0, none⟩ ⟨g, (i + 1) * 4, none⟩ 1 caph lb cb hne 57 57 curh.size cur.size (by simp [World.shape?, hh]) (by simp [World.shape?, hg]) (by omega) (by simp [World.frozen?, hh]) (by simp [World.frozen?, hh])]
    rfl
  obtain ⟨tl, htl⟩ : ∃ tl, tl = (cur.toList.drop (i * 4)).take ((n - i) * 4) := ⟨_, rfl⟩
  have htll : tl.length = (n - i) * 4 := by rw [htl]; simp; omega
  have htl1 : ∀ v ∈ tl, v.oneCell' = true := fun v hv => h1 v (by
    rw [htl, show (cur.toList.drop (i * 4)).take ((n - i) * 4) = (cur.toList.take (n * 4)).drop (i * 4) from by rw [List.drop_take]; congr 1; omega] at hv
    exact List.mem_of_mem_drop hv)
  obtain ⟨c1, hc1'⟩ : ∃ c1, c1 = (cur.toList.take ((i + 1) * 4) ++ tl ++ cur.toList.drop ((i + 1) * 4 + tl.length)).toArray := ⟨_, rfl⟩
  have hc1s : c1.size = cap * 4 := by rw [hc1']; simp; omega
  have hcp1 : ∀ ty dc sc, (Builtin.copy_ #[26, 26] ty #[.slice (some ⟨g, (i + 1) * 4, none⟩) (n + 1 - (i + 1)) dc, .slice (some ⟨g, i * 4, none⟩) (n + 1 - i) sc]).run Tryz.prog w.drew = .ok (goInt (Nat.min (n + 1 - i) (n + 1 - (i + 1)))) (w.drew.setRow g c1) := fun ty dc sc => by
    rw [hc1']
    exact ZcP w.drew 26 26 ty 57 4 g ((i + 1) * 4) (n + 1 - (i + 1)) dc ⟨g, i * 4, none⟩ (n + 1 - i) sc cur 57 tl Tryz.underlying26 inf57 hg (by rw [htll]; simp only [Nat.min_def]; split <;> omega) (by rw [htl]; exact Za8 (w := w.drew) hg (by omega)) (by rw [htll]; omega) htl1
  obtain ⟨W1, hW1⟩ : ∃ W1, W1 = w.drew.setRow g c1 := ⟨_, rfl⟩
  rw [← hW1] at hcp1
  have hg1 : W1.heap[g]? = some (.cells c1 57 (0, 0)) := by rw [hW1]; exact setRow_heap _ g cur _ 57 _ hg
  have hh1 : W1.heap[h]? = some (.cells curh 57 (0, 0)) := by
    rw [hW1, ← hh]
    exact (KeptBut.setRow (w := w.drew) (F := [g]) (by simp) c1).block h (by have := (Array.getElem?_eq_some_iff.1 hh).1; exact this) (by simp [hne])
  obtain ⟨c2, hc2⟩ : ∃ c2, c2 = (c1.toList.take (i * 4) ++ curh.toList.take 4 ++ c1.toList.drop (i * 4 + (curh.toList.take 4).length)).toArray := ⟨_, rfl⟩
  have hyl : (curh.toList.take 4).length = 4 := by simp; omega
  have hcp2 : ∀ ty dc, (Builtin.copy_ #[26, 26] ty #[.slice (some ⟨g, i * 4, none⟩) (n + 1 - i) dc, .slice (some ⟨h, 0, none⟩) 1 caph]).run Tryz.prog W1 = .ok (goInt (Nat.min 1 (n + 1 - i))) (W1.setRow g c2) := fun ty dc => by
    rw [hc2]
    exact ZcP W1 26 26 ty 57 4 g (i * 4) (n + 1 - i) dc ⟨h, 0, none⟩ 1 caph c1 57 (curh.toList.take 4) Tryz.underlying26 inf57 hg1 (by rw [hyl]; simp only [Nat.min_def]; split <;> omega) (by have := Za8 (o := 0) (m := 4) hh1 (by omega); simpa using this) (by rw [hyl]; omega) h1h
  have hpost : ∃ cur' : Array Value, (W1.setRow g c2).heap[g]? = some (.cells cur' 57 (0, 0)) ∧ cur'.size = cap * 4 ∧ cur'.toList.take ((n + 1) * 4) = (cur.toList.take (n * 4)).take (i * 4) ++ curh.toList.take 4 ++ (cur.toList.take (n * 4)).drop (i * 4) ∧ KeptBut [g] w (W1.setRow g c2) := by
    refine ⟨c2, setRow_heap W1 g c1 _ 57 _ hg1, ?_, ?_, ?_⟩
    · rw [hc2]; simp; omega
    · have q := Zm7 (cur := cur.toList) (y := curh.toList.take 4) (tl := tl) (c1 := c1.toList) (c2 := c2.toList) (a := i * 4) (s := 4) (by simp; omega) hyl (by rw [hc1', show i * 4 + 4 = (i + 1) * 4 from by omega]) (by rw [hc2, hyl])
      rw [show (n + 1) * 4 = i * 4 + 4 + tl.length from by rw [htll]; omega, q, htl, show (n - i) * 4 = n * 4 - i * 4 from by omega, Zk4, List.take_take, Nat.min_eq_left (by omega)]
    · rw [hW1]; exact ((KeptBut.refl _ w).drew.trans (KeptBut.setRow (by simp) _)).trans (KeptBut.setRow (by simp) _)
  have hw1 : IntKind.i64.wrap ((i : Int) + 1) = (i : Int) + 1 := by rw [IntKind.wrap_i64]; omega
  have hw2 : IntKind.i64.wrap ((n : Int) + 1) = (n : Int) + 1 := by rw [IntKind.wrap_i64]; omega
  have hb1 : ¬ ((cap : Int) < (n : Int) + 1) := by omega
  have hb2 : ¬ (cap = i + 1) := by omega
  have hb3 : (i : Int) ≤ (n : Int) := by omega
  have hb4 : ¬ (cap = i) := by omega
  have hb5 : (i : Int) ≤ (n : Int) + 1 := by omega
  have hb6 : (i : Int) + 1 ≤ (n : Int) + 1 := by omega
  have hb7 : (n : Int) + 1 ≤ (cap : Int) := by omega
  have hb8 : (0 : Int) ≤ (i : Int) + 1 := by omega
  have hb9 : (0 : Int) ≤ (n : Int) + 1 := by omega
  have ht1 : ((i : Int) + 1).toNat = i + 1 := by omega
  have ht2 : ((n : Int) + 1).toNat = n + 1 := by omega
  clear hc2 hW1 hc1' htl h1 h1h
  go_enter Tryz.func70, Tryz.ntmps70
  go_wp2_with (simp only [hov])
  go_region_law (refine ZfO rfl _ _ 26 26 rfl (.slice (some ⟨g, (i + 1) * 4, none⟩) (n + 1 - (i + 1)) (cap - (i + 1))) (.slice (some ⟨g, i * 4, none⟩) (n + 1 - i) (cap - i)) (by simp [Act.eval, Act.put]) (by simp [Act.eval, Act.put]) (hcp1 _ _ _) ?_)
  go_wp2_with (at_builtin; refine ZeC rfl _ _ 26 26 rfl _ _ rfl rfl (hcp2 _ _) ?_)
  go_ret
  exact ⟨rfl, hpost⟩
set_option maxHeartbeats 4000000 in
set_option maxRecDepth 1000000 in
theorem Zpf (w : World) (g n cap i h caph : Nat) (cur curh : Array Value) (hg : w.heap[g]? = some (.cells cur 57 (0, 0))) (hs : cur.size = cap * 4) (hcm : cap ≤ maxLen) (h1 : ZdQ (cur.toList.take (n * 4)))
    (hh : w.heap[h]? = some (.cells curh 57 (0, 0))) (hhs : curh.size = caph * 4) (hc1 : 1 ≤ caph) (h1h : ZdQ (curh.toList.take 4)) (hi : i < n) (hn : n ≤ cap) (hroom : cap < n + 1) (hbig : (n + 1) * 32 ≤ 140737488355328) :
    Calls Tryz.prog 70 #[.slice (some ⟨g, 0, none⟩) n cap, .int .i64 i, .slice (some ⟨h, 0, none⟩) 1 caph] w fun e w' => ∃ cap', e = .returned (.slice (some ⟨w.heap.size, 0, none⟩) (n + 1) cap') ∧ n + 1 ≤ cap' ∧ cap' ≤ maxLen ∧
      ∃ cur' : Array Value, w'.heap[w.heap.size]? = some (.cells cur' 57 (0, 0)) ∧ cur'.size = cap' * 4 ∧ cur'.toList.take ((n + 1) * 4) = (cur.toList.take (n * 4)).take (i * 4) ++ curh.toList.take 4 ++ (cur.toList.take (n * 4)).drop (i * 4) ∧ KeptBut [] w w' := by
  have hcmx : cap ≤ 9223372036854775807 := hcm
  have hz2 : ¬ ((i : Int) = (n : Int)) := by omega
  have hgw : g < w.heap.size := (Array.getElem?_eq_some_iff.1 hg).1
  have hhw : h < w.heap.size := (Array.getElem?_eq_some_iff.1 hh).1
  obtain ⟨i0, hi0, hz0, hzs, hzb⟩ := info_parts info57
  have hkk : (n : Int) + 1 - (i : Int) = ((n + 1 - i : Nat) : Int) := by omega
  have hik : i + (n + 1 - i) = n + 1 := by omega
  obtain ⟨olds, hol⟩ : ∃ olds, olds = cur.toList.take (i * 4) := ⟨_, rfl⟩
  have holl : olds.length = i * 4 := by rw [hol]; simp; omega
  have hold : (Builtin.firstCells i0.size i (.slice (some ⟨g, 0, none⟩) i cap)).run Tryz.prog w.drew = .ok olds.toArray w.drew := by
    rw [hzs]
    refine run_firstCells_some w.drew 4 i ⟨g, 0, none⟩ i cap olds holl fun j v hj => ?_
    have := Za8 (o := 0) (m := i * 4) (w := w.drew) hg (by omega) j v (by rw [List.drop_zero, ← hol]; exact hj)
    exact this
  obtain ⟨G, hG⟩ : ∃ G, G = grownCap w (n + 1) cap 57 := ⟨_, rfl⟩
  obtain ⟨ROW, hROW⟩ : ∃ ROW : Array Value, ROW = olds.toArray ++ Builtin.zeroCells (Value.agg #[.int .i64 0, .int .i64 0, .int .i64 0, .int .i64 0]).cells (n + 1 - i) ++ Builtin.zeroCells (Value.agg #[.int .i64 0, .int .i64 0, .int .i64 0, .int .i64 0]).cells (G - (n + 1)) := ⟨_, rfl⟩
  have hrz : ∀ ty, (Builtin.append_ #[26, 3] ty #[.slice (some ⟨g, 0, none⟩) i cap, .int .i64 ((n : Int) + 1 - (i : Int))]).run Tryz.prog w =
      .ok (.slice (some ⟨w.heap.size, 0, none⟩) (n + 1) G) (w.drew.alloc (.cells ROW 57)) := fun ty => by
    have h := Lib.run_append_grow_zeros w 26 3 ty 57 i0 _ .i64 .i64 Tryz.underlying26 Tryz.underlying3 hi0 hz0 (some ⟨g, 0, none⟩) i cap olds hold (n + 1 - i) (by omega) (by omega) (by omega) (by omega) (by rw [hzb]; omega) (by rw [hzb, hik]; exact growslice_fits hroom hbig)
    rw [hik, ← hG, ← hROW] at h
    rw [hkk]
    exact h
  have hGn : n + 1 ≤ G := by rw [hG]; exact grownCap_ge w _ _ _
  have hGm : G ≤ maxLen := by rw [hG]; exact grownCap_le_maxLen w (n + 1) cap 57 (by unfold maxLen; omega)
  have hG63 : G ≤ 9223372036854775807 := hGm
  have hRs : ROW.size = G * 4 := by
    rw [hROW]; simp only [Array.size_append, List.size_toArray, size_zeroCells, holl]
    rw [show (Value.agg #[.int .i64 0, .int .i64 0, .int .i64 0, .int .i64 0]).cells.size = 4 from rfl]; omega
  obtain ⟨W1, hW1⟩ : ∃ W1, W1 = w.drew.alloc (.cells ROW 57) := ⟨_, rfl⟩
  rw [← hW1] at hrz
  have hN1 : W1.heap[w.heap.size]? = some (.cells ROW 57 (0, 0)) := by rw [hW1]; exact heap_alloc_new w.drew _
  have hk1 : KeptBut [] w W1 := by rw [hW1]; exact (KeptBut.refl _ w).drew.alloc _
  have hyl : (curh.toList.take 4).length = 4 := by simp; omega
  obtain ⟨c2, hc2⟩ : ∃ c2, c2 = (ROW.toList.take (i * 4) ++ curh.toList.take 4 ++ ROW.toList.drop (i * 4 + (curh.toList.take 4).length)).toArray := ⟨_, rfl⟩
  have hc2s : c2.size = G * 4 := by rw [hc2]; simp; omega
  have hcpA : ∀ (W : World), W.heap = W1.heap → ∀ ty dc, (Builtin.copy_ #[26, 26] ty #[.slice (some ⟨w.heap.size, i * 4, none⟩) (n + 1 - i) dc, .slice (some ⟨h, 0, none⟩) 1 caph]).run Tryz.prog W = .ok (goInt (Nat.min 1 (n + 1 - i))) (W.setRow w.heap.size c2) := fun W hW ty dc => by
    rw [hc2]
    exact ZcP W 26 26 ty 57 4 w.heap.size (i * 4) (n + 1 - i) dc ⟨h, 0, none⟩ 1 caph ROW 57 (curh.toList.take 4) Tryz.underlying26 inf57 (by rw [hW]; exact hN1) (by rw [hyl]; simp only [Nat.min_def]; split <;> omega)
      (by have := Za8 (w := W) (o := 0) (m := 4) (cur := curh) (T := 57) (g := h) (by rw [hW, hk1.block h hhw (by simp)]; exact hh) (by omega); simpa using this) (by rw [hyl]; omega) h1h
  obtain ⟨tl, htl⟩ : ∃ tl, tl = (cur.toList.drop (i * 4)).take ((n - i) * 4) := ⟨_, rfl⟩
  have htll : tl.length = (n - i) * 4 := by rw [htl]; simp; omega
  have htl1 : ∀ v ∈ tl, v.oneCell' = true := fun v hv => h1 v (by
    rw [htl, show (cur.toList.drop (i * 4)).take ((n - i) * 4) = (cur.toList.take (n * 4)).drop (i * 4) from by rw [List.drop_take]; congr 1; omega] at hv
    exact List.mem_of_mem_drop hv)
  obtain ⟨W2, hW2⟩ : ∃ W2, W2 = W1.setRow w.heap.size c2 := ⟨_, rfl⟩
  have hN2 : W2.heap[w.heap.size]? = some (.cells c2 57 (0, 0)) := by rw [hW2]; exact setRow_heap _ _ ROW _ 57 _ hN1
  have hk2 : KeptBut [w.heap.size] w W2 := by rw [hW2]; exact (hk1.mono (by simp)).trans (KeptBut.setRow (by simp) _)
  obtain ⟨c3, hc3⟩ : ∃ c3, c3 = (c2.toList.take ((i + 1) * 4) ++ tl ++ c2.toList.drop ((i + 1) * 4 + tl.length)).toArray := ⟨_, rfl⟩
  have hcpB : ∀ (W : World), W.heap = W2.heap → ∀ ty dc sc, (Builtin.copy_ #[26, 26] ty #[.slice (some ⟨w.heap.size, (i + 1) * 4, none⟩) (n + 1 - (i + 1)) dc, .slice (some ⟨g, i * 4, none⟩) (n - i) sc]).run Tryz.prog W = .ok (goInt (Nat.min (n - i) (n + 1 - (i + 1)))) (W.setRow w.heap.size c3) := fun W hW ty dc sc => by
    rw [hc3]
    exact ZcP W 26 26 ty 57 4 w.heap.size ((i + 1) * 4) (n + 1 - (i + 1)) dc ⟨g, i * 4, none⟩ (n - i) sc c2 57 tl Tryz.underlying26 inf57 (by rw [hW]; exact hN2) (by rw [htll]; simp only [Nat.min_def]; split <;> omega)
      (by rw [htl]; exact Za8 (w := W) (T := 57) (by rw [hW, hk2.block g hgw (by simp; omega)]; exact hg) (by omega)) (by rw [htll]; omega) htl1
  have hpost : ∀ W, W.heap = W2.heap → KeptBut [w.heap.size] w W → ∃ cur' : Array Value, (W.setRow w.heap.size c3).heap[w.heap.size]? = some (.cells cur' 57 (0, 0)) ∧ cur'.size = G * 4 ∧ cur'.toList.take ((n + 1) * 4) = (cur.toList.take (n * 4)).take (i * 4) ++ curh.toList.take 4 ++ (cur.toList.take (n * 4)).drop (i * 4) ∧ KeptBut [] w (W.setRow w.heap.size c3) := by
    intro W hW hk
    refine ⟨c3, setRow_heap W _ c2 _ 57 _ (by rw [hW]; exact hN2), ?_, ?_, (hk.trans (KeptBut.setRow (by simp) _)).fresh (by simp)⟩
    · rw [hc3]; simp; omega
    · have q := ZlV (row := ROW.toList) (y := curh.toList.take 4) (tl := tl) (c2 := c2.toList) (c3 := c3.toList) (a := i * 4) (s := 4) (by simp; omega) hyl (by rw [hc2, hyl]) (by rw [hc3, show i * 4 + 4 = (i + 1) * 4 from by omega])
      rw [show (n + 1) * 4 = i * 4 + 4 + tl.length from by rw [htll]; omega, q, htl, show (n - i) * 4 = n * 4 - i * 4 from by omega, Zk4, List.take_take, Nat.min_eq_left (by omega), hROW]
      congr 2
      simp only [Array.toList_append, List.append_assoc]
      exact (List.take_left' holl).trans hol
  have hw1 : IntKind.i64.wrap ((i : Int) + 1) = (i : Int) + 1 := by rw [IntKind.wrap_i64]; omega
  have hw2 : IntKind.i64.wrap ((n : Int) + 1) = (n : Int) + 1 := by rw [IntKind.wrap_i64]; omega
  have hw3 : IntKind.i64.wrap ((n : Int) + 1 - (i : Int)) = (n : Int) + 1 - (i : Int) := by rw [IntKind.wrap_i64]; omega
  have hz3 : (cap : Int) < (n : Int) + 1 := by omega
  have hGi : ¬ (G = i) := by omega
  have hGi1 : ¬ (G = i + 1) := by omega
  have hci : ¬ (cap = i) := by omega
  have hb3 : (i : Int) ≤ (n : Int) := by omega
  have hb5 : (i : Int) ≤ (n : Int) + 1 := by omega
  have hb6 : (i : Int) + 1 ≤ (n : Int) + 1 := by omega
  have hb8 : (0 : Int) ≤ (i : Int) + 1 := by omega
  have ht1 : ((i : Int) + 1).toNat = i + 1 := by omega
  have hb9 : i ≤ cap := by omega
  have hb10 : (i : Int) ≤ (cap : Int) := by omega
  clear hkk hik hold hROW hG hc2 hc3 htl hol h1 h1h
  go_enter Tryz.func70, Tryz.ntmps70
  go_wp2_with (first
    | (at_builtin; refine Lib.wpList_append_run _ rfl _ _ _ _ rfl _ _ rfl rfl _ _ (hrz _) ?_)
    | (at_builtin; refine ZeC rfl _ _ 26 26 rfl _ _ rfl rfl (hcpA _ rfl _ _) ?_))
  go_region_law (refine ZfO rfl _ _ 26 26 rfl (.slice (some ⟨w.heap.size, (i + 1) * 4, none⟩) (n + 1 - (i + 1)) (G - (i + 1))) (.slice (some ⟨g, i * 4, none⟩) (n - i) (cap - i)) (by simp [Act.eval, Act.put]) (by simp [Act.eval, Act.put]) (hcpB _ (by rw [hW2, hW1]; rfl) _ _ _) ?_)
  go_wp2
  go_ret
  exact ⟨G, rfl, hGn, hGm, hpost _ (by rw [hW2, hW1]; rfl) (by rw [hW2, hW1] at hk2; exact ⟨hk2.os, hk2.tape, hk2.output, hk2.size, hk2.block⟩)⟩
set_option maxHeartbeats 4000000 in
set_option maxRecDepth 1000000 in
theorem insEnd70 : Zm8 Tryz.prog 70 57 4 32 := by
  intro w v v2 n xs ys hr hr2 h1 hbig h63
  rcases hr2.2 with ⟨a, rfl, h0⟩ | ⟨h, caph, curh, rfl, hch, hh, hn2, hm2, hs2, hx2⟩
  · omega
  obtain ⟨a, cap, rfl, hnc, hcm⟩ := hr.slice
  have hh := hh.zero (show 57 ≠ 5 by decide)
  have hhw : h < w.heap.size := (Array.getElem?_eq_some_iff.1 hh).1
  have hyl : ys.length = 1 * 4 := hr2.1
  obtain ⟨v', w', hrun, k1, k2, k3⟩ := Zgb (P := Tryz.prog) (tab := tab) (w := w) (t := 26) (t2 := 26) (e := 57) (ot := 26) Tryz.underlying26 (base.tab 57 _ rfl) (.inl ⟨57, Tryz.underlying26⟩) (n := n) hr (Nat.le_refl n) (xv := .slice (some ⟨h, 0, none⟩) 1 caph) (news := ys) (m := 1) hyl h1
    (fun w' => by simp [Builtin.lenOf]) (fun w' hw' => run_firstCells_some w' 4 1 ⟨h, 0, none⟩ 1 caph ys hyl fun j v hj => by
      have := Za8 (o := 0) (m := 1 * 4) (w := w') (by rw [hw' h hhw]; exact hh) (by omega) j v (by rw [List.drop_zero, hx2]; exact hj)
      exact this) h63 hbig
  have hxl : xs.take (n * 4) = xs := List.take_of_length_le (by rw [hr.1]; exact Nat.le_refl _)
  have k1' : RowIs w' 57 4 (n + 1) v' (xs ++ ys) := by
    have k1 : RowIs w' 57 4 (n + 1) v' (xs.take (n * 4) ++ ys) := k1
    rw [hxl] at k1; exact k1
  clear k1
  cases a with
  | none =>
    go_enter Tryz.func70, Tryz.ntmps70
    go_wp2_with (at_builtin; refine Lib.wpList_append_run _ rfl _ _ _ _ rfl _ _ rfl rfl _ _ hrun ?_)
    all_goals (go_ret; first | exact ⟨v', rfl, k1', k2, k3⟩ | (subst_vars; exact ⟨v', rfl, k1', k2, k3⟩))
  | some a =>
    obtain ⟨ab, ao, asp⟩ := a
    go_enter Tryz.func70, Tryz.ntmps70
    go_wp2_with (at_builtin; refine Lib.wpList_append_run _ rfl _ _ _ _ rfl _ _ rfl rfl _ _ hrun ?_)
    all_goals (go_ret; first | exact ⟨v', rfl, k1', k2, k3⟩ | (subst_vars; exact ⟨v', rfl, k1', k2, k3⟩))
theorem ins70 : ZhV Tryz.prog 70 57 4 32 := ins_ok
  (fun w g n cap i h caph cur curh h1 h2 h3 h4 h5 h6 h7 h8 h9 h10 h11 => Zpe w g n cap i h caph cur curh h1 h2 h3 h4 h5 h6 h7 h8 h9 h10 h11)
  (fun w g n cap i h caph cur curh h1 h2 h3 h4 h5 h6 h7 h8 h9 h10 h11 h12 => Zpf w g n cap i h caph cur curh h1 h2 h3 h4 h5 h6 h7 h8 h9 h10 h11 h12)
  insEnd70
theorem inf176 : (Tryz.prog.info? 176).map (·.size) = some 21 := by kernel_rfl
theorem zv176 : ∀ w, (zeroValue 176).run Tryz.prog w = .ok (Value.agg #[.int .i64 0, .int .i64 0, .int .i64 0, .int .i64 0, .int .i64 0, .int .i64 0, .int .i64 0, .slice none 0 0, .int .i64 0, .bool false, .int .i64 0, .int .i64 0, .int .i64 0, .int .i64 0, .slice none 0 0, .slice none 0 0, .int .i64 0, .int .i64 0, .int .i64 0, .int .i64 0, .int .i64 0]) w := fun w => by kernel_rfl
set_option maxHeartbeats 4000000 in
set_option maxRecDepth 1000000 in
theorem Zpg : ZfB Tryz.prog 135 := by
  intro a n cap i w hin hn hcm
  go_enter Tryz.func135, Tryz.ntmps135
  go_wp2
  all_goals (go_ret; exact ⟨rfl, .refl _ _⟩)
set_option maxHeartbeats 4000000 in
set_option maxRecDepth 1000000 in
theorem del135 : ZhU Tryz.prog 135 176 21 := by
  intro g n cap i j cur w hg hs hn hcm h1 hij hj
  have hne : ¬ ((i : Int) = (j : Int)) := by omega
  have hb1 : (i : Int) ≤ (j : Int) := by omega
  have hb2 : (j : Int) ≤ (n : Int) := by omega
  have hb3 : (i : Int) ≤ (n : Int) := by omega
  have hb4 : i ≤ cap := by omega
  have hb5 : j ≤ cap := by omega
  obtain ⟨news, hnews⟩ : ∃ news, news = (cur.toList.drop (j * 21)).take ((n - j) * 21) := ⟨_, rfl⟩
  have hnl : news.length = (n - j) * 21 := by rw [hnews]; simp; omega
  have hsrc : ∀ k v, news[k]? = some v → w.cell? ((⟨g, j * 21, none⟩ : Addr).add k) = some v := by
    rw [hnews]; exact Za8 hg (by omega)
  have hone : ∀ v ∈ news, v.oneCell' = true := fun v hv => h1 v (by
    rw [hnews] at hv
    have : (cur.toList.drop (j * 21)).take ((n - j) * 21) = (cur.toList.take (n * 21)).drop (j * 21) := by
      rw [List.drop_take]; congr 1; omega
    rw [this] at hv
    exact List.mem_of_mem_drop hv)
  obtain ⟨c1, hc1⟩ : ∃ c1, c1 = (cur.toList.take (i * 21) ++ news ++ cur.toList.drop (i * 21 + news.length)).toArray := ⟨_, rfl⟩
  have hap : ∀ (W : World) (a : Addr) (m sc : Nat) (ty : TypeId), W.heap[g]? = w.heap[g]? → m = n - j → (m = 0 ∨ a = ⟨g, j * 21, none⟩) →
      (Builtin.append_ #[129, 129] ty #[.slice (some ⟨g, 0, none⟩) i cap, .slice (some a) m sc]).run Tryz.prog W = .ok (.slice (some ⟨g, 0, none⟩) (i + m) cap) (W.setRow g c1) := by
    intro W a m sc ty hW hm ha
    rw [hm] at ha ⊢
    have hst := run_storeCells_at Tryz.prog g (i * 21) 176 news 0 cur W (hW.trans hg) (by rw [hnl]; omega) hone
    simp only [Nat.add_zero] at hst
    rw [← hc1] at hst
    have hfc : (Builtin.firstCells 21 (n - j) (.slice (some a) (n - j) sc)).run Tryz.prog W = .ok news.toArray W := by
      refine run_firstCells_some (P := Tryz.prog) W 21 (n - j) a (n - j) sc news hnl fun k v hk => ?_
      rcases ha with h | rfl
      · have := (List.getElem?_eq_some_iff.1 hk).1
        rw [hnl] at this; omega
      · have := hsrc k v hk
        rw [← this]
        simp [World.cell?, hW, Addr.add_none]
    have hr : i + (n - j) ≤ cap := by omega
    cases hq : Tryz.prog.info? 176 with
    | none => have := inf176; rw [hq] at this; simp at this
    | some i0 =>
      have hi : i0.size = 21 := by have := inf176; rw [hq] at this; simpa using this
      simp [Builtin.append_, run_underlying Tryz.underlying129, sizeOf, typeInfo, hq, hi, Builtin.lenOf, hr, hfc, Addr.add_none, hst]
  have hc1s : c1.size = cap * 21 := by rw [hc1]; simp; omega
  have hc1t : c1.toList.take ((i + (n - j)) * 21) = (cur.toList.take (n * 21)).take (i * 21) ++ (cur.toList.take (n * 21)).drop (j * 21) := by
    rw [hc1]
    simp only [List.append_assoc]
    rw [← List.append_assoc, show (i + (n - j)) * 21 = (cur.toList.take (i * 21) ++ news).length from by simp [hnl]; omega, List.take_left, hnews, List.take_take, Nat.min_eq_left (by omega), List.drop_take]
    congr 2
    omega
  have hsub : n - (j - i) = i + (n - j) := by omega
  have hz : (Value.agg #[.int .i64 0, .int .i64 0, .int .i64 0, .int .i64 0, .int .i64 0, .int .i64 0, .int .i64 0, .slice none 0 0, .int .i64 0, .bool false, .int .i64 0, .int .i64 0, .int .i64 0, .int .i64 0, .slice none 0 0, .slice none 0 0, .int .i64 0, .int .i64 0, .int .i64 0, .int .i64 0, .int .i64 0]).cells.size = 21 := rfl
  have hz1 : ∀ v ∈ (Value.agg #[.int .i64 0, .int .i64 0, .int .i64 0, .int .i64 0, .int .i64 0, .int .i64 0, .int .i64 0, .slice none 0 0, .int .i64 0, .bool false, .int .i64 0, .int .i64 0, .int .i64 0, .int .i64 0, .slice none 0 0, .slice none 0 0, .int .i64 0, .int .i64 0, .int .i64 0, .int .i64 0, .int .i64 0]).cells, v.oneCell' = true := by decide
  rw [hsub]
  have hcn : ¬ (cap = i + (n - j)) := by omega
  have hlt : ((i + (n - j) : Nat) : Int) ≤ (n : Int) := by omega
  have hfin : ∀ (W1 : World) (d : Array Value), W1.heap[g]? = some (.cells d 176 (0, 0)) → d.size = cap * 21 → d.toList.take ((i + (n - j)) * 21) = (cur.toList.take (n * 21)).take (i * 21) ++ (cur.toList.take (n * 21)).drop (j * 21) → KeptBut [g] w W1 →
      ∃ W2, (∀ sc, (Builtin.clear_ #[129] 0 #[.slice (some ⟨g, (i + (n - j)) * 21, none⟩) (n - (i + (n - j))) sc]).run Tryz.prog W1 = .ok (.tuple #[]) W2) ∧
        ∃ cur' : Array Value, W2.heap[g]? = some (.cells cur' 176 (0, 0)) ∧ cur'.size = cap * 21 ∧ cur'.toList.take ((i + (n - j)) * 21) = (cur.toList.take (n * 21)).take (i * 21) ++ (cur.toList.take (n * 21)).drop (j * 21) ∧ KeptBut [g] w W2 := by
    intro W1 d e1 e2 e3 e4
    obtain ⟨tl, t1, t2⟩ := ZfN (P := Tryz.prog) W1 129 176 0 _ 21 Tryz.underlying129 zv176 hz hz1 (by omega) g ((i + (n - j)) * 21) (n - (i + (n - j))) (by omega) d 176 e1 (by omega)
    refine ⟨W1.setRow g (d.toList.take ((i + (n - j)) * 21) ++ tl ++ d.toList.drop ((i + (n - j)) * 21 + tl.length)).toArray, t2, (d.toList.take ((i + (n - j)) * 21) ++ tl ++ d.toList.drop ((i + (n - j)) * 21 + tl.length)).toArray, setRow_heap W1 g d _ 176 _ e1, ?_, ?_, e4.trans (KeptBut.setRow (by simp) _)⟩
    · simp; omega
    · rw [← e3, List.append_assoc]
      simp only
      rw [show (i + (n - j)) * 21 = (d.toList.take ((i + (n - j)) * 21)).length from by simp; omega]
      simp
  clear hc1 hnews hz hz1 hnl hsrc hone h1
  by_cases hjn : j = n
  · have hk : cur.toList.take ((i + (n - j)) * 21) = (cur.toList.take (n * 21)).take (i * 21) ++ (cur.toList.take (n * 21)).drop (j * 21) := by
      subst hjn
      rw [Nat.sub_self, Nat.add_zero, List.take_take, Nat.min_eq_left (by omega), List.drop_of_length_le (by simp; omega), List.append_nil]
    obtain ⟨W2, hcl, hpost⟩ := hfin w.drew cur hg hs hk (KeptBut.refl _ w).drew
    have e0 : i + (n - j) = i := by omega
    rw [e0] at hcl hpost hcn ⊢
    clear hfin hc1t hap hk hsub hlt e0
    subst hjn
    by_cases hcj : cap = j
    · subst hcj
      go_enter Tryz.func135, Tryz.ntmps135
      go_wp2
      go_region
      go_wp2_with (at_builtin; refine ZaA rfl _ 129 rfl _ rfl (hcl _) ?_)
      go_ret
      exact ⟨rfl, hpost⟩
    · go_enter Tryz.func135, Tryz.ntmps135
      go_wp2
      go_region
      go_wp2_with (at_builtin; refine ZaA rfl _ 129 rfl _ rfl (hcl _) ?_)
      go_ret
      exact ⟨rfl, hpost⟩
  · have hcj : ¬ (cap = j) := by omega
    obtain ⟨W2, hcl, hpost⟩ := hfin (w.drew.setRow g c1) c1 (setRow_heap _ g cur _ 176 _ hg) hc1s hc1t ((KeptBut.refl _ w).drew.trans (KeptBut.setRow (by simp) _))
    clear hfin hc1t
    go_enter Tryz.func135, Tryz.ntmps135
    go_wp2
    go_region_law (refine ZeD rfl _ _ 129 129 rfl _ _ (by simp [Act.eval, Act.put]) (by simp [Act.eval, Act.put]) (hap w.drew ⟨g, j * 21, none⟩ (n - j) (cap - j) 129 rfl rfl (Or.inr rfl)) ?_)
    go_wp2_with (at_builtin; refine ZaA rfl _ 129 rfl _ rfl (hcl _) ?_)
    go_ret
    exact ⟨rfl, hpost⟩
def ilA : List Nat := [31, 69, 70, 72, 73, 74, 89, 90, 91, 95, 96, 97, 99, 100, 101, 102, 103, 109, 116, 117, 118, 119, 120, 124, 132, 133, 134, 136, 137, 138, 139, 140, 147, 148, 150, 151, 152, 154]
def flA : List Nat := [11, 13, 20, 29, 30, 32, 33, 34, 35, 36, 37, 46, 55, 56, 58, 59, 60, 61, 62, 63, 64, 65, 66, 67, 68, 71, 75, 76, 77, 81, 82, 83, 84, 85, 86, 87, 88, 93, 94, 98, 104, 105, 106, 110, 111, 112, 113, 114, 115, 121, 122, 123, 125, 130, 131, 141, 142, 143, 144, 145, 146, 149, 153, 155, 156, 157, 158, 159]
def clA : List Nat := [63, 64, 65, 66, 67, 105, 106]
def cnA : Nat → ZeA := fun f => bif Nat.beq f 35 then fun k => bif Nat.beq k 11 then some [3, 8, 11, 44, 45, 46] else none else fun _ => none
end Go.Eng.R
