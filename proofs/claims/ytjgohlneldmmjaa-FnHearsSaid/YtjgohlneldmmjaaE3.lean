/- An own evaluator of the program's form, proved sound, and what it says of this law's functions: part 3. -/
import Derived.Test.YtjgohlneldmmjaaE2
import Derived.Test.YtjgohlneldmmjaaChecked
set_option linter.unusedVariables false
open Go Go.Eng
namespace Go.Eng.R
def spec_l1New_l3 : Nat → List V → Int → Int → Option (List V × Int)
 | 0, _, _, _ => none
 | k_ + 1, code0, h3, i4 =>
 bif (decide (i4 < ((code0.length : Nat) : Int))) then
 bif (decide (i4 < 4000)) then
 bif (idxOk i4 code0.length) then
 spec_l1New_l3 k_ code0 (bAnd .i64 (IntKind.i64.wrap ((IntKind.i64.wrap ((IntKind.i64.wrap (h3 * 131)) + (IntKind.i64.wrap (gi (rd code0 i4.toNat) 0)))) + 7)) 1073741823) (IntKind.i64.wrap (i4 + 1))
 else none
 else some (code0, h3)
 else some (code0, h3)
def spec_l1New (code : List V) : Option (V) :=
 Option.bind (spec_l1New_l3 ((((code.length : Nat) : Int) - 0).toNat + 1) code (IntKind.i64.wrap (36565 + ((code.length : Nat) : Int))) 0) fun r1 =>
 some (V.agg [(V.inl t_byte r1.1), (V.int .i64 0), (V.int .i64 r1.2)])
def spec_l1Byte (c : V) : Option (Int × V) :=
 bif (decide ((gi c 1) < (((gl c 0).length : Nat) : Int))) then
 bif (idxOk (gi c 1) ((gl c 0).length)) then
 some ((bAnd .i64 (IntKind.i64.wrap ((bAnd .i64 (bXor .i64 (sShr .i64 (IntKind.i64.wrap ((IntKind.i64.wrap ((gi c 2) * 6364136223846793005)) + 1442695040888963407)) 33) (sShr .i64 (IntKind.i64.wrap ((IntKind.i64.wrap ((gi c 2) * 6364136223846793005)) + 1442695040888963407)) 45)) 255) + (IntKind.i64.wrap (gi (rd (gl c 0) ((gi c 1).toNat)) 0)))) 255), (V.agg [(V.inl t_byte (gl c 0)), (V.int .i64 (IntKind.i64.wrap ((gi c 1) + 1))), (V.int .i64 (IntKind.i64.wrap ((IntKind.i64.wrap ((gi c 2) * 6364136223846793005)) + 1442695040888963407)))]))
 else none
 else some ((bAnd .i64 (bXor .i64 (sShr .i64 (IntKind.i64.wrap ((IntKind.i64.wrap ((gi c 2) * 6364136223846793005)) + 1442695040888963407)) 33) (sShr .i64 (IntKind.i64.wrap ((IntKind.i64.wrap ((gi c 2) * 6364136223846793005)) + 1442695040888963407)) 45)) 255), (V.agg [(V.inl t_byte (gl c 0)), (V.int .i64 (gi c 1)), (V.int .i64 (IntKind.i64.wrap ((IntKind.i64.wrap ((gi c 2) * 6364136223846793005)) + 1442695040888963407)))]))
def spec_l1Below (c : V) (n : Int) : Option (Int × V) :=
 bif (decide (n ≤ 0)) then
 some (0, (n_spec_l1Cur c))
 else bif (decide (n ≤ 256)) then
 Option.bind (spec_l1Byte (n_spec_l1Cur c)) fun r3 =>
 bif (!(decide (n = 0))) then
 some ((r3.1.tmod n), (n_spec_l1Cur r3.2))
 else none
 else Option.bind (spec_l1Byte (n_spec_l1Cur c)) fun r4 =>
 Option.bind (spec_l1Byte (n_spec_l1Cur r4.2)) fun r5 =>
 Option.bind (spec_l1Byte (n_spec_l1Cur r5.2)) fun r6 =>
 Option.bind (spec_l1Byte (n_spec_l1Cur r6.2)) fun r7 =>
 bif (!(decide (n = 0))) then
 some (((IntKind.i64.wrap ((IntKind.i64.wrap ((IntKind.i64.wrap ((IntKind.i64.wrap (r4.1 * 16777216)) + (IntKind.i64.wrap (r5.1 * 65536)))) + (IntKind.i64.wrap (r6.1 * 256)))) + r7.1)).tmod n), (n_spec_l1Cur r7.2))
 else none
def spec_l1PickInt (c : V) (list : List V) : Option (Int × V) :=
 Option.bind (spec_l1Below (n_spec_l1Cur c) ((list.length : Nat) : Int)) fun r8 =>
 bif (idxOk r8.1 list.length) then
 some ((gi (rd list r8.1.toNat) 0), (n_spec_l1Cur r8.2))
 else none
def spec_l4count (c : V) : Option (Int × V) :=
 Option.bind (spec_l1PickInt (n_spec_l1Cur c) [(V.int .i64 1), (V.int .i64 2), (V.int .i64 3), (V.int .i64 3), (V.int .i64 3), (V.int .i64 5)]) fun r9 =>
 some (r9.1, (n_spec_l1Cur r9.2))
def spec_l4new (id : Int) (servers : Int) : Option (V) :=
 bif (((decide ((0 : Int) ≤ servers)) && decide (servers = servers)) && (roomy servers.toNat 1)) then
 bif (((decide ((0 : Int) ≤ servers)) && decide (servers = servers)) && (roomy servers.toNat 8)) then
 bif (((decide ((0 : Int) ≤ servers)) && decide (servers = servers)) && (roomy servers.toNat 8)) then
 some (V.agg [(V.int .i64 id), (V.int .i64 0), (V.int .i64 (-1)), (V.inl t_impl_Item []), (V.int .i64 0), (V.int .i64 0), (V.int .i64 (-1)), (V.int .i64 0), (V.inl t_bool (List.replicate servers.toNat (V.bool false))), (V.inl t_int' (List.replicate servers.toNat (V.int .i64 0))), (V.inl t_int' (List.replicate servers.toNat (V.int .i64 0)))])
 else none
 else none
 else none
def spec_l2drawVal (c : V) : Option (List V × V) :=
 Option.bind (spec_l1Below (n_spec_l1Cur c) 5) fun r18 =>
 bif (idxOk r18.1 5) then
 some ((gs (rd [(V.str []), (V.str [(V.int .u8 120)]), (V.str [(V.int .u8 121)]), (V.str [(V.int .u8 0), (V.int .u8 255)]), (V.str [(V.int .u8 108), (V.int .u8 111), (V.int .u8 110), (V.int .u8 103), (V.int .u8 32), (V.int .u8 118), (V.int .u8 97), (V.int .u8 108), (V.int .u8 117), (V.int .u8 101)])] (0 + r18.1.toNat)) 0), (n_spec_l1Cur r18.2))
 else none
def spec_l2drawKey (c : V) : Option (List V × V) :=
 Option.bind (spec_l1Below (n_spec_l1Cur c) 5) fun r20 =>
 bif (idxOk r20.1 5) then
 some ((gs (rd [(V.str [(V.int .u8 97)]), (V.str [(V.int .u8 98)]), (V.str [(V.int .u8 99)]), (V.str [(V.int .u8 97), (V.int .u8 47), (V.int .u8 98)]), (V.str [(V.int .u8 100)])] (0 + r20.1.toNat)) 0), (n_spec_l1Cur r20.2))
 else none
def spec_l2op (c : V) (index : Int) : Option (V × V) :=
 Option.bind (spec_l1PickInt (n_spec_l1Cur c) [(V.int .i64 1), (V.int .i64 1), (V.int .i64 1), (V.int .i64 2), (V.int .i64 3), (V.int .i64 3), (V.int .i64 4), (V.int .i64 5), (V.int .i64 6), (V.int .i64 6), (V.int .i64 7), (V.int .i64 0)]) fun r17 =>
 bif (decide (r17.1 = 1)) then
 Option.bind (spec_l2drawVal (n_spec_l1Cur r17.2)) fun r19 =>
 bif (!(decide (r17.1 = 0))) then
 bif (!(decide (r17.1 = 4))) then
 bif (!(decide (r17.1 = 5))) then
 Option.bind (spec_l2drawKey (n_spec_l1Cur r19.2)) fun r21 =>
 bif (decide (r17.1 = 4)) then
 Option.bind (spec_l1Below (n_spec_l1Cur r21.2) 2) fun r22 =>
 some ((V.agg [(V.int .i64 r17.1), (V.inl t_byte r21.1), (V.inl t_byte r19.1), (V.int .i64 r22.1)]), (n_spec_l1Cur r22.2))
 else bif (decide (r17.1 = 2)) then
 Option.bind (spec_l1Below (n_spec_l1Cur r21.2) (IntKind.i64.wrap (index + 1))) fun r23 =>
 Option.bind (spec_l1Below (n_spec_l1Cur r23.2) 2) fun r24 =>
 some ((V.agg [(V.int .i64 r17.1), (V.inl t_byte r21.1), (V.inl t_byte r19.1), (V.int .i64 (IntKind.i64.wrap (r23.1 * r24.1)))]), (n_spec_l1Cur r24.2))
 else bif (decide (r17.1 = 5)) then
 Option.bind (spec_l1Below (n_spec_l1Cur r21.2) 4) fun r25 =>
 bif (decide ((0 : Int) < index)) then
 Option.bind (spec_l1Below (n_spec_l1Cur r25.2) index) fun r26 =>
 some ((V.agg [(V.int .i64 r17.1), (V.inl t_byte r21.1), (V.inl t_byte r19.1), (V.int .i64 (IntKind.i64.wrap (1 + r26.1)))]), (n_spec_l1Cur r26.2))
 else some ((V.agg [(V.int .i64 r17.1), (V.inl t_byte r21.1), (V.inl t_byte r19.1), (V.int .i64 (IntKind.i64.wrap (1 + r25.1)))]), (n_spec_l1Cur r25.2))
 else bif (decide (r17.1 = 6)) then
 Option.bind (spec_l1Below (n_spec_l1Cur r21.2) 4) fun r27 =>
 bif (decide ((0 : Int) < index)) then
 Option.bind (spec_l1Below (n_spec_l1Cur r27.2) index) fun r28 =>
 some ((V.agg [(V.int .i64 r17.1), (V.inl t_byte r21.1), (V.inl t_byte r19.1), (V.int .i64 (IntKind.i64.wrap (1 + r28.1)))]), (n_spec_l1Cur r28.2))
 else some ((V.agg [(V.int .i64 r17.1), (V.inl t_byte r21.1), (V.inl t_byte r19.1), (V.int .i64 (IntKind.i64.wrap (1 + r27.1)))]), (n_spec_l1Cur r27.2))
 else bif (decide (r17.1 = 7)) then
 Option.bind (spec_l1Below (n_spec_l1Cur r21.2) 4) fun r29 =>
 bif (decide ((0 : Int) < index)) then
 Option.bind (spec_l1Below (n_spec_l1Cur r29.2) index) fun r30 =>
 some ((V.agg [(V.int .i64 r17.1), (V.inl t_byte r21.1), (V.inl t_byte r19.1), (V.int .i64 (IntKind.i64.wrap (1 + r30.1)))]), (n_spec_l1Cur r30.2))
 else some ((V.agg [(V.int .i64 r17.1), (V.inl t_byte r21.1), (V.inl t_byte r19.1), (V.int .i64 (IntKind.i64.wrap (1 + r29.1)))]), (n_spec_l1Cur r29.2))
 else some ((V.agg [(V.int .i64 r17.1), (V.inl t_byte r21.1), (V.inl t_byte r19.1), (V.int .i64 0)]), (n_spec_l1Cur r21.2))
 else bif (decide (r17.1 = 4)) then
 Option.bind (spec_l1Below (n_spec_l1Cur r19.2) 2) fun r31 =>
 some ((V.agg [(V.int .i64 r17.1), (V.inl t_byte []), (V.inl t_byte r19.1), (V.int .i64 r31.1)]), (n_spec_l1Cur r31.2))
 else bif (decide (r17.1 = 2)) then
 Option.bind (spec_l1Below (n_spec_l1Cur r19.2) (IntKind.i64.wrap (index + 1))) fun r32 =>
 Option.bind (spec_l1Below (n_spec_l1Cur r32.2) 2) fun r33 =>
 some ((V.agg [(V.int .i64 r17.1), (V.inl t_byte []), (V.inl t_byte r19.1), (V.int .i64 (IntKind.i64.wrap (r32.1 * r33.1)))]), (n_spec_l1Cur r33.2))
 else bif (decide (r17.1 = 5)) then
 Option.bind (spec_l1Below (n_spec_l1Cur r19.2) 4) fun r34 =>
 bif (decide ((0 : Int) < index)) then
 Option.bind (spec_l1Below (n_spec_l1Cur r34.2) index) fun r35 =>
 some ((V.agg [(V.int .i64 r17.1), (V.inl t_byte []), (V.inl t_byte r19.1), (V.int .i64 (IntKind.i64.wrap (1 + r35.1)))]), (n_spec_l1Cur r35.2))
 else some ((V.agg [(V.int .i64 r17.1), (V.inl t_byte []), (V.inl t_byte r19.1), (V.int .i64 (IntKind.i64.wrap (1 + r34.1)))]), (n_spec_l1Cur r34.2))
 else bif (decide (r17.1 = 6)) then
 Option.bind (spec_l1Below (n_spec_l1Cur r19.2) 4) fun r36 =>
 bif (decide ((0 : Int) < index)) then
 Option.bind (spec_l1Below (n_spec_l1Cur r36.2) index) fun r37 =>
 some ((V.agg [(V.int .i64 r17.1), (V.inl t_byte []), (V.inl t_byte r19.1), (V.int .i64 (IntKind.i64.wrap (1 + r37.1)))]), (n_spec_l1Cur r37.2))
 else some ((V.agg [(V.int .i64 r17.1), (V.inl t_byte []), (V.inl t_byte r19.1), (V.int .i64 (IntKind.i64.wrap (1 + r36.1)))]), (n_spec_l1Cur r36.2))
 else bif (decide (r17.1 = 7)) then
 Option.bind (spec_l1Below (n_spec_l1Cur r19.2) 4) fun r38 =>
 bif (decide ((0 : Int) < index)) then
 Option.bind (spec_l1Below (n_spec_l1Cur r38.2) index) fun r39 =>
 some ((V.agg [(V.int .i64 r17.1), (V.inl t_byte []), (V.inl t_byte r19.1), (V.int .i64 (IntKind.i64.wrap (1 + r39.1)))]), (n_spec_l1Cur r39.2))
 else some ((V.agg [(V.int .i64 r17.1), (V.inl t_byte []), (V.inl t_byte r19.1), (V.int .i64 (IntKind.i64.wrap (1 + r38.1)))]), (n_spec_l1Cur r38.2))
 else some ((V.agg [(V.int .i64 r17.1), (V.inl t_byte []), (V.inl t_byte r19.1), (V.int .i64 0)]), (n_spec_l1Cur r19.2))
 else bif (decide (r17.1 = 4)) then
 Option.bind (spec_l1Below (n_spec_l1Cur r19.2) 2) fun r40 =>
 some ((V.agg [(V.int .i64 r17.1), (V.inl t_byte []), (V.inl t_byte r19.1), (V.int .i64 r40.1)]), (n_spec_l1Cur r40.2))
 else bif (decide (r17.1 = 2)) then
 Option.bind (spec_l1Below (n_spec_l1Cur r19.2) (IntKind.i64.wrap (index + 1))) fun r41 =>
 Option.bind (spec_l1Below (n_spec_l1Cur r41.2) 2) fun r42 =>
 some ((V.agg [(V.int .i64 r17.1), (V.inl t_byte []), (V.inl t_byte r19.1), (V.int .i64 (IntKind.i64.wrap (r41.1 * r42.1)))]), (n_spec_l1Cur r42.2))
 else bif (decide (r17.1 = 5)) then
 Option.bind (spec_l1Below (n_spec_l1Cur r19.2) 4) fun r43 =>
 bif (decide ((0 : Int) < index)) then
 Option.bind (spec_l1Below (n_spec_l1Cur r43.2) index) fun r44 =>
 some ((V.agg [(V.int .i64 r17.1), (V.inl t_byte []), (V.inl t_byte r19.1), (V.int .i64 (IntKind.i64.wrap (1 + r44.1)))]), (n_spec_l1Cur r44.2))
 else some ((V.agg [(V.int .i64 r17.1), (V.inl t_byte []), (V.inl t_byte r19.1), (V.int .i64 (IntKind.i64.wrap (1 + r43.1)))]), (n_spec_l1Cur r43.2))
 else bif (decide (r17.1 = 6)) then
 Option.bind (spec_l1Below (n_spec_l1Cur r19.2) 4) fun r45 =>
 bif (decide ((0 : Int) < index)) then
 Option.bind (spec_l1Below (n_spec_l1Cur r45.2) index) fun r46 =>
 some ((V.agg [(V.int .i64 r17.1), (V.inl t_byte []), (V.inl t_byte r19.1), (V.int .i64 (IntKind.i64.wrap (1 + r46.1)))]), (n_spec_l1Cur r46.2))
 else some ((V.agg [(V.int .i64 r17.1), (V.inl t_byte []), (V.inl t_byte r19.1), (V.int .i64 (IntKind.i64.wrap (1 + r45.1)))]), (n_spec_l1Cur r45.2))
 else bif (decide (r17.1 = 7)) then
 Option.bind (spec_l1Below (n_spec_l1Cur r19.2) 4) fun r47 =>
 bif (decide ((0 : Int) < index)) then
 Option.bind (spec_l1Below (n_spec_l1Cur r47.2) index) fun r48 =>
 some ((V.agg [(V.int .i64 r17.1), (V.inl t_byte []), (V.inl t_byte r19.1), (V.int .i64 (IntKind.i64.wrap (1 + r48.1)))]), (n_spec_l1Cur r48.2))
 else some ((V.agg [(V.int .i64 r17.1), (V.inl t_byte []), (V.inl t_byte r19.1), (V.int .i64 (IntKind.i64.wrap (1 + r47.1)))]), (n_spec_l1Cur r47.2))
 else some ((V.agg [(V.int .i64 r17.1), (V.inl t_byte []), (V.inl t_byte r19.1), (V.int .i64 0)]), (n_spec_l1Cur r19.2))
 else bif (decide (r17.1 = 4)) then
 Option.bind (spec_l1Below (n_spec_l1Cur r19.2) 2) fun r49 =>
 some ((V.agg [(V.int .i64 r17.1), (V.inl t_byte []), (V.inl t_byte r19.1), (V.int .i64 r49.1)]), (n_spec_l1Cur r49.2))
 else bif (decide (r17.1 = 2)) then
 Option.bind (spec_l1Below (n_spec_l1Cur r19.2) (IntKind.i64.wrap (index + 1))) fun r50 =>
 Option.bind (spec_l1Below (n_spec_l1Cur r50.2) 2) fun r51 =>
 some ((V.agg [(V.int .i64 r17.1), (V.inl t_byte []), (V.inl t_byte r19.1), (V.int .i64 (IntKind.i64.wrap (r50.1 * r51.1)))]), (n_spec_l1Cur r51.2))
 else bif (decide (r17.1 = 5)) then
 Option.bind (spec_l1Below (n_spec_l1Cur r19.2) 4) fun r52 =>
 bif (decide ((0 : Int) < index)) then
 Option.bind (spec_l1Below (n_spec_l1Cur r52.2) index) fun r53 =>
 some ((V.agg [(V.int .i64 r17.1), (V.inl t_byte []), (V.inl t_byte r19.1), (V.int .i64 (IntKind.i64.wrap (1 + r53.1)))]), (n_spec_l1Cur r53.2))
 else some ((V.agg [(V.int .i64 r17.1), (V.inl t_byte []), (V.inl t_byte r19.1), (V.int .i64 (IntKind.i64.wrap (1 + r52.1)))]), (n_spec_l1Cur r52.2))
 else bif (decide (r17.1 = 6)) then
 Option.bind (spec_l1Below (n_spec_l1Cur r19.2) 4) fun r54 =>
 bif (decide ((0 : Int) < index)) then
 Option.bind (spec_l1Below (n_spec_l1Cur r54.2) index) fun r55 =>
 some ((V.agg [(V.int .i64 r17.1), (V.inl t_byte []), (V.inl t_byte r19.1), (V.int .i64 (IntKind.i64.wrap (1 + r55.1)))]), (n_spec_l1Cur r55.2))
 else some ((V.agg [(V.int .i64 r17.1), (V.inl t_byte []), (V.inl t_byte r19.1), (V.int .i64 (IntKind.i64.wrap (1 + r54.1)))]), (n_spec_l1Cur r54.2))
 else bif (decide (r17.1 = 7)) then
 Option.bind (spec_l1Below (n_spec_l1Cur r19.2) 4) fun r56 =>
 bif (decide ((0 : Int) < index)) then
 Option.bind (spec_l1Below (n_spec_l1Cur r56.2) index) fun r57 =>
 some ((V.agg [(V.int .i64 r17.1), (V.inl t_byte []), (V.inl t_byte r19.1), (V.int .i64 (IntKind.i64.wrap (1 + r57.1)))]), (n_spec_l1Cur r57.2))
 else some ((V.agg [(V.int .i64 r17.1), (V.inl t_byte []), (V.inl t_byte r19.1), (V.int .i64 (IntKind.i64.wrap (1 + r56.1)))]), (n_spec_l1Cur r56.2))
 else some ((V.agg [(V.int .i64 r17.1), (V.inl t_byte []), (V.inl t_byte r19.1), (V.int .i64 0)]), (n_spec_l1Cur r19.2))
 else bif (decide (r17.1 = 2)) then
 Option.bind (spec_l2drawVal (n_spec_l1Cur r17.2)) fun r58 =>
 bif (!(decide (r17.1 = 0))) then
 bif (!(decide (r17.1 = 4))) then
 bif (!(decide (r17.1 = 5))) then
 Option.bind (spec_l2drawKey (n_spec_l1Cur r58.2)) fun r59 =>
 bif (decide (r17.1 = 4)) then
 Option.bind (spec_l1Below (n_spec_l1Cur r59.2) 2) fun r60 =>
 some ((V.agg [(V.int .i64 r17.1), (V.inl t_byte r59.1), (V.inl t_byte r58.1), (V.int .i64 r60.1)]), (n_spec_l1Cur r60.2))
 else bif (decide (r17.1 = 2)) then
 Option.bind (spec_l1Below (n_spec_l1Cur r59.2) (IntKind.i64.wrap (index + 1))) fun r61 =>
 Option.bind (spec_l1Below (n_spec_l1Cur r61.2) 2) fun r62 =>
 some ((V.agg [(V.int .i64 r17.1), (V.inl t_byte r59.1), (V.inl t_byte r58.1), (V.int .i64 (IntKind.i64.wrap (r61.1 * r62.1)))]), (n_spec_l1Cur r62.2))
 else bif (decide (r17.1 = 5)) then
 Option.bind (spec_l1Below (n_spec_l1Cur r59.2) 4) fun r63 =>
 bif (decide ((0 : Int) < index)) then
 Option.bind (spec_l1Below (n_spec_l1Cur r63.2) index) fun r64 =>
 some ((V.agg [(V.int .i64 r17.1), (V.inl t_byte r59.1), (V.inl t_byte r58.1), (V.int .i64 (IntKind.i64.wrap (1 + r64.1)))]), (n_spec_l1Cur r64.2))
 else some ((V.agg [(V.int .i64 r17.1), (V.inl t_byte r59.1), (V.inl t_byte r58.1), (V.int .i64 (IntKind.i64.wrap (1 + r63.1)))]), (n_spec_l1Cur r63.2))
 else bif (decide (r17.1 = 6)) then
 Option.bind (spec_l1Below (n_spec_l1Cur r59.2) 4) fun r65 =>
 bif (decide ((0 : Int) < index)) then
 Option.bind (spec_l1Below (n_spec_l1Cur r65.2) index) fun r66 =>
 some ((V.agg [(V.int .i64 r17.1), (V.inl t_byte r59.1), (V.inl t_byte r58.1), (V.int .i64 (IntKind.i64.wrap (1 + r66.1)))]), (n_spec_l1Cur r66.2))
 else some ((V.agg [(V.int .i64 r17.1), (V.inl t_byte r59.1), (V.inl t_byte r58.1), (V.int .i64 (IntKind.i64.wrap (1 + r65.1)))]), (n_spec_l1Cur r65.2))
 else bif (decide (r17.1 = 7)) then
 Option.bind (spec_l1Below (n_spec_l1Cur r59.2) 4) fun r67 =>
 bif (decide ((0 : Int) < index)) then
 Option.bind (spec_l1Below (n_spec_l1Cur r67.2) index) fun r68 =>
 some ((V.agg [(V.int .i64 r17.1), (V.inl t_byte r59.1), (V.inl t_byte r58.1), (V.int .i64 (IntKind.i64.wrap (1 + r68.1)))]), (n_spec_l1Cur r68.2))
 else some ((V.agg [(V.int .i64 r17.1), (V.inl t_byte r59.1), (V.inl t_byte r58.1), (V.int .i64 (IntKind.i64.wrap (1 + r67.1)))]), (n_spec_l1Cur r67.2))
 else some ((V.agg [(V.int .i64 r17.1), (V.inl t_byte r59.1), (V.inl t_byte r58.1), (V.int .i64 0)]), (n_spec_l1Cur r59.2))
 else bif (decide (r17.1 = 4)) then
 Option.bind (spec_l1Below (n_spec_l1Cur r58.2) 2) fun r69 =>
 some ((V.agg [(V.int .i64 r17.1), (V.inl t_byte []), (V.inl t_byte r58.1), (V.int .i64 r69.1)]), (n_spec_l1Cur r69.2))
 else bif (decide (r17.1 = 2)) then
 Option.bind (spec_l1Below (n_spec_l1Cur r58.2) (IntKind.i64.wrap (index + 1))) fun r70 =>
 Option.bind (spec_l1Below (n_spec_l1Cur r70.2) 2) fun r71 =>
 some ((V.agg [(V.int .i64 r17.1), (V.inl t_byte []), (V.inl t_byte r58.1), (V.int .i64 (IntKind.i64.wrap (r70.1 * r71.1)))]), (n_spec_l1Cur r71.2))
 else bif (decide (r17.1 = 5)) then
 Option.bind (spec_l1Below (n_spec_l1Cur r58.2) 4) fun r72 =>
 bif (decide ((0 : Int) < index)) then
 Option.bind (spec_l1Below (n_spec_l1Cur r72.2) index) fun r73 =>
 some ((V.agg [(V.int .i64 r17.1), (V.inl t_byte []), (V.inl t_byte r58.1), (V.int .i64 (IntKind.i64.wrap (1 + r73.1)))]), (n_spec_l1Cur r73.2))
 else some ((V.agg [(V.int .i64 r17.1), (V.inl t_byte []), (V.inl t_byte r58.1), (V.int .i64 (IntKind.i64.wrap (1 + r72.1)))]), (n_spec_l1Cur r72.2))
 else bif (decide (r17.1 = 6)) then
 Option.bind (spec_l1Below (n_spec_l1Cur r58.2) 4) fun r74 =>
 bif (decide ((0 : Int) < index)) then
 Option.bind (spec_l1Below (n_spec_l1Cur r74.2) index) fun r75 =>
 some ((V.agg [(V.int .i64 r17.1), (V.inl t_byte []), (V.inl t_byte r58.1), (V.int .i64 (IntKind.i64.wrap (1 + r75.1)))]), (n_spec_l1Cur r75.2))
 else some ((V.agg [(V.int .i64 r17.1), (V.inl t_byte []), (V.inl t_byte r58.1), (V.int .i64 (IntKind.i64.wrap (1 + r74.1)))]), (n_spec_l1Cur r74.2))
 else bif (decide (r17.1 = 7)) then
 Option.bind (spec_l1Below (n_spec_l1Cur r58.2) 4) fun r76 =>
 bif (decide ((0 : Int) < index)) then
 Option.bind (spec_l1Below (n_spec_l1Cur r76.2) index) fun r77 =>
 some ((V.agg [(V.int .i64 r17.1), (V.inl t_byte []), (V.inl t_byte r58.1), (V.int .i64 (IntKind.i64.wrap (1 + r77.1)))]), (n_spec_l1Cur r77.2))
 else some ((V.agg [(V.int .i64 r17.1), (V.inl t_byte []), (V.inl t_byte r58.1), (V.int .i64 (IntKind.i64.wrap (1 + r76.1)))]), (n_spec_l1Cur r76.2))
 else some ((V.agg [(V.int .i64 r17.1), (V.inl t_byte []), (V.inl t_byte r58.1), (V.int .i64 0)]), (n_spec_l1Cur r58.2))
 else bif (decide (r17.1 = 4)) then
 Option.bind (spec_l1Below (n_spec_l1Cur r58.2) 2) fun r78 =>
 some ((V.agg [(V.int .i64 r17.1), (V.inl t_byte []), (V.inl t_byte r58.1), (V.int .i64 r78.1)]), (n_spec_l1Cur r78.2))
 else bif (decide (r17.1 = 2)) then
 Option.bind (spec_l1Below (n_spec_l1Cur r58.2) (IntKind.i64.wrap (index + 1))) fun r79 =>
 Option.bind (spec_l1Below (n_spec_l1Cur r79.2) 2) fun r80 =>
 some ((V.agg [(V.int .i64 r17.1), (V.inl t_byte []), (V.inl t_byte r58.1), (V.int .i64 (IntKind.i64.wrap (r79.1 * r80.1)))]), (n_spec_l1Cur r80.2))
 else bif (decide (r17.1 = 5)) then
 Option.bind (spec_l1Below (n_spec_l1Cur r58.2) 4) fun r81 =>
 bif (decide ((0 : Int) < index)) then
 Option.bind (spec_l1Below (n_spec_l1Cur r81.2) index) fun r82 =>
 some ((V.agg [(V.int .i64 r17.1), (V.inl t_byte []), (V.inl t_byte r58.1), (V.int .i64 (IntKind.i64.wrap (1 + r82.1)))]), (n_spec_l1Cur r82.2))
 else some ((V.agg [(V.int .i64 r17.1), (V.inl t_byte []), (V.inl t_byte r58.1), (V.int .i64 (IntKind.i64.wrap (1 + r81.1)))]), (n_spec_l1Cur r81.2))
 else bif (decide (r17.1 = 6)) then
 Option.bind (spec_l1Below (n_spec_l1Cur r58.2) 4) fun r83 =>
 bif (decide ((0 : Int) < index)) then
 Option.bind (spec_l1Below (n_spec_l1Cur r83.2) index) fun r84 =>
 some ((V.agg [(V.int .i64 r17.1), (V.inl t_byte []), (V.inl t_byte r58.1), (V.int .i64 (IntKind.i64.wrap (1 + r84.1)))]), (n_spec_l1Cur r84.2))
 else some ((V.agg [(V.int .i64 r17.1), (V.inl t_byte []), (V.inl t_byte r58.1), (V.int .i64 (IntKind.i64.wrap (1 + r83.1)))]), (n_spec_l1Cur r83.2))
 else bif (decide (r17.1 = 7)) then
 Option.bind (spec_l1Below (n_spec_l1Cur r58.2) 4) fun r85 =>
 bif (decide ((0 : Int) < index)) then
 Option.bind (spec_l1Below (n_spec_l1Cur r85.2) index) fun r86 =>
 some ((V.agg [(V.int .i64 r17.1), (V.inl t_byte []), (V.inl t_byte r58.1), (V.int .i64 (IntKind.i64.wrap (1 + r86.1)))]), (n_spec_l1Cur r86.2))
 else some ((V.agg [(V.int .i64 r17.1), (V.inl t_byte []), (V.inl t_byte r58.1), (V.int .i64 (IntKind.i64.wrap (1 + r85.1)))]), (n_spec_l1Cur r85.2))
 else some ((V.agg [(V.int .i64 r17.1), (V.inl t_byte []), (V.inl t_byte r58.1), (V.int .i64 0)]), (n_spec_l1Cur r58.2))
 else bif (decide (r17.1 = 4)) then
 Option.bind (spec_l1Below (n_spec_l1Cur r58.2) 2) fun r87 =>
 some ((V.agg [(V.int .i64 r17.1), (V.inl t_byte []), (V.inl t_byte r58.1), (V.int .i64 r87.1)]), (n_spec_l1Cur r87.2))
 else bif (decide (r17.1 = 2)) then
 Option.bind (spec_l1Below (n_spec_l1Cur r58.2) (IntKind.i64.wrap (index + 1))) fun r88 =>
 Option.bind (spec_l1Below (n_spec_l1Cur r88.2) 2) fun r89 =>
 some ((V.agg [(V.int .i64 r17.1), (V.inl t_byte []), (V.inl t_byte r58.1), (V.int .i64 (IntKind.i64.wrap (r88.1 * r89.1)))]), (n_spec_l1Cur r89.2))
 else bif (decide (r17.1 = 5)) then
 Option.bind (spec_l1Below (n_spec_l1Cur r58.2) 4) fun r90 =>
 bif (decide ((0 : Int) < index)) then
 Option.bind (spec_l1Below (n_spec_l1Cur r90.2) index) fun r91 =>
 some ((V.agg [(V.int .i64 r17.1), (V.inl t_byte []), (V.inl t_byte r58.1), (V.int .i64 (IntKind.i64.wrap (1 + r91.1)))]), (n_spec_l1Cur r91.2))
 else some ((V.agg [(V.int .i64 r17.1), (V.inl t_byte []), (V.inl t_byte r58.1), (V.int .i64 (IntKind.i64.wrap (1 + r90.1)))]), (n_spec_l1Cur r90.2))
 else bif (decide (r17.1 = 6)) then
 Option.bind (spec_l1Below (n_spec_l1Cur r58.2) 4) fun r92 =>
 bif (decide ((0 : Int) < index)) then
 Option.bind (spec_l1Below (n_spec_l1Cur r92.2) index) fun r93 =>
 some ((V.agg [(V.int .i64 r17.1), (V.inl t_byte []), (V.inl t_byte r58.1), (V.int .i64 (IntKind.i64.wrap (1 + r93.1)))]), (n_spec_l1Cur r93.2))
 else some ((V.agg [(V.int .i64 r17.1), (V.inl t_byte []), (V.inl t_byte r58.1), (V.int .i64 (IntKind.i64.wrap (1 + r92.1)))]), (n_spec_l1Cur r92.2))
 else bif (decide (r17.1 = 7)) then
 Option.bind (spec_l1Below (n_spec_l1Cur r58.2) 4) fun r94 =>
 bif (decide ((0 : Int) < index)) then
 Option.bind (spec_l1Below (n_spec_l1Cur r94.2) index) fun r95 =>
 some ((V.agg [(V.int .i64 r17.1), (V.inl t_byte []), (V.inl t_byte r58.1), (V.int .i64 (IntKind.i64.wrap (1 + r95.1)))]), (n_spec_l1Cur r95.2))
 else some ((V.agg [(V.int .i64 r17.1), (V.inl t_byte []), (V.inl t_byte r58.1), (V.int .i64 (IntKind.i64.wrap (1 + r94.1)))]), (n_spec_l1Cur r94.2))
 else some ((V.agg [(V.int .i64 r17.1), (V.inl t_byte []), (V.inl t_byte r58.1), (V.int .i64 0)]), (n_spec_l1Cur r58.2))
 else bif (decide (r17.1 = 6)) then
 Option.bind (spec_l2drawVal (n_spec_l1Cur r17.2)) fun r96 =>
 bif (!(decide (r17.1 = 0))) then
 bif (!(decide (r17.1 = 4))) then
 bif (!(decide (r17.1 = 5))) then
 Option.bind (spec_l2drawKey (n_spec_l1Cur r96.2)) fun r97 =>
 bif (decide (r17.1 = 4)) then
 Option.bind (spec_l1Below (n_spec_l1Cur r97.2) 2) fun r98 =>
 some ((V.agg [(V.int .i64 r17.1), (V.inl t_byte r97.1), (V.inl t_byte r96.1), (V.int .i64 r98.1)]), (n_spec_l1Cur r98.2))
 else bif (decide (r17.1 = 2)) then
 Option.bind (spec_l1Below (n_spec_l1Cur r97.2) (IntKind.i64.wrap (index + 1))) fun r99 =>
 Option.bind (spec_l1Below (n_spec_l1Cur r99.2) 2) fun r100 =>
 some ((V.agg [(V.int .i64 r17.1), (V.inl t_byte r97.1), (V.inl t_byte r96.1), (V.int .i64 (IntKind.i64.wrap (r99.1 * r100.1)))]), (n_spec_l1Cur r100.2))
 else bif (decide (r17.1 = 5)) then
 Option.bind (spec_l1Below (n_spec_l1Cur r97.2) 4) fun r101 =>
 bif (decide ((0 : Int) < index)) then
 Option.bind (spec_l1Below (n_spec_l1Cur r101.2) index) fun r102 =>
 some ((V.agg [(V.int .i64 r17.1), (V.inl t_byte r97.1), (V.inl t_byte r96.1), (V.int .i64 (IntKind.i64.wrap (1 + r102.1)))]), (n_spec_l1Cur r102.2))
 else some ((V.agg [(V.int .i64 r17.1), (V.inl t_byte r97.1), (V.inl t_byte r96.1), (V.int .i64 (IntKind.i64.wrap (1 + r101.1)))]), (n_spec_l1Cur r101.2))
 else bif (decide (r17.1 = 6)) then
 Option.bind (spec_l1Below (n_spec_l1Cur r97.2) 4) fun r103 =>
 bif (decide ((0 : Int) < index)) then
 Option.bind (spec_l1Below (n_spec_l1Cur r103.2) index) fun r104 =>
 some ((V.agg [(V.int .i64 r17.1), (V.inl t_byte r97.1), (V.inl t_byte r96.1), (V.int .i64 (IntKind.i64.wrap (1 + r104.1)))]), (n_spec_l1Cur r104.2))
 else some ((V.agg [(V.int .i64 r17.1), (V.inl t_byte r97.1), (V.inl t_byte r96.1), (V.int .i64 (IntKind.i64.wrap (1 + r103.1)))]), (n_spec_l1Cur r103.2))
 else bif (decide (r17.1 = 7)) then
 Option.bind (spec_l1Below (n_spec_l1Cur r97.2) 4) fun r105 =>
 bif (decide ((0 : Int) < index)) then
 Option.bind (spec_l1Below (n_spec_l1Cur r105.2) index) fun r106 =>
 some ((V.agg [(V.int .i64 r17.1), (V.inl t_byte r97.1), (V.inl t_byte r96.1), (V.int .i64 (IntKind.i64.wrap (1 + r106.1)))]), (n_spec_l1Cur r106.2))
 else some ((V.agg [(V.int .i64 r17.1), (V.inl t_byte r97.1), (V.inl t_byte r96.1), (V.int .i64 (IntKind.i64.wrap (1 + r105.1)))]), (n_spec_l1Cur r105.2))
 else some ((V.agg [(V.int .i64 r17.1), (V.inl t_byte r97.1), (V.inl t_byte r96.1), (V.int .i64 0)]), (n_spec_l1Cur r97.2))
 else bif (decide (r17.1 = 4)) then
 Option.bind (spec_l1Below (n_spec_l1Cur r96.2) 2) fun r107 =>
 some ((V.agg [(V.int .i64 r17.1), (V.inl t_byte []), (V.inl t_byte r96.1), (V.int .i64 r107.1)]), (n_spec_l1Cur r107.2))
 else bif (decide (r17.1 = 2)) then
 Option.bind (spec_l1Below (n_spec_l1Cur r96.2) (IntKind.i64.wrap (index + 1))) fun r108 =>
 Option.bind (spec_l1Below (n_spec_l1Cur r108.2) 2) fun r109 =>
 some ((V.agg [(V.int .i64 r17.1), (V.inl t_byte []), (V.inl t_byte r96.1), (V.int .i64 (IntKind.i64.wrap (r108.1 * r109.1)))]), (n_spec_l1Cur r109.2))
 else bif (decide (r17.1 = 5)) then
 Option.bind (spec_l1Below (n_spec_l1Cur r96.2) 4) fun r110 =>
 bif (decide ((0 : Int) < index)) then
 Option.bind (spec_l1Below (n_spec_l1Cur r110.2) index) fun r111 =>
 some ((V.agg [(V.int .i64 r17.1), (V.inl t_byte []), (V.inl t_byte r96.1), (V.int .i64 (IntKind.i64.wrap (1 + r111.1)))]), (n_spec_l1Cur r111.2))
 else some ((V.agg [(V.int .i64 r17.1), (V.inl t_byte []), (V.inl t_byte r96.1), (V.int .i64 (IntKind.i64.wrap (1 + r110.1)))]), (n_spec_l1Cur r110.2))
 else bif (decide (r17.1 = 6)) then
 Option.bind (spec_l1Below (n_spec_l1Cur r96.2) 4) fun r112 =>
 bif (decide ((0 : Int) < index)) then
 Option.bind (spec_l1Below (n_spec_l1Cur r112.2) index) fun r113 =>
 some ((V.agg [(V.int .i64 r17.1), (V.inl t_byte []), (V.inl t_byte r96.1), (V.int .i64 (IntKind.i64.wrap (1 + r113.1)))]), (n_spec_l1Cur r113.2))
 else some ((V.agg [(V.int .i64 r17.1), (V.inl t_byte []), (V.inl t_byte r96.1), (V.int .i64 (IntKind.i64.wrap (1 + r112.1)))]), (n_spec_l1Cur r112.2))
 else bif (decide (r17.1 = 7)) then
 Option.bind (spec_l1Below (n_spec_l1Cur r96.2) 4) fun r114 =>
 bif (decide ((0 : Int) < index)) then
 Option.bind (spec_l1Below (n_spec_l1Cur r114.2) index) fun r115 =>
 some ((V.agg [(V.int .i64 r17.1), (V.inl t_byte []), (V.inl t_byte r96.1), (V.int .i64 (IntKind.i64.wrap (1 + r115.1)))]), (n_spec_l1Cur r115.2))
 else some ((V.agg [(V.int .i64 r17.1), (V.inl t_byte []), (V.inl t_byte r96.1), (V.int .i64 (IntKind.i64.wrap (1 + r114.1)))]), (n_spec_l1Cur r114.2))
 else some ((V.agg [(V.int .i64 r17.1), (V.inl t_byte []), (V.inl t_byte r96.1), (V.int .i64 0)]), (n_spec_l1Cur r96.2))
 else bif (decide (r17.1 = 4)) then
 Option.bind (spec_l1Below (n_spec_l1Cur r96.2) 2) fun r116 =>
 some ((V.agg [(V.int .i64 r17.1), (V.inl t_byte []), (V.inl t_byte r96.1), (V.int .i64 r116.1)]), (n_spec_l1Cur r116.2))
 else bif (decide (r17.1 = 2)) then
 Option.bind (spec_l1Below (n_spec_l1Cur r96.2) (IntKind.i64.wrap (index + 1))) fun r117 =>
 Option.bind (spec_l1Below (n_spec_l1Cur r117.2) 2) fun r118 =>
 some ((V.agg [(V.int .i64 r17.1), (V.inl t_byte []), (V.inl t_byte r96.1), (V.int .i64 (IntKind.i64.wrap (r117.1 * r118.1)))]), (n_spec_l1Cur r118.2))
 else bif (decide (r17.1 = 5)) then
 Option.bind (spec_l1Below (n_spec_l1Cur r96.2) 4) fun r119 =>
 bif (decide ((0 : Int) < index)) then
 Option.bind (spec_l1Below (n_spec_l1Cur r119.2) index) fun r120 =>
 some ((V.agg [(V.int .i64 r17.1), (V.inl t_byte []), (V.inl t_byte r96.1), (V.int .i64 (IntKind.i64.wrap (1 + r120.1)))]), (n_spec_l1Cur r120.2))
 else some ((V.agg [(V.int .i64 r17.1), (V.inl t_byte []), (V.inl t_byte r96.1), (V.int .i64 (IntKind.i64.wrap (1 + r119.1)))]), (n_spec_l1Cur r119.2))
 else bif (decide (r17.1 = 6)) then
 Option.bind (spec_l1Below (n_spec_l1Cur r96.2) 4) fun r121 =>
 bif (decide ((0 : Int) < index)) then
 Option.bind (spec_l1Below (n_spec_l1Cur r121.2) index) fun r122 =>
 some ((V.agg [(V.int .i64 r17.1), (V.inl t_byte []), (V.inl t_byte r96.1), (V.int .i64 (IntKind.i64.wrap (1 + r122.1)))]), (n_spec_l1Cur r122.2))
 else some ((V.agg [(V.int .i64 r17.1), (V.inl t_byte []), (V.inl t_byte r96.1), (V.int .i64 (IntKind.i64.wrap (1 + r121.1)))]), (n_spec_l1Cur r121.2))
 else bif (decide (r17.1 = 7)) then
 Option.bind (spec_l1Below (n_spec_l1Cur r96.2) 4) fun r123 =>
 bif (decide ((0 : Int) < index)) then
 Option.bind (spec_l1Below (n_spec_l1Cur r123.2) index) fun r124 =>
 some ((V.agg [(V.int .i64 r17.1), (V.inl t_byte []), (V.inl t_byte r96.1), (V.int .i64 (IntKind.i64.wrap (1 + r124.1)))]), (n_spec_l1Cur r124.2))
 else some ((V.agg [(V.int .i64 r17.1), (V.inl t_byte []), (V.inl t_byte r96.1), (V.int .i64 (IntKind.i64.wrap (1 + r123.1)))]), (n_spec_l1Cur r123.2))
 else some ((V.agg [(V.int .i64 r17.1), (V.inl t_byte []), (V.inl t_byte r96.1), (V.int .i64 0)]), (n_spec_l1Cur r96.2))
 else bif (decide (r17.1 = 4)) then
 Option.bind (spec_l1Below (n_spec_l1Cur r96.2) 2) fun r125 =>
 some ((V.agg [(V.int .i64 r17.1), (V.inl t_byte []), (V.inl t_byte r96.1), (V.int .i64 r125.1)]), (n_spec_l1Cur r125.2))
 else bif (decide (r17.1 = 2)) then
 Option.bind (spec_l1Below (n_spec_l1Cur r96.2) (IntKind.i64.wrap (index + 1))) fun r126 =>
 Option.bind (spec_l1Below (n_spec_l1Cur r126.2) 2) fun r127 =>
 some ((V.agg [(V.int .i64 r17.1), (V.inl t_byte []), (V.inl t_byte r96.1), (V.int .i64 (IntKind.i64.wrap (r126.1 * r127.1)))]), (n_spec_l1Cur r127.2))
 else bif (decide (r17.1 = 5)) then
 Option.bind (spec_l1Below (n_spec_l1Cur r96.2) 4) fun r128 =>
 bif (decide ((0 : Int) < index)) then
 Option.bind (spec_l1Below (n_spec_l1Cur r128.2) index) fun r129 =>
 some ((V.agg [(V.int .i64 r17.1), (V.inl t_byte []), (V.inl t_byte r96.1), (V.int .i64 (IntKind.i64.wrap (1 + r129.1)))]), (n_spec_l1Cur r129.2))
 else some ((V.agg [(V.int .i64 r17.1), (V.inl t_byte []), (V.inl t_byte r96.1), (V.int .i64 (IntKind.i64.wrap (1 + r128.1)))]), (n_spec_l1Cur r128.2))
 else bif (decide (r17.1 = 6)) then
 Option.bind (spec_l1Below (n_spec_l1Cur r96.2) 4) fun r130 =>
 bif (decide ((0 : Int) < index)) then
 Option.bind (spec_l1Below (n_spec_l1Cur r130.2) index) fun r131 =>
 some ((V.agg [(V.int .i64 r17.1), (V.inl t_byte []), (V.inl t_byte r96.1), (V.int .i64 (IntKind.i64.wrap (1 + r131.1)))]), (n_spec_l1Cur r131.2))
 else some ((V.agg [(V.int .i64 r17.1), (V.inl t_byte []), (V.inl t_byte r96.1), (V.int .i64 (IntKind.i64.wrap (1 + r130.1)))]), (n_spec_l1Cur r130.2))
 else bif (decide (r17.1 = 7)) then
 Option.bind (spec_l1Below (n_spec_l1Cur r96.2) 4) fun r132 =>
 bif (decide ((0 : Int) < index)) then
 Option.bind (spec_l1Below (n_spec_l1Cur r132.2) index) fun r133 =>
 some ((V.agg [(V.int .i64 r17.1), (V.inl t_byte []), (V.inl t_byte r96.1), (V.int .i64 (IntKind.i64.wrap (1 + r133.1)))]), (n_spec_l1Cur r133.2))
 else some ((V.agg [(V.int .i64 r17.1), (V.inl t_byte []), (V.inl t_byte r96.1), (V.int .i64 (IntKind.i64.wrap (1 + r132.1)))]), (n_spec_l1Cur r132.2))
 else some ((V.agg [(V.int .i64 r17.1), (V.inl t_byte []), (V.inl t_byte r96.1), (V.int .i64 0)]), (n_spec_l1Cur r96.2))
 else bif (!(decide (r17.1 = 0))) then
 bif (!(decide (r17.1 = 4))) then
 bif (!(decide (r17.1 = 5))) then
 Option.bind (spec_l2drawKey (n_spec_l1Cur r17.2)) fun r134 =>
 bif (decide (r17.1 = 4)) then
 Option.bind (spec_l1Below (n_spec_l1Cur r134.2) 2) fun r135 =>
 some ((V.agg [(V.int .i64 r17.1), (V.inl t_byte r134.1), (V.inl t_byte []), (V.int .i64 r135.1)]), (n_spec_l1Cur r135.2))
 else bif (decide (r17.1 = 2)) then
 Option.bind (spec_l1Below (n_spec_l1Cur r134.2) (IntKind.i64.wrap (index + 1))) fun r136 =>
 Option.bind (spec_l1Below (n_spec_l1Cur r136.2) 2) fun r137 =>
 some ((V.agg [(V.int .i64 r17.1), (V.inl t_byte r134.1), (V.inl t_byte []), (V.int .i64 (IntKind.i64.wrap (r136.1 * r137.1)))]), (n_spec_l1Cur r137.2))
 else bif (decide (r17.1 = 5)) then
 Option.bind (spec_l1Below (n_spec_l1Cur r134.2) 4) fun r138 =>
 bif (decide ((0 : Int) < index)) then
 Option.bind (spec_l1Below (n_spec_l1Cur r138.2) index) fun r139 =>
 some ((V.agg [(V.int .i64 r17.1), (V.inl t_byte r134.1), (V.inl t_byte []), (V.int .i64 (IntKind.i64.wrap (1 + r139.1)))]), (n_spec_l1Cur r139.2))
 else some ((V.agg [(V.int .i64 r17.1), (V.inl t_byte r134.1), (V.inl t_byte []), (V.int .i64 (IntKind.i64.wrap (1 + r138.1)))]), (n_spec_l1Cur r138.2))
 else bif (decide (r17.1 = 6)) then
 Option.bind (spec_l1Below (n_spec_l1Cur r134.2) 4) fun r140 =>
 bif (decide ((0 : Int) < index)) then
 Option.bind (spec_l1Below (n_spec_l1Cur r140.2) index) fun r141 =>
 some ((V.agg [(V.int .i64 r17.1), (V.inl t_byte r134.1), (V.inl t_byte []), (V.int .i64 (IntKind.i64.wrap (1 + r141.1)))]), (n_spec_l1Cur r141.2))
 else some ((V.agg [(V.int .i64 r17.1), (V.inl t_byte r134.1), (V.inl t_byte []), (V.int .i64 (IntKind.i64.wrap (1 + r140.1)))]), (n_spec_l1Cur r140.2))
 else bif (decide (r17.1 = 7)) then
 Option.bind (spec_l1Below (n_spec_l1Cur r134.2) 4) fun r142 =>
 bif (decide ((0 : Int) < index)) then
 Option.bind (spec_l1Below (n_spec_l1Cur r142.2) index) fun r143 =>
 some ((V.agg [(V.int .i64 r17.1), (V.inl t_byte r134.1), (V.inl t_byte []), (V.int .i64 (IntKind.i64.wrap (1 + r143.1)))]), (n_spec_l1Cur r143.2))
 else some ((V.agg [(V.int .i64 r17.1), (V.inl t_byte r134.1), (V.inl t_byte []), (V.int .i64 (IntKind.i64.wrap (1 + r142.1)))]), (n_spec_l1Cur r142.2))
 else some ((V.agg [(V.int .i64 r17.1), (V.inl t_byte r134.1), (V.inl t_byte []), (V.int .i64 0)]), (n_spec_l1Cur r134.2))
 else bif (decide (r17.1 = 4)) then
 Option.bind (spec_l1Below (n_spec_l1Cur r17.2) 2) fun r144 =>
 some ((V.agg [(V.int .i64 r17.1), (V.inl t_byte []), (V.inl t_byte []), (V.int .i64 r144.1)]), (n_spec_l1Cur r144.2))
 else bif (decide (r17.1 = 2)) then
 Option.bind (spec_l1Below (n_spec_l1Cur r17.2) (IntKind.i64.wrap (index + 1))) fun r145 =>
 Option.bind (spec_l1Below (n_spec_l1Cur r145.2) 2) fun r146 =>
 some ((V.agg [(V.int .i64 r17.1), (V.inl t_byte []), (V.inl t_byte []), (V.int .i64 (IntKind.i64.wrap (r145.1 * r146.1)))]), (n_spec_l1Cur r146.2))
 else bif (decide (r17.1 = 5)) then
 Option.bind (spec_l1Below (n_spec_l1Cur r17.2) 4) fun r147 =>
 bif (decide ((0 : Int) < index)) then
 Option.bind (spec_l1Below (n_spec_l1Cur r147.2) index) fun r148 =>
 some ((V.agg [(V.int .i64 r17.1), (V.inl t_byte []), (V.inl t_byte []), (V.int .i64 (IntKind.i64.wrap (1 + r148.1)))]), (n_spec_l1Cur r148.2))
 else some ((V.agg [(V.int .i64 r17.1), (V.inl t_byte []), (V.inl t_byte []), (V.int .i64 (IntKind.i64.wrap (1 + r147.1)))]), (n_spec_l1Cur r147.2))
 else bif (decide (r17.1 = 6)) then
 Option.bind (spec_l1Below (n_spec_l1Cur r17.2) 4) fun r149 =>
 bif (decide ((0 : Int) < index)) then
 Option.bind (spec_l1Below (n_spec_l1Cur r149.2) index) fun r150 =>
 some ((V.agg [(V.int .i64 r17.1), (V.inl t_byte []), (V.inl t_byte []), (V.int .i64 (IntKind.i64.wrap (1 + r150.1)))]), (n_spec_l1Cur r150.2))
 else some ((V.agg [(V.int .i64 r17.1), (V.inl t_byte []), (V.inl t_byte []), (V.int .i64 (IntKind.i64.wrap (1 + r149.1)))]), (n_spec_l1Cur r149.2))
 else bif (decide (r17.1 = 7)) then
 Option.bind (spec_l1Below (n_spec_l1Cur r17.2) 4) fun r151 =>
 bif (decide ((0 : Int) < index)) then
 Option.bind (spec_l1Below (n_spec_l1Cur r151.2) index) fun r152 =>
 some ((V.agg [(V.int .i64 r17.1), (V.inl t_byte []), (V.inl t_byte []), (V.int .i64 (IntKind.i64.wrap (1 + r152.1)))]), (n_spec_l1Cur r152.2))
 else some ((V.agg [(V.int .i64 r17.1), (V.inl t_byte []), (V.inl t_byte []), (V.int .i64 (IntKind.i64.wrap (1 + r151.1)))]), (n_spec_l1Cur r151.2))
 else some ((V.agg [(V.int .i64 r17.1), (V.inl t_byte []), (V.inl t_byte []), (V.int .i64 0)]), (n_spec_l1Cur r17.2))
 else bif (decide (r17.1 = 4)) then
 Option.bind (spec_l1Below (n_spec_l1Cur r17.2) 2) fun r153 =>
 some ((V.agg [(V.int .i64 r17.1), (V.inl t_byte []), (V.inl t_byte []), (V.int .i64 r153.1)]), (n_spec_l1Cur r153.2))
 else bif (decide (r17.1 = 2)) then
 Option.bind (spec_l1Below (n_spec_l1Cur r17.2) (IntKind.i64.wrap (index + 1))) fun r154 =>
 Option.bind (spec_l1Below (n_spec_l1Cur r154.2) 2) fun r155 =>
 some ((V.agg [(V.int .i64 r17.1), (V.inl t_byte []), (V.inl t_byte []), (V.int .i64 (IntKind.i64.wrap (r154.1 * r155.1)))]), (n_spec_l1Cur r155.2))
 else bif (decide (r17.1 = 5)) then
 Option.bind (spec_l1Below (n_spec_l1Cur r17.2) 4) fun r156 =>
 bif (decide ((0 : Int) < index)) then
 Option.bind (spec_l1Below (n_spec_l1Cur r156.2) index) fun r157 =>
 some ((V.agg [(V.int .i64 r17.1), (V.inl t_byte []), (V.inl t_byte []), (V.int .i64 (IntKind.i64.wrap (1 + r157.1)))]), (n_spec_l1Cur r157.2))
 else some ((V.agg [(V.int .i64 r17.1), (V.inl t_byte []), (V.inl t_byte []), (V.int .i64 (IntKind.i64.wrap (1 + r156.1)))]), (n_spec_l1Cur r156.2))
 else bif (decide (r17.1 = 6)) then
 Option.bind (spec_l1Below (n_spec_l1Cur r17.2) 4) fun r158 =>
 bif (decide ((0 : Int) < index)) then
 Option.bind (spec_l1Below (n_spec_l1Cur r158.2) index) fun r159 =>
 some ((V.agg [(V.int .i64 r17.1), (V.inl t_byte []), (V.inl t_byte []), (V.int .i64 (IntKind.i64.wrap (1 + r159.1)))]), (n_spec_l1Cur r159.2))
 else some ((V.agg [(V.int .i64 r17.1), (V.inl t_byte []), (V.inl t_byte []), (V.int .i64 (IntKind.i64.wrap (1 + r158.1)))]), (n_spec_l1Cur r158.2))
 else bif (decide (r17.1 = 7)) then
 Option.bind (spec_l1Below (n_spec_l1Cur r17.2) 4) fun r160 =>
 bif (decide ((0 : Int) < index)) then
 Option.bind (spec_l1Below (n_spec_l1Cur r160.2) index) fun r161 =>
 some ((V.agg [(V.int .i64 r17.1), (V.inl t_byte []), (V.inl t_byte []), (V.int .i64 (IntKind.i64.wrap (1 + r161.1)))]), (n_spec_l1Cur r161.2))
 else some ((V.agg [(V.int .i64 r17.1), (V.inl t_byte []), (V.inl t_byte []), (V.int .i64 (IntKind.i64.wrap (1 + r160.1)))]), (n_spec_l1Cur r160.2))
 else some ((V.agg [(V.int .i64 r17.1), (V.inl t_byte []), (V.inl t_byte []), (V.int .i64 0)]), (n_spec_l1Cur r17.2))
 else bif (decide (r17.1 = 4)) then
 Option.bind (spec_l1Below (n_spec_l1Cur r17.2) 2) fun r162 =>
 some ((V.agg [(V.int .i64 r17.1), (V.inl t_byte []), (V.inl t_byte []), (V.int .i64 r162.1)]), (n_spec_l1Cur r162.2))
 else bif (decide (r17.1 = 2)) then
 Option.bind (spec_l1Below (n_spec_l1Cur r17.2) (IntKind.i64.wrap (index + 1))) fun r163 =>
 Option.bind (spec_l1Below (n_spec_l1Cur r163.2) 2) fun r164 =>
 some ((V.agg [(V.int .i64 r17.1), (V.inl t_byte []), (V.inl t_byte []), (V.int .i64 (IntKind.i64.wrap (r163.1 * r164.1)))]), (n_spec_l1Cur r164.2))
 else bif (decide (r17.1 = 5)) then
 Option.bind (spec_l1Below (n_spec_l1Cur r17.2) 4) fun r165 =>
 bif (decide ((0 : Int) < index)) then
 Option.bind (spec_l1Below (n_spec_l1Cur r165.2) index) fun r166 =>
 some ((V.agg [(V.int .i64 r17.1), (V.inl t_byte []), (V.inl t_byte []), (V.int .i64 (IntKind.i64.wrap (1 + r166.1)))]), (n_spec_l1Cur r166.2))
 else some ((V.agg [(V.int .i64 r17.1), (V.inl t_byte []), (V.inl t_byte []), (V.int .i64 (IntKind.i64.wrap (1 + r165.1)))]), (n_spec_l1Cur r165.2))
 else bif (decide (r17.1 = 6)) then
 Option.bind (spec_l1Below (n_spec_l1Cur r17.2) 4) fun r167 =>
 bif (decide ((0 : Int) < index)) then
 Option.bind (spec_l1Below (n_spec_l1Cur r167.2) index) fun r168 =>
 some ((V.agg [(V.int .i64 r17.1), (V.inl t_byte []), (V.inl t_byte []), (V.int .i64 (IntKind.i64.wrap (1 + r168.1)))]), (n_spec_l1Cur r168.2))
 else some ((V.agg [(V.int .i64 r17.1), (V.inl t_byte []), (V.inl t_byte []), (V.int .i64 (IntKind.i64.wrap (1 + r167.1)))]), (n_spec_l1Cur r167.2))
 else bif (decide (r17.1 = 7)) then
 Option.bind (spec_l1Below (n_spec_l1Cur r17.2) 4) fun r169 =>
 bif (decide ((0 : Int) < index)) then
 Option.bind (spec_l1Below (n_spec_l1Cur r169.2) index) fun r170 =>
 some ((V.agg [(V.int .i64 r17.1), (V.inl t_byte []), (V.inl t_byte []), (V.int .i64 (IntKind.i64.wrap (1 + r170.1)))]), (n_spec_l1Cur r170.2))
 else some ((V.agg [(V.int .i64 r17.1), (V.inl t_byte []), (V.inl t_byte []), (V.int .i64 (IntKind.i64.wrap (1 + r169.1)))]), (n_spec_l1Cur r169.2))
 else some ((V.agg [(V.int .i64 r17.1), (V.inl t_byte []), (V.inl t_byte []), (V.int .i64 0)]), (n_spec_l1Cur r17.2))
def spec_l1Once (c : V) (n : Int) : Option (Bool × V) :=
 Option.bind (spec_l1Below (n_spec_l1Cur c) n) fun r172 =>
 some ((decide (r172.1 = 0)), (n_spec_l1Cur r172.2))
def spec_l3drawItem (c : V) (term_ : Int) : Option (V × V) :=
 Option.bind (spec_l1Below (n_spec_l1Cur c) 3) fun r15 =>
 Option.bind (spec_l1Below (n_spec_l1Cur r15.2) 5) fun r16 =>
 Option.bind (spec_l2op (n_spec_l1Cur r16.2) 5) fun r171 =>
 Option.bind (spec_l1Once (n_spec_l1Cur r171.2) 5) fun r173 =>
 bif r173.1 then
 some ((V.agg [(V.int .i64 term_), (V.int .i64 (-1)), (V.int .i64 0), (V.int .i64 0), (V.inl t_byte []), (V.inl t_byte []), (V.int .i64 0)]), (n_spec_l1Cur r173.2))
 else some ((V.agg [(V.int .i64 term_), (V.int .i64 r15.1), (V.int .i64 (IntKind.i64.wrap (1 + r16.1))), (V.int .i64 (gi r171.1 0)), (V.inl t_byte (gl r171.1 1)), (V.inl t_byte (gl r171.1 2)), (V.int .i64 (gi r171.1 3))]), (n_spec_l1Cur r173.2))
def spec_l3drawLog_l4 : Nat → Int → Int → Int → V → List V → Option (V × List V)
 | 0, _, _, _, _, _ => none
 | k_ + 1, n1, t6, i7, b0, r1 =>
 bif (decide (i7 < n1)) then
 Option.bind (spec_l1Below (n_spec_l1Cur b0) 4) fun r175 =>
 Option.bind (spec_l3drawItem (n_spec_l1Cur r175.2) (IntKind.i64.wrap (t6 + (IntKind.i64.wrap (r175.1.tdiv 3))))) fun r176 =>
 bif ((roomy (r1.length + 1) 88) && true) then
 spec_l3drawLog_l4 k_ n1 (IntKind.i64.wrap (t6 + (IntKind.i64.wrap (r175.1.tdiv 3)))) (IntKind.i64.wrap (i7 + 1)) (n_spec_l1Cur r176.2) (r1 ++ [(n_impl_Item r176.1)])
 else none
 else some ((n_spec_l1Cur b0), r1)
def spec_l3drawLog (c : V) (n : Int) : Option (List V × V) :=
 Option.bind (spec_l3drawLog_l4 ((n - 0).toNat + 1) n 1 0 (n_spec_l1Cur c) []) fun r177 =>
 some (r177.2, (n_spec_l1Cur r177.1))
def spec_l4termAt (n : V) (place : Int) : Option (Int) :=
 bif (decide (place < 1)) then
 some 0
 else bif (decide ((((gl n 3).length : Nat) : Int) < place)) then
 some 0
 else bif (idxOk (IntKind.i64.wrap (place - 1)) ((gl n 3).length)) then
 some (gi (rd (gl n 3) ((IntKind.i64.wrap (place - 1)).toNat)) 0)
 else none
def spec_l4node_l26 : Nat → Int → Int → Int → V → V → V → List V → List V → List V → List V → List V → List V → List V → List V → Option (V × V × V × List V × List V × List V × List V × List V × List V × List V × List V)
 | 0, _, _, _, _, _, _, _, _, _, _, _, _, _, _ => none
 | k_ + 1, servers1, k6, i7, b0, b1, b2, r3, r4, r5, r6, r7, r8, r9, r10 =>
 bif (decide (i7 < servers1)) then
 Option.bind (spec_l1Below (n_spec_l1Cur b0) (IntKind.i64.wrap (k6 + 1))) fun r201 =>
 bif (idxOk i7 r10.length) then
 bif (idxOk i7 ((r10.set (0 + i7.toNat) (V.int .i64 r201.1)).length)) then
 bif (idxOk i7 r9.length) then
 Option.bind (spec_l1Once (n_spec_l1Cur r201.2) 3) fun r202 =>
 bif r202.1 then
 Option.bind (spec_l1Below (n_spec_l1Cur r202.2) (IntKind.i64.wrap (k6 + 1))) fun r203 =>
 bif (idxOk i7 ((r9.set (0 + i7.toNat) (V.int .i64 (IntKind.i64.wrap ((gi (rd (r10.set (0 + i7.toNat) (V.int .i64 r201.1)) (0 + i7.toNat)) 0) + 1)))).length)) then
 spec_l4node_l26 k_ servers1 k6 (IntKind.i64.wrap (i7 + 1)) (n_spec_l1Cur r203.2) (V.agg [(V.int .i64 (gi b1 0)), (V.int .i64 (gi b1 1)), (V.int .i64 (gi b1 2)), (V.sl 3 t_impl_Item 0 none), (V.int .i64 (gi b1 4)), (V.int .i64 (gi b1 5)), (V.int .i64 (gi b1 6)), (V.int .i64 (gi b1 7)), (V.sl 4 t_bool 0 none), (V.sl 5 t_int' 0 none), (V.sl 6 t_int' 0 none)]) (V.agg [(V.int .i64 (gi b2 0)), (V.int .i64 (gi b2 1)), (V.int .i64 (gi b2 2)), (V.sl 7 t_impl_Item 0 none), (V.int .i64 (gi b2 4)), (V.int .i64 (gi b2 5)), (V.int .i64 (gi b2 6)), (V.int .i64 (gi b2 7)), (V.sl 8 t_bool 0 none), (V.sl 9 t_int' 0 none), (V.sl 10 t_int' 0 none)]) r3 r4 r5 r6 r7 r8 ((r9.set (0 + i7.toNat) (V.int .i64 (IntKind.i64.wrap ((gi (rd (r10.set (0 + i7.toNat) (V.int .i64 r201.1)) (0 + i7.toNat)) 0) + 1)))).set (0 + i7.toNat) (V.int .i64 (IntKind.i64.wrap (1 + r203.1)))) (r10.set (0 + i7.toNat) (V.int .i64 r201.1))
 else none
 else spec_l4node_l26 k_ servers1 k6 (IntKind.i64.wrap (i7 + 1)) (n_spec_l1Cur r202.2) (V.agg [(V.int .i64 (gi b1 0)), (V.int .i64 (gi b1 1)), (V.int .i64 (gi b1 2)), (V.sl 3 t_impl_Item 0 none), (V.int .i64 (gi b1 4)), (V.int .i64 (gi b1 5)), (V.int .i64 (gi b1 6)), (V.int .i64 (gi b1 7)), (V.sl 4 t_bool 0 none), (V.sl 5 t_int' 0 none), (V.sl 6 t_int' 0 none)]) (V.agg [(V.int .i64 (gi b2 0)), (V.int .i64 (gi b2 1)), (V.int .i64 (gi b2 2)), (V.sl 7 t_impl_Item 0 none), (V.int .i64 (gi b2 4)), (V.int .i64 (gi b2 5)), (V.int .i64 (gi b2 6)), (V.int .i64 (gi b2 7)), (V.sl 8 t_bool 0 none), (V.sl 9 t_int' 0 none), (V.sl 10 t_int' 0 none)]) r3 r4 r5 r6 r7 r8 (r9.set (0 + i7.toNat) (V.int .i64 (IntKind.i64.wrap ((gi (rd (r10.set (0 + i7.toNat) (V.int .i64 r201.1)) (0 + i7.toNat)) 0) + 1)))) (r10.set (0 + i7.toNat) (V.int .i64 r201.1))
 else none
 else none
 else none
 else some ((n_spec_l1Cur b0), (V.agg [(V.int .i64 (gi b1 0)), (V.int .i64 (gi b1 1)), (V.int .i64 (gi b1 2)), (V.sl 3 t_impl_Item 0 none), (V.int .i64 (gi b1 4)), (V.int .i64 (gi b1 5)), (V.int .i64 (gi b1 6)), (V.int .i64 (gi b1 7)), (V.sl 4 t_bool 0 none), (V.sl 5 t_int' 0 none), (V.sl 6 t_int' 0 none)]), (V.agg [(V.int .i64 (gi b2 0)), (V.int .i64 (gi b2 1)), (V.int .i64 (gi b2 2)), (V.sl 7 t_impl_Item 0 none), (V.int .i64 (gi b2 4)), (V.int .i64 (gi b2 5)), (V.int .i64 (gi b2 6)), (V.int .i64 (gi b2 7)), (V.sl 8 t_bool 0 none), (V.sl 9 t_int' 0 none), (V.sl 10 t_int' 0 none)]), r3, r4, r5, r6, r7, r8, r9, r10)
def spec_l4node (c : V) (servers : Int) : Option (V × V) :=
 Option.bind (spec_l1Below (n_spec_l1Cur c) servers) fun r188 =>
 Option.bind (spec_l4new r188.1 servers) fun r189 =>
 Option.bind (spec_l1Below (n_spec_l1Cur r188.2) 8) fun r190 =>
 Option.bind (spec_l3drawLog (n_spec_l1Cur r190.2) r190.1) fun r191 =>
 Option.bind (spec_l4termAt (V.agg [(V.int .i64 (gi r189 0)), (V.int .i64 (gi r189 1)), (V.int .i64 (gi r189 2)), (V.inl t_impl_Item r191.1), (V.int .i64 (gi r189 4)), (V.int .i64 (gi r189 5)), (V.int .i64 (gi r189 6)), (V.int .i64 (gi r189 7)), (V.inl t_bool (gl r189 8)), (V.inl t_int' (gl r189 9)), (V.inl t_int' (gl r189 10))]) r190.1) fun r192 =>
 Option.bind (spec_l1Below (n_spec_l1Cur r191.2) 3) fun r193 =>
 Option.bind (spec_l1Below (n_spec_l1Cur r193.2) (IntKind.i64.wrap (r190.1 + 1))) fun r194 =>
 Option.bind (spec_l1Below (n_spec_l1Cur r194.2) 9) fun r195 =>
 Option.bind (spec_l1Below (n_spec_l1Cur r195.2) (IntKind.i64.wrap (servers + 1))) fun r196 =>
 Option.bind (spec_l1Below (n_spec_l1Cur r196.2) (IntKind.i64.wrap (servers + 1))) fun r197 =>
 bif (decide ((IntKind.i64.wrap (r192 + r193.1)) < 1)) then
 some ((V.agg [(V.int .i64 (gi r189 0)), (V.int .i64 (IntKind.i64.wrap (r192 + r193.1))), (V.int .i64 (-1)), (V.inl t_impl_Item r191.1), (V.int .i64 r194.1), (V.int .i64 (gi r189 5)), (V.int .i64 (IntKind.i64.wrap (r197.1 - 1))), (V.int .i64 r195.1), (V.inl t_bool (gl r189 8)), (V.inl t_int' (gl r189 9)), (V.inl t_int' (gl r189 10))]), (n_spec_l1Cur r197.2))
 else Option.bind (spec_l1Below (n_spec_l1Cur r197.2) 4) fun r198 =>
 bif (decide (r198.1 = 0)) then
 bif (idxOk (gi r189 0) ((gl r189 8).length)) then
 Option.bind (spec_l1Once (n_spec_l1Cur r198.2) 2) fun r199 =>
 bif r199.1 then
 Option.bind (spec_l1Below (n_spec_l1Cur r199.2) servers) fun r200 =>
 bif (idxOk r200.1 (((gl r189 8).set (0 + ((gi r189 0).toNat)) (V.bool true)).length)) then
 some ((V.agg [(V.int .i64 (gi r189 0)), (V.int .i64 (IntKind.i64.wrap (r192 + r193.1))), (V.int .i64 (gi r189 0)), (V.inl t_impl_Item r191.1), (V.int .i64 r194.1), (V.int .i64 1), (V.int .i64 (IntKind.i64.wrap (r197.1 - 1))), (V.int .i64 r195.1), (V.inl t_bool (((gl r189 8).set (0 + ((gi r189 0).toNat)) (V.bool true)).set (0 + r200.1.toNat) (V.bool true))), (V.inl t_int' (gl r189 9)), (V.inl t_int' (gl r189 10))]), (n_spec_l1Cur r200.2))
 else none
 else some ((V.agg [(V.int .i64 (gi r189 0)), (V.int .i64 (IntKind.i64.wrap (r192 + r193.1))), (V.int .i64 (gi r189 0)), (V.inl t_impl_Item r191.1), (V.int .i64 r194.1), (V.int .i64 1), (V.int .i64 (IntKind.i64.wrap (r197.1 - 1))), (V.int .i64 r195.1), (V.inl t_bool ((gl r189 8).set (0 + ((gi r189 0).toNat)) (V.bool true))), (V.inl t_int' (gl r189 9)), (V.inl t_int' (gl r189 10))]), (n_spec_l1Cur r199.2))
 else none
 else bif (decide (r198.1 = 1)) then
 bif (idxOk (gi r189 0) ((gl r189 8).length)) then
 Option.bind (spec_l4node_l26 ((servers - 0).toNat + 1) servers r190.1 0 (n_spec_l1Cur r198.2) (V.agg [(V.int .i64 0), (V.int .i64 0), (V.int .i64 0), (V.sl 3 t_impl_Item 0 none), (V.int .i64 0), (V.int .i64 0), (V.int .i64 0), (V.int .i64 0), (V.sl 4 t_bool 0 none), (V.sl 5 t_int' 0 none), (V.sl 6 t_int' 0 none)]) (V.agg [(V.int .i64 (gi r189 0)), (V.int .i64 (IntKind.i64.wrap (r192 + r193.1))), (V.int .i64 (gi r189 0)), (V.sl 7 t_impl_Item 0 none), (V.int .i64 r194.1), (V.int .i64 2), (V.int .i64 (gi r189 0)), (V.int .i64 r195.1), (V.sl 8 t_bool 0 none), (V.sl 9 t_int' 0 none), (V.sl 10 t_int' 0 none)]) [] [] [] [] r191.1 ((gl r189 8).set (0 + ((gi r189 0).toNat)) (V.bool true)) (gl r189 9) (gl r189 10)) fun r204 =>
 some ((V.agg [(V.int .i64 (gi r204.2.2.1 0)), (V.int .i64 (gi r204.2.2.1 1)), (V.int .i64 (gi r204.2.2.1 2)), (V.inl t_impl_Item r204.2.2.2.2.2.2.2.1), (V.int .i64 (gi r204.2.2.1 4)), (V.int .i64 (gi r204.2.2.1 5)), (V.int .i64 (gi r204.2.2.1 6)), (V.int .i64 (gi r204.2.2.1 7)), (V.inl t_bool r204.2.2.2.2.2.2.2.2.1), (V.inl t_int' r204.2.2.2.2.2.2.2.2.2.1), (V.inl t_int' r204.2.2.2.2.2.2.2.2.2.2)]), (n_spec_l1Cur r204.1))
 else none
 else bif (decide (r198.1 = 2)) then
 bif (idxOk (gi r189 0) ((gl r189 8).length)) then
 Option.bind (spec_l4node_l26 ((servers - 0).toNat + 1) servers r190.1 0 (n_spec_l1Cur r198.2) (V.agg [(V.int .i64 0), (V.int .i64 0), (V.int .i64 0), (V.sl 3 t_impl_Item 0 none), (V.int .i64 0), (V.int .i64 0), (V.int .i64 0), (V.int .i64 0), (V.sl 4 t_bool 0 none), (V.sl 5 t_int' 0 none), (V.sl 6 t_int' 0 none)]) (V.agg [(V.int .i64 (gi r189 0)), (V.int .i64 (IntKind.i64.wrap (r192 + r193.1))), (V.int .i64 (gi r189 0)), (V.sl 7 t_impl_Item 0 none), (V.int .i64 r194.1), (V.int .i64 2), (V.int .i64 (gi r189 0)), (V.int .i64 r195.1), (V.sl 8 t_bool 0 none), (V.sl 9 t_int' 0 none), (V.sl 10 t_int' 0 none)]) [] [] [] [] r191.1 ((gl r189 8).set (0 + ((gi r189 0).toNat)) (V.bool true)) (gl r189 9) (gl r189 10)) fun r205 =>
 some ((V.agg [(V.int .i64 (gi r205.2.2.1 0)), (V.int .i64 (gi r205.2.2.1 1)), (V.int .i64 (gi r205.2.2.1 2)), (V.inl t_impl_Item r205.2.2.2.2.2.2.2.1), (V.int .i64 (gi r205.2.2.1 4)), (V.int .i64 (gi r205.2.2.1 5)), (V.int .i64 (gi r205.2.2.1 6)), (V.int .i64 (gi r205.2.2.1 7)), (V.inl t_bool r205.2.2.2.2.2.2.2.2.1), (V.inl t_int' r205.2.2.2.2.2.2.2.2.2.1), (V.inl t_int' r205.2.2.2.2.2.2.2.2.2.2)]), (n_spec_l1Cur r205.1))
 else none
 else some ((V.agg [(V.int .i64 (gi r189 0)), (V.int .i64 (IntKind.i64.wrap (r192 + r193.1))), (V.int .i64 (IntKind.i64.wrap (r196.1 - 1))), (V.inl t_impl_Item r191.1), (V.int .i64 r194.1), (V.int .i64 (gi r189 5)), (V.int .i64 (IntKind.i64.wrap (r197.1 - 1))), (V.int .i64 r195.1), (V.inl t_bool (gl r189 8)), (V.inl t_int' (gl r189 9)), (V.inl t_int' (gl r189 10))]), (n_spec_l1Cur r198.2))
def spec_l4bent_l5 : Nat → V → V → V → List V → List V → List V → List V → List V → List V → List V → List V → Option (V × V × V × List V × List V × List V × List V × List V × List V × List V × List V)
 | 0, _, _, _, _, _, _, _, _, _, _, _ => none
 | k_ + 1, b0, b1, b2, r3, r4, r5, r6, r7, r8, r9, r10 =>
 Option.bind (spec_l1Below (n_spec_l1Cur b0) 2) fun r228 =>
 bif (decide (((r7.length : Nat) : Int) < (IntKind.i64.wrap (200 + (IntKind.i64.wrap ((IntKind.i64.wrap (r228.1 * 400)).tdiv 2)))))) then
 bif ((roomy (r7.length + 1) 88) && true) then
 spec_l4bent_l5 k_ (n_spec_l1Cur r228.2) (V.agg [(V.int .i64 (gi b1 0)), (V.int .i64 (gi b1 1)), (V.int .i64 (gi b1 2)), (V.sl 3 t_impl_Item 0 none), (V.int .i64 (gi b1 4)), (V.int .i64 (gi b1 5)), (V.int .i64 (gi b1 6)), (V.int .i64 (gi b1 7)), (V.sl 4 t_bool 0 none), (V.sl 5 t_int' 0 none), (V.sl 6 t_int' 0 none)]) (V.agg [(V.int .i64 (gi b2 0)), (V.int .i64 (gi b2 1)), (V.int .i64 (gi b2 2)), (V.sl 7 t_impl_Item 0 none), (V.int .i64 (gi b2 4)), (V.int .i64 (gi b2 5)), (V.int .i64 (gi b2 6)), (V.int .i64 (gi b2 7)), (V.sl 8 t_bool 0 none), (V.sl 9 t_int' 0 none), (V.sl 10 t_int' 0 none)]) r3 r4 r5 r6 (r7 ++ [(V.agg [(V.int .i64 (gi b2 1)), (V.int .i64 (-1)), (V.int .i64 0), (V.int .i64 0), (V.inl t_byte []), (V.inl t_byte []), (V.int .i64 0)])]) r8 r9 r10
 else none
 else some ((n_spec_l1Cur r228.2), (V.agg [(V.int .i64 (gi b1 0)), (V.int .i64 (gi b1 1)), (V.int .i64 (gi b1 2)), (V.sl 3 t_impl_Item 0 none), (V.int .i64 (gi b1 4)), (V.int .i64 (gi b1 5)), (V.int .i64 (gi b1 6)), (V.int .i64 (gi b1 7)), (V.sl 4 t_bool 0 none), (V.sl 5 t_int' 0 none), (V.sl 6 t_int' 0 none)]), (V.agg [(V.int .i64 (gi b2 0)), (V.int .i64 (gi b2 1)), (V.int .i64 (gi b2 2)), (V.sl 7 t_impl_Item 0 none), (V.int .i64 (gi b2 4)), (V.int .i64 (gi b2 5)), (V.int .i64 (gi b2 6)), (V.int .i64 (gi b2 7)), (V.sl 8 t_bool 0 none), (V.sl 9 t_int' 0 none), (V.sl 10 t_int' 0 none)]), r3, r4, r5, r6, r7, r8, r9, r10)
def spec_l4bent (c : V) (servers : Int) : Option (V × V) :=
 Option.bind (spec_l4node (n_spec_l1Cur c) servers) fun r217 =>
 Option.bind (spec_l1Once (n_spec_l1Cur r217.2) 8) fun r218 =>
 bif (!r218.1) then
 some ((n_impl_Node r217.1), (n_spec_l1Cur r218.2))
 else Option.bind (spec_l1Below (n_spec_l1Cur r218.2) 10) fun r219 =>
 bif (decide (r219.1 = 0)) then
 Option.bind (spec_l1PickInt (n_spec_l1Cur r219.2) [(V.int .i64 (-1)), (V.int .i64 servers), (V.int .i64 0)]) fun r220 =>
 some ((V.agg [(V.int .i64 r220.1), (V.int .i64 (gi r217.1 1)), (V.int .i64 (gi r217.1 2)), (V.inl t_impl_Item (gl r217.1 3)), (V.int .i64 (gi r217.1 4)), (V.int .i64 (gi r217.1 5)), (V.int .i64 (gi r217.1 6)), (V.int .i64 (gi r217.1 7)), (V.inl t_bool (gl r217.1 8)), (V.inl t_int' (gl r217.1 9)), (V.inl t_int' (gl r217.1 10))]), (n_spec_l1Cur r220.2))
 else bif (decide (r219.1 = 1)) then
 Option.bind (spec_l1PickInt (n_spec_l1Cur r219.2) [(V.int .i64 (-1)), (V.int .i64 0), (V.int .i64 100000), (V.int .i64 100001)]) fun r221 =>
 some ((V.agg [(V.int .i64 (gi r217.1 0)), (V.int .i64 r221.1), (V.int .i64 (gi r217.1 2)), (V.inl t_impl_Item (gl r217.1 3)), (V.int .i64 (gi r217.1 4)), (V.int .i64 (gi r217.1 5)), (V.int .i64 (gi r217.1 6)), (V.int .i64 (gi r217.1 7)), (V.inl t_bool (gl r217.1 8)), (V.inl t_int' (gl r217.1 9)), (V.inl t_int' (gl r217.1 10))]), (n_spec_l1Cur r221.2))
 else bif (decide (r219.1 = 2)) then
 Option.bind (spec_l1PickInt (n_spec_l1Cur r219.2) [(V.int .i64 (-2)), (V.int .i64 servers), (V.int .i64 0)]) fun r222 =>
 some ((V.agg [(V.int .i64 (gi r217.1 0)), (V.int .i64 (gi r217.1 1)), (V.int .i64 r222.1), (V.inl t_impl_Item (gl r217.1 3)), (V.int .i64 (gi r217.1 4)), (V.int .i64 (gi r217.1 5)), (V.int .i64 (gi r217.1 6)), (V.int .i64 (gi r217.1 7)), (V.inl t_bool (gl r217.1 8)), (V.inl t_int' (gl r217.1 9)), (V.inl t_int' (gl r217.1 10))]), (n_spec_l1Cur r222.2))
 else bif (decide (r219.1 = 3)) then
 Option.bind (spec_l1PickInt (n_spec_l1Cur r219.2) [(V.int .i64 (-1)), (V.int .i64 (IntKind.i64.wrap ((((gl r217.1 3).length : Nat) : Int) + 1)))]) fun r223 =>
 some ((V.agg [(V.int .i64 (gi r217.1 0)), (V.int .i64 (gi r217.1 1)), (V.int .i64 (gi r217.1 2)), (V.inl t_impl_Item (gl r217.1 3)), (V.int .i64 r223.1), (V.int .i64 (gi r217.1 5)), (V.int .i64 (gi r217.1 6)), (V.int .i64 (gi r217.1 7)), (V.inl t_bool (gl r217.1 8)), (V.inl t_int' (gl r217.1 9)), (V.inl t_int' (gl r217.1 10))]), (n_spec_l1Cur r223.2))
 else bif (decide (r219.1 = 4)) then
 Option.bind (spec_l1Below (n_spec_l1Cur r219.2) 5) fun r224 =>
 some ((V.agg [(V.int .i64 (gi r217.1 0)), (V.int .i64 (gi r217.1 1)), (V.int .i64 (gi r217.1 2)), (V.inl t_impl_Item (gl r217.1 3)), (V.int .i64 (gi r217.1 4)), (V.int .i64 (IntKind.i64.wrap (r224.1 - 1))), (V.int .i64 (gi r217.1 6)), (V.int .i64 (gi r217.1 7)), (V.inl t_bool (gl r217.1 8)), (V.inl t_int' (gl r217.1 9)), (V.inl t_int' (gl r217.1 10))]), (n_spec_l1Cur r224.2))
 else bif (decide (r219.1 = 5)) then
 Option.bind (spec_l1PickInt (n_spec_l1Cur r219.2) [(V.int .i64 (-1)), (V.int .i64 20), (V.int .i64 21)]) fun r225 =>
 some ((V.agg [(V.int .i64 (gi r217.1 0)), (V.int .i64 (gi r217.1 1)), (V.int .i64 (gi r217.1 2)), (V.inl t_impl_Item (gl r217.1 3)), (V.int .i64 (gi r217.1 4)), (V.int .i64 (gi r217.1 5)), (V.int .i64 (gi r217.1 6)), (V.int .i64 r225.1), (V.inl t_bool (gl r217.1 8)), (V.inl t_int' (gl r217.1 9)), (V.inl t_int' (gl r217.1 10))]), (n_spec_l1Cur r225.2))
 else bif (decide (r219.1 = 6)) then
 bif ((roomy (((gl r217.1 8).length) + 1) 1) && true) then
 some ((V.agg [(V.int .i64 (gi r217.1 0)), (V.int .i64 (gi r217.1 1)), (V.int .i64 (gi r217.1 2)), (V.inl t_impl_Item (gl r217.1 3)), (V.int .i64 (gi r217.1 4)), (V.int .i64 (gi r217.1 5)), (V.int .i64 (gi r217.1 6)), (V.int .i64 (gi r217.1 7)), (V.inl t_bool ((gl r217.1 8) ++ [(V.bool true)])), (V.inl t_int' (gl r217.1 9)), (V.inl t_int' (gl r217.1 10))]), (n_spec_l1Cur r219.2))
 else none
 else bif (decide (r219.1 = 7)) then
 Option.bind (spec_l1PickInt (n_spec_l1Cur r219.2) [(V.int .i64 0), (V.int .i64 (-1)), (V.int .i64 1), (V.int .i64 99)]) fun r226 =>
 bif (idxOk 0 ((gl r217.1 9).length)) then
 some ((V.agg [(V.int .i64 (gi r217.1 0)), (V.int .i64 (gi r217.1 1)), (V.int .i64 (gi r217.1 2)), (V.inl t_impl_Item (gl r217.1 3)), (V.int .i64 (gi r217.1 4)), (V.int .i64 (gi r217.1 5)), (V.int .i64 (gi r217.1 6)), (V.int .i64 (gi r217.1 7)), (V.inl t_bool (gl r217.1 8)), (V.inl t_int' ((gl r217.1 9).set 0 (V.int .i64 r226.1))), (V.inl t_int' (gl r217.1 10))]), (n_spec_l1Cur r226.2))
 else none
 else bif (decide (r219.1 = 8)) then
 Option.bind (spec_l3drawItem (n_spec_l1Cur r219.2) 1) fun r227 =>
 bif ((roomy (((gl r217.1 3).length) + 1) 88) && true) then
 some ((V.agg [(V.int .i64 (gi r217.1 0)), (V.int .i64 (gi r217.1 1)), (V.int .i64 (gi r217.1 2)), (V.inl t_impl_Item ((gl r217.1 3) ++ [(n_impl_Item r227.1)])), (V.int .i64 (gi r217.1 4)), (V.int .i64 (gi r217.1 5)), (V.int .i64 (gi r217.1 6)), (V.int .i64 (gi r217.1 7)), (V.inl t_bool (gl r217.1 8)), (V.inl t_int' (gl r217.1 9)), (V.inl t_int' (gl r217.1 10))]), (n_spec_l1Cur r227.2))
 else none
 else Option.bind (spec_l4bent_l5 ((401 - (gl r217.1 3).length) + 1) (n_spec_l1Cur r219.2) (V.agg [(V.int .i64 0), (V.int .i64 0), (V.int .i64 0), (V.sl 3 t_impl_Item 0 none), (V.int .i64 0), (V.int .i64 0), (V.int .i64 0), (V.int .i64 0), (V.sl 4 t_bool 0 none), (V.sl 5 t_int' 0 none), (V.sl 6 t_int' 0 none)]) (V.agg [(V.int .i64 (gi r217.1 0)), (V.int .i64 (gi r217.1 1)), (V.int .i64 (gi r217.1 2)), (V.sl 7 t_impl_Item 0 none), (V.int .i64 (gi r217.1 4)), (V.int .i64 (gi r217.1 5)), (V.int .i64 (gi r217.1 6)), (V.int .i64 (gi r217.1 7)), (V.sl 8 t_bool 0 none), (V.sl 9 t_int' 0 none), (V.sl 10 t_int' 0 none)]) [] [] [] [] (gl r217.1 3) (gl r217.1 8) (gl r217.1 9) (gl r217.1 10)) fun r229 =>
 some ((V.agg [(V.int .i64 (gi r229.2.2.1 0)), (V.int .i64 (gi r229.2.2.1 1)), (V.int .i64 (gi r229.2.2.1 2)), (V.inl t_impl_Item r229.2.2.2.2.2.2.2.1), (V.int .i64 (gi r229.2.2.1 4)), (V.int .i64 (gi r229.2.2.1 5)), (V.int .i64 (gi r229.2.2.1 6)), (V.int .i64 (gi r229.2.2.1 7)), (V.inl t_bool r229.2.2.2.2.2.2.2.2.1), (V.inl t_int' r229.2.2.2.2.2.2.2.2.2.1), (V.inl t_int' r229.2.2.2.2.2.2.2.2.2.2)]), (n_spec_l1Cur r229.1))
def spec_l3draw_l17 : Nat → Int → Int → Int → V → V → V → List V → List V → Option (V × V × V × List V × List V)
 | 0, _, _, _, _, _, _, _, _ => none
 | k_ + 1, n4, t5, i6, b0, b1, b2, r3, r4 =>
 bif (decide (i6 < n4)) then
 bif (decide (t5 < (gi b2 3))) then
 Option.bind (spec_l1Once (n_spec_l1Cur b0) 3) fun r257 =>
 bif r257.1 then
 Option.bind (spec_l3drawItem (n_spec_l1Cur r257.2) (IntKind.i64.wrap (t5 + 1))) fun r258 =>
 bif ((roomy (r4.length + 1) 88) && true) then
 spec_l3draw_l17 k_ n4 (IntKind.i64.wrap (t5 + 1)) (IntKind.i64.wrap (i6 + 1)) (n_spec_l1Cur r258.2) (V.agg [(V.int .i64 (gi b1 0)), (V.int .i64 (gi b1 1)), (V.int .i64 (gi b1 2)), (V.int .i64 (gi b1 3)), (V.int .i64 (gi b1 4)), (V.int .i64 (gi b1 5)), (V.sl 3 t_impl_Item 0 none), (V.int .i64 (gi b1 7)), (V.bool (gb b1 8))]) (V.agg [(V.int .i64 (gi b2 0)), (V.int .i64 (gi b2 1)), (V.int .i64 (gi b2 2)), (V.int .i64 (gi b2 3)), (V.int .i64 (gi b2 4)), (V.int .i64 (gi b2 5)), (V.sl 4 t_impl_Item 0 none), (V.int .i64 (gi b2 7)), (V.bool (gb b2 8))]) r3 (r4 ++ [(n_impl_Item r258.1)])
 else none
 else Option.bind (spec_l3drawItem (n_spec_l1Cur r257.2) t5) fun r259 =>
 bif ((roomy (r4.length + 1) 88) && true) then
 spec_l3draw_l17 k_ n4 t5 (IntKind.i64.wrap (i6 + 1)) (n_spec_l1Cur r259.2) (V.agg [(V.int .i64 (gi b1 0)), (V.int .i64 (gi b1 1)), (V.int .i64 (gi b1 2)), (V.int .i64 (gi b1 3)), (V.int .i64 (gi b1 4)), (V.int .i64 (gi b1 5)), (V.sl 3 t_impl_Item 0 none), (V.int .i64 (gi b1 7)), (V.bool (gb b1 8))]) (V.agg [(V.int .i64 (gi b2 0)), (V.int .i64 (gi b2 1)), (V.int .i64 (gi b2 2)), (V.int .i64 (gi b2 3)), (V.int .i64 (gi b2 4)), (V.int .i64 (gi b2 5)), (V.sl 4 t_impl_Item 0 none), (V.int .i64 (gi b2 7)), (V.bool (gb b2 8))]) r3 (r4 ++ [(n_impl_Item r259.1)])
 else none
 else Option.bind (spec_l3drawItem (n_spec_l1Cur b0) t5) fun r260 =>
 bif ((roomy (r4.length + 1) 88) && true) then
 spec_l3draw_l17 k_ n4 t5 (IntKind.i64.wrap (i6 + 1)) (n_spec_l1Cur r260.2) (V.agg [(V.int .i64 (gi b1 0)), (V.int .i64 (gi b1 1)), (V.int .i64 (gi b1 2)), (V.int .i64 (gi b1 3)), (V.int .i64 (gi b1 4)), (V.int .i64 (gi b1 5)), (V.sl 3 t_impl_Item 0 none), (V.int .i64 (gi b1 7)), (V.bool (gb b1 8))]) (V.agg [(V.int .i64 (gi b2 0)), (V.int .i64 (gi b2 1)), (V.int .i64 (gi b2 2)), (V.int .i64 (gi b2 3)), (V.int .i64 (gi b2 4)), (V.int .i64 (gi b2 5)), (V.sl 4 t_impl_Item 0 none), (V.int .i64 (gi b2 7)), (V.bool (gb b2 8))]) r3 (r4 ++ [(n_impl_Item r260.1)])
 else none
 else some ((n_spec_l1Cur b0), (V.agg [(V.int .i64 (gi b1 0)), (V.int .i64 (gi b1 1)), (V.int .i64 (gi b1 2)), (V.int .i64 (gi b1 3)), (V.int .i64 (gi b1 4)), (V.int .i64 (gi b1 5)), (V.sl 3 t_impl_Item 0 none), (V.int .i64 (gi b1 7)), (V.bool (gb b1 8))]), (V.agg [(V.int .i64 (gi b2 0)), (V.int .i64 (gi b2 1)), (V.int .i64 (gi b2 2)), (V.int .i64 (gi b2 3)), (V.int .i64 (gi b2 4)), (V.int .i64 (gi b2 5)), (V.sl 4 t_impl_Item 0 none), (V.int .i64 (gi b2 7)), (V.bool (gb b2 8))]), r3, r4)
def spec_l3draw (c : V) : Option (V × V) :=
 Option.bind (spec_l1Below (n_spec_l1Cur c) 4) fun r249 =>
 Option.bind (spec_l1Below (n_spec_l1Cur r249.2) 3) fun r250 =>
 Option.bind (spec_l1Below (n_spec_l1Cur r250.2) 5) fun r251 =>
 Option.bind (spec_l1Below (n_spec_l1Cur r251.2) 2) fun r252 =>
 bif (decide (r249.1 = 0)) then
 Option.bind (spec_l1Below (n_spec_l1Cur r252.2) 7) fun r253 =>
 bif (decide ((0 : Int) < r253.1)) then
 Option.bind (spec_l1Below (n_spec_l1Cur r253.2) (IntKind.i64.wrap (1 + r251.1))) fun r254 =>
 bif (decide (r249.1 = 2)) then
 Option.bind (spec_l1Below (n_spec_l1Cur r254.2) 9) fun r255 =>
 Option.bind (spec_l1Below (n_spec_l1Cur r255.2) 5) fun r256 =>
 bif (decide ((IntKind.i64.wrap (1 + r254.1)) < 1)) then
 Option.bind (spec_l3draw_l17 ((r256.1 - 0).toNat + 1) r256.1 1 0 (n_spec_l1Cur r256.2) (V.agg [(V.int .i64 0), (V.int .i64 0), (V.int .i64 0), (V.int .i64 0), (V.int .i64 0), (V.int .i64 0), (V.sl 3 t_impl_Item 0 none), (V.int .i64 0), (V.bool false)]) (V.agg [(V.int .i64 r249.1), (V.int .i64 r250.1), (V.int .i64 ((IntKind.i64.wrap ((IntKind.i64.wrap (r250.1 + 1)) + r252.1)).tmod 3)), (V.int .i64 (IntKind.i64.wrap (1 + r251.1))), (V.int .i64 r253.1), (V.int .i64 (IntKind.i64.wrap (1 + r254.1))), (V.sl 4 t_impl_Item 0 none), (V.int .i64 r255.1), (V.bool false)]) [] []) fun r261 =>
 some ((V.agg [(V.int .i64 (gi r261.2.2.1 0)), (V.int .i64 (gi r261.2.2.1 1)), (V.int .i64 (gi r261.2.2.1 2)), (V.int .i64 (gi r261.2.2.1 3)), (V.int .i64 (gi r261.2.2.1 4)), (V.int .i64 (gi r261.2.2.1 5)), (V.inl t_impl_Item r261.2.2.2.2), (V.int .i64 (gi r261.2.2.1 7)), (V.bool (gb r261.2.2.1 8))]), (n_spec_l1Cur r261.1))
 else Option.bind (spec_l3draw_l17 ((r256.1 - 0).toNat + 1) r256.1 (IntKind.i64.wrap (1 + r254.1)) 0 (n_spec_l1Cur r256.2) (V.agg [(V.int .i64 0), (V.int .i64 0), (V.int .i64 0), (V.int .i64 0), (V.int .i64 0), (V.int .i64 0), (V.sl 3 t_impl_Item 0 none), (V.int .i64 0), (V.bool false)]) (V.agg [(V.int .i64 r249.1), (V.int .i64 r250.1), (V.int .i64 ((IntKind.i64.wrap ((IntKind.i64.wrap (r250.1 + 1)) + r252.1)).tmod 3)), (V.int .i64 (IntKind.i64.wrap (1 + r251.1))), (V.int .i64 r253.1), (V.int .i64 (IntKind.i64.wrap (1 + r254.1))), (V.sl 4 t_impl_Item 0 none), (V.int .i64 r255.1), (V.bool false)]) [] []) fun r262 =>
 some ((V.agg [(V.int .i64 (gi r262.2.2.1 0)), (V.int .i64 (gi r262.2.2.1 1)), (V.int .i64 (gi r262.2.2.1 2)), (V.int .i64 (gi r262.2.2.1 3)), (V.int .i64 (gi r262.2.2.1 4)), (V.int .i64 (gi r262.2.2.1 5)), (V.inl t_impl_Item r262.2.2.2.2), (V.int .i64 (gi r262.2.2.1 7)), (V.bool (gb r262.2.2.1 8))]), (n_spec_l1Cur r262.1))
 else some ((V.agg [(V.int .i64 r249.1), (V.int .i64 r250.1), (V.int .i64 ((IntKind.i64.wrap ((IntKind.i64.wrap (r250.1 + 1)) + r252.1)).tmod 3)), (V.int .i64 (IntKind.i64.wrap (1 + r251.1))), (V.int .i64 r253.1), (V.int .i64 (IntKind.i64.wrap (1 + r254.1))), (V.inl t_impl_Item []), (V.int .i64 0), (V.bool false)]), (n_spec_l1Cur r254.2))
 else bif (decide (r249.1 = 2)) then
 Option.bind (spec_l1Below (n_spec_l1Cur r253.2) 9) fun r263 =>
 Option.bind (spec_l1Below (n_spec_l1Cur r263.2) 5) fun r264 =>
 Option.bind (spec_l3draw_l17 ((r264.1 - 0).toNat + 1) r264.1 1 0 (n_spec_l1Cur r264.2) (V.agg [(V.int .i64 0), (V.int .i64 0), (V.int .i64 0), (V.int .i64 0), (V.int .i64 0), (V.int .i64 0), (V.sl 3 t_impl_Item 0 none), (V.int .i64 0), (V.bool false)]) (V.agg [(V.int .i64 r249.1), (V.int .i64 r250.1), (V.int .i64 ((IntKind.i64.wrap ((IntKind.i64.wrap (r250.1 + 1)) + r252.1)).tmod 3)), (V.int .i64 (IntKind.i64.wrap (1 + r251.1))), (V.int .i64 r253.1), (V.int .i64 0), (V.sl 4 t_impl_Item 0 none), (V.int .i64 r263.1), (V.bool false)]) [] []) fun r265 =>
 some ((V.agg [(V.int .i64 (gi r265.2.2.1 0)), (V.int .i64 (gi r265.2.2.1 1)), (V.int .i64 (gi r265.2.2.1 2)), (V.int .i64 (gi r265.2.2.1 3)), (V.int .i64 (gi r265.2.2.1 4)), (V.int .i64 (gi r265.2.2.1 5)), (V.inl t_impl_Item r265.2.2.2.2), (V.int .i64 (gi r265.2.2.1 7)), (V.bool (gb r265.2.2.1 8))]), (n_spec_l1Cur r265.1))
 else some ((V.agg [(V.int .i64 r249.1), (V.int .i64 r250.1), (V.int .i64 ((IntKind.i64.wrap ((IntKind.i64.wrap (r250.1 + 1)) + r252.1)).tmod 3)), (V.int .i64 (IntKind.i64.wrap (1 + r251.1))), (V.int .i64 r253.1), (V.int .i64 0), (V.inl t_impl_Item []), (V.int .i64 0), (V.bool false)]), (n_spec_l1Cur r253.2))
 else bif (decide (r249.1 = 2)) then
 Option.bind (spec_l1Below (n_spec_l1Cur r252.2) 7) fun r266 =>
 bif (decide ((0 : Int) < r266.1)) then
 Option.bind (spec_l1Below (n_spec_l1Cur r266.2) (IntKind.i64.wrap (1 + r251.1))) fun r267 =>
 bif (decide (r249.1 = 2)) then
 Option.bind (spec_l1Below (n_spec_l1Cur r267.2) 9) fun r268 =>
 Option.bind (spec_l1Below (n_spec_l1Cur r268.2) 5) fun r269 =>
 bif (decide ((IntKind.i64.wrap (1 + r267.1)) < 1)) then
 Option.bind (spec_l3draw_l17 ((r269.1 - 0).toNat + 1) r269.1 1 0 (n_spec_l1Cur r269.2) (V.agg [(V.int .i64 0), (V.int .i64 0), (V.int .i64 0), (V.int .i64 0), (V.int .i64 0), (V.int .i64 0), (V.sl 3 t_impl_Item 0 none), (V.int .i64 0), (V.bool false)]) (V.agg [(V.int .i64 r249.1), (V.int .i64 r250.1), (V.int .i64 ((IntKind.i64.wrap ((IntKind.i64.wrap (r250.1 + 1)) + r252.1)).tmod 3)), (V.int .i64 (IntKind.i64.wrap (1 + r251.1))), (V.int .i64 r266.1), (V.int .i64 (IntKind.i64.wrap (1 + r267.1))), (V.sl 4 t_impl_Item 0 none), (V.int .i64 r268.1), (V.bool false)]) [] []) fun r270 =>
 some ((V.agg [(V.int .i64 (gi r270.2.2.1 0)), (V.int .i64 (gi r270.2.2.1 1)), (V.int .i64 (gi r270.2.2.1 2)), (V.int .i64 (gi r270.2.2.1 3)), (V.int .i64 (gi r270.2.2.1 4)), (V.int .i64 (gi r270.2.2.1 5)), (V.inl t_impl_Item r270.2.2.2.2), (V.int .i64 (gi r270.2.2.1 7)), (V.bool (gb r270.2.2.1 8))]), (n_spec_l1Cur r270.1))
 else Option.bind (spec_l3draw_l17 ((r269.1 - 0).toNat + 1) r269.1 (IntKind.i64.wrap (1 + r267.1)) 0 (n_spec_l1Cur r269.2) (V.agg [(V.int .i64 0), (V.int .i64 0), (V.int .i64 0), (V.int .i64 0), (V.int .i64 0), (V.int .i64 0), (V.sl 3 t_impl_Item 0 none), (V.int .i64 0), (V.bool false)]) (V.agg [(V.int .i64 r249.1), (V.int .i64 r250.1), (V.int .i64 ((IntKind.i64.wrap ((IntKind.i64.wrap (r250.1 + 1)) + r252.1)).tmod 3)), (V.int .i64 (IntKind.i64.wrap (1 + r251.1))), (V.int .i64 r266.1), (V.int .i64 (IntKind.i64.wrap (1 + r267.1))), (V.sl 4 t_impl_Item 0 none), (V.int .i64 r268.1), (V.bool false)]) [] []) fun r271 =>
 some ((V.agg [(V.int .i64 (gi r271.2.2.1 0)), (V.int .i64 (gi r271.2.2.1 1)), (V.int .i64 (gi r271.2.2.1 2)), (V.int .i64 (gi r271.2.2.1 3)), (V.int .i64 (gi r271.2.2.1 4)), (V.int .i64 (gi r271.2.2.1 5)), (V.inl t_impl_Item r271.2.2.2.2), (V.int .i64 (gi r271.2.2.1 7)), (V.bool (gb r271.2.2.1 8))]), (n_spec_l1Cur r271.1))
 else some ((V.agg [(V.int .i64 r249.1), (V.int .i64 r250.1), (V.int .i64 ((IntKind.i64.wrap ((IntKind.i64.wrap (r250.1 + 1)) + r252.1)).tmod 3)), (V.int .i64 (IntKind.i64.wrap (1 + r251.1))), (V.int .i64 r266.1), (V.int .i64 (IntKind.i64.wrap (1 + r267.1))), (V.inl t_impl_Item []), (V.int .i64 0), (V.bool false)]), (n_spec_l1Cur r267.2))
 else bif (decide (r249.1 = 2)) then
 Option.bind (spec_l1Below (n_spec_l1Cur r266.2) 9) fun r272 =>
 Option.bind (spec_l1Below (n_spec_l1Cur r272.2) 5) fun r273 =>
 Option.bind (spec_l3draw_l17 ((r273.1 - 0).toNat + 1) r273.1 1 0 (n_spec_l1Cur r273.2) (V.agg [(V.int .i64 0), (V.int .i64 0), (V.int .i64 0), (V.int .i64 0), (V.int .i64 0), (V.int .i64 0), (V.sl 3 t_impl_Item 0 none), (V.int .i64 0), (V.bool false)]) (V.agg [(V.int .i64 r249.1), (V.int .i64 r250.1), (V.int .i64 ((IntKind.i64.wrap ((IntKind.i64.wrap (r250.1 + 1)) + r252.1)).tmod 3)), (V.int .i64 (IntKind.i64.wrap (1 + r251.1))), (V.int .i64 r266.1), (V.int .i64 0), (V.sl 4 t_impl_Item 0 none), (V.int .i64 r272.1), (V.bool false)]) [] []) fun r274 =>
 some ((V.agg [(V.int .i64 (gi r274.2.2.1 0)), (V.int .i64 (gi r274.2.2.1 1)), (V.int .i64 (gi r274.2.2.1 2)), (V.int .i64 (gi r274.2.2.1 3)), (V.int .i64 (gi r274.2.2.1 4)), (V.int .i64 (gi r274.2.2.1 5)), (V.inl t_impl_Item r274.2.2.2.2), (V.int .i64 (gi r274.2.2.1 7)), (V.bool (gb r274.2.2.1 8))]), (n_spec_l1Cur r274.1))
 else some ((V.agg [(V.int .i64 r249.1), (V.int .i64 r250.1), (V.int .i64 ((IntKind.i64.wrap ((IntKind.i64.wrap (r250.1 + 1)) + r252.1)).tmod 3)), (V.int .i64 (IntKind.i64.wrap (1 + r251.1))), (V.int .i64 r266.1), (V.int .i64 0), (V.inl t_impl_Item []), (V.int .i64 0), (V.bool false)]), (n_spec_l1Cur r266.2))
 else bif (decide (r249.1 = 3)) then
 Option.bind (spec_l1Below (n_spec_l1Cur r252.2) 8) fun r275 =>
 Option.bind (spec_l1Once (n_spec_l1Cur r275.2) 3) fun r276 =>
 some ((V.agg [(V.int .i64 r249.1), (V.int .i64 r250.1), (V.int .i64 ((IntKind.i64.wrap ((IntKind.i64.wrap (r250.1 + 1)) + r252.1)).tmod 3)), (V.int .i64 (IntKind.i64.wrap (1 + r251.1))), (V.int .i64 r275.1), (V.int .i64 0), (V.inl t_impl_Item []), (V.int .i64 0), (V.bool (!r276.1))]), (n_spec_l1Cur r276.2))
 else Option.bind (spec_l1Once (n_spec_l1Cur r252.2) 3) fun r277 =>
 some ((V.agg [(V.int .i64 r249.1), (V.int .i64 r250.1), (V.int .i64 ((IntKind.i64.wrap ((IntKind.i64.wrap (r250.1 + 1)) + r252.1)).tmod 3)), (V.int .i64 (IntKind.i64.wrap (1 + r251.1))), (V.int .i64 0), (V.int .i64 0), (V.inl t_impl_Item []), (V.int .i64 0), (V.bool (!r277.1))]), (n_spec_l1Cur r277.2))
def spec_l3bent (c : V) : Option (V × V) :=
 Option.bind (spec_l3draw (n_spec_l1Cur c)) fun r278 =>
 Option.bind (spec_l1Once (n_spec_l1Cur r278.2) 7) fun r279 =>
 bif (!r279.1) then
 some ((n_impl_Msg r278.1), (n_spec_l1Cur r279.2))
 else Option.bind (spec_l1Below (n_spec_l1Cur r279.2) 7) fun r280 =>
 bif (decide (r280.1 = 0)) then
 Option.bind (spec_l1Below (n_spec_l1Cur r280.2) 6) fun r281 =>
 some ((V.agg [(V.int .i64 (IntKind.i64.wrap (r281.1 - 1))), (V.int .i64 (gi r278.1 1)), (V.int .i64 (gi r278.1 2)), (V.int .i64 (gi r278.1 3)), (V.int .i64 (gi r278.1 4)), (V.int .i64 (gi r278.1 5)), (V.inl t_impl_Item (gl r278.1 6)), (V.int .i64 (gi r278.1 7)), (V.bool (gb r278.1 8))]), (n_spec_l1Cur r281.2))
 else bif (decide (r280.1 = 1)) then
 Option.bind (spec_l1PickInt (n_spec_l1Cur r280.2) [(V.int .i64 (-1)), (V.int .i64 (gi r278.1 1)), (V.int .i64 4), (V.int .i64 5)]) fun r282 =>
 some ((V.agg [(V.int .i64 (gi r278.1 0)), (V.int .i64 (gi r278.1 1)), (V.int .i64 r282.1), (V.int .i64 (gi r278.1 3)), (V.int .i64 (gi r278.1 4)), (V.int .i64 (gi r278.1 5)), (V.inl t_impl_Item (gl r278.1 6)), (V.int .i64 (gi r278.1 7)), (V.bool (gb r278.1 8))]), (n_spec_l1Cur r282.2))
 else bif (decide (r280.1 = 2)) then
 Option.bind (spec_l1PickInt (n_spec_l1Cur r280.2) [(V.int .i64 0), (V.int .i64 (-1)), (V.int .i64 100000), (V.int .i64 100001)]) fun r283 =>
 some ((V.agg [(V.int .i64 (gi r278.1 0)), (V.int .i64 (gi r278.1 1)), (V.int .i64 (gi r278.1 2)), (V.int .i64 r283.1), (V.int .i64 (gi r278.1 4)), (V.int .i64 (gi r278.1 5)), (V.inl t_impl_Item (gl r278.1 6)), (V.int .i64 (gi r278.1 7)), (V.bool (gb r278.1 8))]), (n_spec_l1Cur r283.2))
 else bif (decide (r280.1 = 3)) then
 Option.bind (spec_l1PickInt (n_spec_l1Cur r280.2) [(V.int .i64 (-1)), (V.int .i64 0), (V.int .i64 400), (V.int .i64 401)]) fun r284 =>
 some ((V.agg [(V.int .i64 (gi r278.1 0)), (V.int .i64 (gi r278.1 1)), (V.int .i64 (gi r278.1 2)), (V.int .i64 (gi r278.1 3)), (V.int .i64 r284.1), (V.int .i64 (gi r278.1 5)), (V.inl t_impl_Item (gl r278.1 6)), (V.int .i64 (gi r278.1 7)), (V.bool (gb r278.1 8))]), (n_spec_l1Cur r284.2))
 else bif (decide (r280.1 = 4)) then
 Option.bind (spec_l1Below (n_spec_l1Cur r280.2) 9) fun r285 =>
 some ((V.agg [(V.int .i64 (gi r278.1 0)), (V.int .i64 (gi r278.1 1)), (V.int .i64 (gi r278.1 2)), (V.int .i64 (gi r278.1 3)), (V.int .i64 (gi r278.1 4)), (V.int .i64 (IntKind.i64.wrap (r285.1 - 1))), (V.inl t_impl_Item (gl r278.1 6)), (V.int .i64 (gi r278.1 7)), (V.bool (gb r278.1 8))]), (n_spec_l1Cur r285.2))
 else bif (decide (r280.1 = 5)) then
 Option.bind (spec_l1Below (n_spec_l1Cur r280.2) 9) fun r286 =>
 Option.bind (spec_l3drawItem (n_spec_l1Cur r286.2) r286.1) fun r287 =>
 bif ((roomy (((gl r278.1 6).length) + 1) 88) && true) then
 some ((V.agg [(V.int .i64 (gi r278.1 0)), (V.int .i64 (gi r278.1 1)), (V.int .i64 (gi r278.1 2)), (V.int .i64 (gi r278.1 3)), (V.int .i64 (gi r278.1 4)), (V.int .i64 (gi r278.1 5)), (V.inl t_impl_Item ((gl r278.1 6) ++ [(n_impl_Item r287.1)])), (V.int .i64 (gi r278.1 7)), (V.bool (gb r278.1 8))]), (n_spec_l1Cur r287.2))
 else none
 else Option.bind (spec_l1PickInt (n_spec_l1Cur r280.2) [(V.int .i64 (-1)), (V.int .i64 1), (V.int .i64 400), (V.int .i64 401)]) fun r288 =>
 some ((V.agg [(V.int .i64 (gi r278.1 0)), (V.int .i64 (gi r278.1 1)), (V.int .i64 (gi r278.1 2)), (V.int .i64 (gi r278.1 3)), (V.int .i64 (gi r278.1 4)), (V.int .i64 (gi r278.1 5)), (V.inl t_impl_Item (gl r278.1 6)), (V.int .i64 r288.1), (V.bool (gb r278.1 8))]), (n_spec_l1Cur r288.2))
def spec_DrawHear_l13 : Nat → Int → Int → V → V → V → V → V → List V → List V → List V → List V → List V → List V → List V → List V → List V → List V → Option (Int × V × V × V × V × V × List V × List V × List V × List V × List V × List V × List V × List V × List V × List V)
 | 0, _, _, _, _, _, _, _, _, _, _, _, _, _, _, _, _, _ => none
 | k_ + 1, k6, i9, b0, b1, b2, b3, b4, r5, r6, r7, r8, r9, r10, r11, r12, r13, r14 =>
 bif (decide (i9 < ((r14.length : Nat) : Int))) then
 bif (idxOk i9 r14.length) then
 bif (decide ((gi b4 3) < (gi (rd r14 (0 + i9.toNat)) 0))) then
 bif (idxOk i9 r14.length) then
 spec_DrawHear_l13 k_ k6 (IntKind.i64.wrap (i9 + 1)) (V.agg [(V.int .i64 (gi b0 0)), (V.int .i64 (gi b0 1)), (V.int .i64 (gi b0 2)), (V.sl 5 t_impl_Item 0 none), (V.int .i64 (gi b0 4)), (V.int .i64 (gi b0 5)), (V.int .i64 (gi b0 6)), (V.int .i64 (gi b0 7)), (V.sl 6 t_bool 0 none), (V.sl 7 t_int' 0 none), (V.sl 8 t_int' 0 none)]) (V.agg [(V.int .i64 (gi b1 0)), (V.int .i64 (gi b1 1)), (V.int .i64 (gi b1 2)), (V.int .i64 (gi b1 3)), (V.int .i64 (gi b1 4)), (V.int .i64 (gi b1 5)), (V.sl 9 t_impl_Item 0 none), (V.int .i64 (gi b1 7)), (V.bool (gb b1 8))]) (n_spec_l1Cur b2) (V.agg [(V.int .i64 (gi b3 0)), (V.int .i64 (gi b3 1)), (V.int .i64 (gi b3 2)), (V.sl 10 t_impl_Item 0 none), (V.int .i64 (gi b3 4)), (V.int .i64 (gi b3 5)), (V.int .i64 (gi b3 6)), (V.int .i64 (gi b3 7)), (V.sl 11 t_bool 0 none), (V.sl 12 t_int' 0 none), (V.sl 13 t_int' 0 none)]) (V.agg [(V.int .i64 (gi b4 0)), (V.int .i64 (gi b4 1)), (V.int .i64 (gi b4 2)), (V.int .i64 (gi b4 3)), (V.int .i64 (gi b4 4)), (V.int .i64 (gi b4 5)), (V.sl 14 t_impl_Item 0 none), (V.int .i64 (gi b4 7)), (V.bool (gb b4 8))]) r5 r6 r7 r8 r9 r10 r11 r12 r13 (r14.set (0 + i9.toNat) (V.agg [(V.int .i64 (gi b4 3)), (V.int .i64 (gi (rd r14 (0 + i9.toNat)) 1)), (V.int .i64 (gi (rd r14 (0 + i9.toNat)) 2)), (V.int .i64 (gi (rd r14 (0 + i9.toNat)) 3)), (V.inl t_byte (gl (rd r14 (0 + i9.toNat)) 4)), (V.inl t_byte (gl (rd r14 (0 + i9.toNat)) 5)), (V.int .i64 (gi (rd r14 (0 + i9.toNat)) 6))]))
 else none
 else spec_DrawHear_l13 k_ k6 (IntKind.i64.wrap (i9 + 1)) (V.agg [(V.int .i64 (gi b0 0)), (V.int .i64 (gi b0 1)), (V.int .i64 (gi b0 2)), (V.sl 5 t_impl_Item 0 none), (V.int .i64 (gi b0 4)), (V.int .i64 (gi b0 5)), (V.int .i64 (gi b0 6)), (V.int .i64 (gi b0 7)), (V.sl 6 t_bool 0 none), (V.sl 7 t_int' 0 none), (V.sl 8 t_int' 0 none)]) (V.agg [(V.int .i64 (gi b1 0)), (V.int .i64 (gi b1 1)), (V.int .i64 (gi b1 2)), (V.int .i64 (gi b1 3)), (V.int .i64 (gi b1 4)), (V.int .i64 (gi b1 5)), (V.sl 9 t_impl_Item 0 none), (V.int .i64 (gi b1 7)), (V.bool (gb b1 8))]) (n_spec_l1Cur b2) (V.agg [(V.int .i64 (gi b3 0)), (V.int .i64 (gi b3 1)), (V.int .i64 (gi b3 2)), (V.sl 10 t_impl_Item 0 none), (V.int .i64 (gi b3 4)), (V.int .i64 (gi b3 5)), (V.int .i64 (gi b3 6)), (V.int .i64 (gi b3 7)), (V.sl 11 t_bool 0 none), (V.sl 12 t_int' 0 none), (V.sl 13 t_int' 0 none)]) (V.agg [(V.int .i64 (gi b4 0)), (V.int .i64 (gi b4 1)), (V.int .i64 (gi b4 2)), (V.int .i64 (gi b4 3)), (V.int .i64 (gi b4 4)), (V.int .i64 (gi b4 5)), (V.sl 14 t_impl_Item 0 none), (V.int .i64 (gi b4 7)), (V.bool (gb b4 8))]) r5 r6 r7 r8 r9 r10 r11 r12 r13 r14
 else none
 else some (k6, (V.agg [(V.int .i64 (gi b0 0)), (V.int .i64 (gi b0 1)), (V.int .i64 (gi b0 2)), (V.sl 5 t_impl_Item 0 none), (V.int .i64 (gi b0 4)), (V.int .i64 (gi b0 5)), (V.int .i64 (gi b0 6)), (V.int .i64 (gi b0 7)), (V.sl 6 t_bool 0 none), (V.sl 7 t_int' 0 none), (V.sl 8 t_int' 0 none)]), (V.agg [(V.int .i64 (gi b1 0)), (V.int .i64 (gi b1 1)), (V.int .i64 (gi b1 2)), (V.int .i64 (gi b1 3)), (V.int .i64 (gi b1 4)), (V.int .i64 (gi b1 5)), (V.sl 9 t_impl_Item 0 none), (V.int .i64 (gi b1 7)), (V.bool (gb b1 8))]), (n_spec_l1Cur b2), (V.agg [(V.int .i64 (gi b3 0)), (V.int .i64 (gi b3 1)), (V.int .i64 (gi b3 2)), (V.sl 10 t_impl_Item 0 none), (V.int .i64 (gi b3 4)), (V.int .i64 (gi b3 5)), (V.int .i64 (gi b3 6)), (V.int .i64 (gi b3 7)), (V.sl 11 t_bool 0 none), (V.sl 12 t_int' 0 none), (V.sl 13 t_int' 0 none)]), (V.agg [(V.int .i64 (gi b4 0)), (V.int .i64 (gi b4 1)), (V.int .i64 (gi b4 2)), (V.int .i64 (gi b4 3)), (V.int .i64 (gi b4 4)), (V.int .i64 (gi b4 5)), (V.sl 14 t_impl_Item 0 none), (V.int .i64 (gi b4 7)), (V.bool (gb b4 8))]), r5, r6, r7, r8, r9, r10, r11, r12, r13, r14)
def spec_DrawHear_l20 : Nat → Int → Int → V → V → V → V → List V → List V → List V → List V → List V → List V → List V → List V → List V → List V → Option (Int × V × V × V × V × List V × List V × List V × List V × List V × List V × List V × List V × List V × List V)
 | 0, _, _, _, _, _, _, _, _, _, _, _, _, _, _, _, _ => none
 | k_ + 1, k6, i10, b0, b1, b2, b3, r4, r5, r6, r7, r8, r9, r10, r11, r12, r13 =>
 bif (decide (i10 < ((r13.length : Nat) : Int))) then
 bif (idxOk i10 r13.length) then
 bif (decide ((gi (rd r13 (0 + i10.toNat)) 0) < (gi b3 5))) then
 bif (idxOk i10 r13.length) then
 spec_DrawHear_l20 k_ k6 (IntKind.i64.wrap (i10 + 1)) (V.agg [(V.int .i64 (gi b0 0)), (V.int .i64 (gi b0 1)), (V.int .i64 (gi b0 2)), (V.sl 4 t_impl_Item 0 none), (V.int .i64 (gi b0 4)), (V.int .i64 (gi b0 5)), (V.int .i64 (gi b0 6)), (V.int .i64 (gi b0 7)), (V.sl 5 t_bool 0 none), (V.sl 6 t_int' 0 none), (V.sl 7 t_int' 0 none)]) (V.agg [(V.int .i64 (gi b1 0)), (V.int .i64 (gi b1 1)), (V.int .i64 (gi b1 2)), (V.int .i64 (gi b1 3)), (V.int .i64 (gi b1 4)), (V.int .i64 (gi b1 5)), (V.sl 8 t_impl_Item 0 none), (V.int .i64 (gi b1 7)), (V.bool (gb b1 8))]) (V.agg [(V.int .i64 (gi b2 0)), (V.int .i64 (gi b2 1)), (V.int .i64 (gi b2 2)), (V.sl 9 t_impl_Item 0 none), (V.int .i64 (gi b2 4)), (V.int .i64 (gi b2 5)), (V.int .i64 (gi b2 6)), (V.int .i64 (gi b2 7)), (V.sl 10 t_bool 0 none), (V.sl 11 t_int' 0 none), (V.sl 12 t_int' 0 none)]) (V.agg [(V.int .i64 (gi b3 0)), (V.int .i64 (gi b3 1)), (V.int .i64 (gi b3 2)), (V.int .i64 (gi b3 3)), (V.int .i64 (gi b3 4)), (V.int .i64 (gi b3 5)), (V.sl 13 t_impl_Item 0 none), (V.int .i64 (gi b3 7)), (V.bool (gb b3 8))]) r4 r5 r6 r7 r8 r9 r10 r11 r12 (r13.set (0 + i10.toNat) (V.agg [(V.int .i64 (gi b3 5)), (V.int .i64 (gi (rd r13 (0 + i10.toNat)) 1)), (V.int .i64 (gi (rd r13 (0 + i10.toNat)) 2)), (V.int .i64 (gi (rd r13 (0 + i10.toNat)) 3)), (V.inl t_byte (gl (rd r13 (0 + i10.toNat)) 4)), (V.inl t_byte (gl (rd r13 (0 + i10.toNat)) 5)), (V.int .i64 (gi (rd r13 (0 + i10.toNat)) 6))]))
 else none
 else spec_DrawHear_l20 k_ k6 (IntKind.i64.wrap (i10 + 1)) (V.agg [(V.int .i64 (gi b0 0)), (V.int .i64 (gi b0 1)), (V.int .i64 (gi b0 2)), (V.sl 4 t_impl_Item 0 none), (V.int .i64 (gi b0 4)), (V.int .i64 (gi b0 5)), (V.int .i64 (gi b0 6)), (V.int .i64 (gi b0 7)), (V.sl 5 t_bool 0 none), (V.sl 6 t_int' 0 none), (V.sl 7 t_int' 0 none)]) (V.agg [(V.int .i64 (gi b1 0)), (V.int .i64 (gi b1 1)), (V.int .i64 (gi b1 2)), (V.int .i64 (gi b1 3)), (V.int .i64 (gi b1 4)), (V.int .i64 (gi b1 5)), (V.sl 8 t_impl_Item 0 none), (V.int .i64 (gi b1 7)), (V.bool (gb b1 8))]) (V.agg [(V.int .i64 (gi b2 0)), (V.int .i64 (gi b2 1)), (V.int .i64 (gi b2 2)), (V.sl 9 t_impl_Item 0 none), (V.int .i64 (gi b2 4)), (V.int .i64 (gi b2 5)), (V.int .i64 (gi b2 6)), (V.int .i64 (gi b2 7)), (V.sl 10 t_bool 0 none), (V.sl 11 t_int' 0 none), (V.sl 12 t_int' 0 none)]) (V.agg [(V.int .i64 (gi b3 0)), (V.int .i64 (gi b3 1)), (V.int .i64 (gi b3 2)), (V.int .i64 (gi b3 3)), (V.int .i64 (gi b3 4)), (V.int .i64 (gi b3 5)), (V.sl 13 t_impl_Item 0 none), (V.int .i64 (gi b3 7)), (V.bool (gb b3 8))]) r4 r5 r6 r7 r8 r9 r10 r11 r12 r13
 else none
 else some (k6, (V.agg [(V.int .i64 (gi b0 0)), (V.int .i64 (gi b0 1)), (V.int .i64 (gi b0 2)), (V.sl 4 t_impl_Item 0 none), (V.int .i64 (gi b0 4)), (V.int .i64 (gi b0 5)), (V.int .i64 (gi b0 6)), (V.int .i64 (gi b0 7)), (V.sl 5 t_bool 0 none), (V.sl 6 t_int' 0 none), (V.sl 7 t_int' 0 none)]), (V.agg [(V.int .i64 (gi b1 0)), (V.int .i64 (gi b1 1)), (V.int .i64 (gi b1 2)), (V.int .i64 (gi b1 3)), (V.int .i64 (gi b1 4)), (V.int .i64 (gi b1 5)), (V.sl 8 t_impl_Item 0 none), (V.int .i64 (gi b1 7)), (V.bool (gb b1 8))]), (V.agg [(V.int .i64 (gi b2 0)), (V.int .i64 (gi b2 1)), (V.int .i64 (gi b2 2)), (V.sl 9 t_impl_Item 0 none), (V.int .i64 (gi b2 4)), (V.int .i64 (gi b2 5)), (V.int .i64 (gi b2 6)), (V.int .i64 (gi b2 7)), (V.sl 10 t_bool 0 none), (V.sl 11 t_int' 0 none), (V.sl 12 t_int' 0 none)]), (V.agg [(V.int .i64 (gi b3 0)), (V.int .i64 (gi b3 1)), (V.int .i64 (gi b3 2)), (V.int .i64 (gi b3 3)), (V.int .i64 (gi b3 4)), (V.int .i64 (gi b3 5)), (V.sl 13 t_impl_Item 0 none), (V.int .i64 (gi b3 7)), (V.bool (gb b3 8))]), r4, r5, r6, r7, r8, r9, r10, r11, r12, r13)
def nodeV (b : V) (l3 l8 l9 l10 : List V) : V := V.agg [(V.int .i64 (gi b 0)), (V.int .i64 (gi b 1)), (V.int .i64 (gi b 2)), (V.inl t_impl_Item l3), (V.int .i64 (gi b 4)), (V.int .i64 (gi b 5)), (V.int .i64 (gi b 6)), (V.int .i64 (gi b 7)), (V.inl t_bool l8), (V.inl t_int' l9), (V.inl t_int' l10)]
def msgV (b : V) (l : List V) : V := V.agg [(V.int .i64 (gi b 0)), (V.int .i64 (gi b 1)), (V.int .i64 (gi b 2)), (V.int .i64 (gi b 3)), (V.int .i64 (gi b 4)), (V.int .i64 (gi b 5)), (V.inl t_impl_Item l), (V.int .i64 (gi b 7)), (V.bool (gb b 8))]
def toM (M : V) (f t : Int) : V := V.agg [(V.int .i64 (gi M 0)), (V.int .i64 f), (V.int .i64 t), (V.int .i64 (gi M 3)), (V.int .i64 (gi M 4)), (V.int .i64 (gi M 5)), (V.inl t_impl_Item (gl M 6)), (V.int .i64 (gi M 7)), (V.bool (gb M 8))]
def tailH (k : Int) (c N M b0 b1 : V) (e0 e1 e2 e3 e4 : List V) : Option (V × Int × V) :=
 bif (decide ((gi M 0) = 2)) then
 bif (decide ((gi M 4) ≤ (((gl N 3).length : Nat) : Int))) then
 bif (decide ((0 : Int) < (gi M 4))) then
 Option.bind (spec_l1Once (n_spec_l1Cur c) 2) fun r358 =>
 bif r358.1 then
 Option.bind (spec_l4termAt (n_impl_Node N) (gi M 4)) fun r359 =>
 Option.bind (spec_DrawHear_l20 (((((gl M 6).length : Nat) : Int) - 0).toNat + 1) k 0 b0 b1 (V.agg [(V.int .i64 (gi N 0)), (V.int .i64 (gi N 1)), (V.int .i64 (gi N 2)), (V.sl 9 t_impl_Item 0 none), (V.int .i64 (gi N 4)), (V.int .i64 (gi N 5)), (V.int .i64 (gi N 6)), (V.int .i64 (gi N 7)), (V.sl 10 t_bool 0 none), (V.sl 11 t_int' 0 none), (V.sl 12 t_int' 0 none)]) (V.agg [(V.int .i64 (gi M 0)), (V.int .i64 (gi M 1)), (V.int .i64 (gi M 2)), (V.int .i64 (gi M 3)), (V.int .i64 (gi M 4)), (V.int .i64 r359), (V.sl 13 t_impl_Item 0 none), (V.int .i64 (gi M 7)), (V.bool (gb M 8))]) e0 e1 e2 e3 e4 (gl N 3) (gl N 8) (gl N 9) (gl N 10) (gl M 6)) fun r360 =>
 bif (decide ((gi r360.2.2.2.2.1 3) < (gi r360.2.2.2.2.1 5))) then
 some ((V.agg [(V.int .i64 (gi r360.2.2.2.1 0)), (V.int .i64 (gi r360.2.2.2.1 1)), (V.int .i64 (gi r360.2.2.2.1 2)), (V.inl t_impl_Item r360.2.2.2.2.2.2.2.2.2.2.1), (V.int .i64 (gi r360.2.2.2.1 4)), (V.int .i64 (gi r360.2.2.2.1 5)), (V.int .i64 (gi r360.2.2.2.1 6)), (V.int .i64 (gi r360.2.2.2.1 7)), (V.inl t_bool r360.2.2.2.2.2.2.2.2.2.2.2.1), (V.inl t_int' r360.2.2.2.2.2.2.2.2.2.2.2.2.1), (V.inl t_int' r360.2.2.2.2.2.2.2.2.2.2.2.2.2.1)]), r360.1, (V.agg [(V.int .i64 (gi r360.2.2.2.2.1 0)), (V.int .i64 (gi r360.2.2.2.2.1 1)), (V.int .i64 (gi r360.2.2.2.2.1 2)), (V.int .i64 (gi r360.2.2.2.2.1 5)), (V.int .i64 (gi r360.2.2.2.2.1 4)), (V.int .i64 (gi r360.2.2.2.2.1 5)), (V.inl t_impl_Item r360.2.2.2.2.2.2.2.2.2.2.2.2.2.2), (V.int .i64 (gi r360.2.2.2.2.1 7)), (V.bool (gb r360.2.2.2.2.1 8))]))
 else some ((V.agg [(V.int .i64 (gi r360.2.2.2.1 0)), (V.int .i64 (gi r360.2.2.2.1 1)), (V.int .i64 (gi r360.2.2.2.1 2)), (V.inl t_impl_Item r360.2.2.2.2.2.2.2.2.2.2.1), (V.int .i64 (gi r360.2.2.2.1 4)), (V.int .i64 (gi r360.2.2.2.1 5)), (V.int .i64 (gi r360.2.2.2.1 6)), (V.int .i64 (gi r360.2.2.2.1 7)), (V.inl t_bool r360.2.2.2.2.2.2.2.2.2.2.2.1), (V.inl t_int' r360.2.2.2.2.2.2.2.2.2.2.2.2.1), (V.inl t_int' r360.2.2.2.2.2.2.2.2.2.2.2.2.2.1)]), r360.1, (V.agg [(V.int .i64 (gi r360.2.2.2.2.1 0)), (V.int .i64 (gi r360.2.2.2.2.1 1)), (V.int .i64 (gi r360.2.2.2.2.1 2)), (V.int .i64 (gi r360.2.2.2.2.1 3)), (V.int .i64 (gi r360.2.2.2.2.1 4)), (V.int .i64 (gi r360.2.2.2.2.1 5)), (V.inl t_impl_Item r360.2.2.2.2.2.2.2.2.2.2.2.2.2.2), (V.int .i64 (gi r360.2.2.2.2.1 7)), (V.bool (gb r360.2.2.2.2.1 8))]))
 else some ((n_impl_Node N), k, (n_impl_Msg M))
 else some ((n_impl_Node N), k, (n_impl_Msg M))
 else some ((n_impl_Node N), k, (n_impl_Msg M))
 else some ((n_impl_Node N), k, (n_impl_Msg M))
def midH (k : Int) (c N M : V) : Option (V × Int × V) :=
 Option.bind (spec_l1Once (n_spec_l1Cur c) 2) fun q =>
 bif q.1 then
 bif (decide ((0 : Int) < (gi N 1))) then
 bif (decide ((gi N 1) < (gi M 5))) then
 Option.bind (spec_DrawHear_l13 (((((gl M 6).length : Nat) : Int) - 0).toNat + 1) k 0 (V.agg [(V.int .i64 0), (V.int .i64 0), (V.int .i64 0), (V.sl 5 t_impl_Item 0 none), (V.int .i64 0), (V.int .i64 0), (V.int .i64 0), (V.int .i64 0), (V.sl 6 t_bool 0 none), (V.sl 7 t_int' 0 none), (V.sl 8 t_int' 0 none)]) (V.agg [(V.int .i64 0), (V.int .i64 0), (V.int .i64 0), (V.int .i64 0), (V.int .i64 0), (V.int .i64 0), (V.sl 9 t_impl_Item 0 none), (V.int .i64 0), (V.bool false)]) (n_spec_l1Cur q.2) (V.agg [(V.int .i64 (gi N 0)), (V.int .i64 (gi N 1)), (V.int .i64 (gi N 2)), (V.sl 10 t_impl_Item 0 none), (V.int .i64 (gi N 4)), (V.int .i64 (gi N 5)), (V.int .i64 (gi N 6)), (V.int .i64 (gi N 7)), (V.sl 11 t_bool 0 none), (V.sl 12 t_int' 0 none), (V.sl 13 t_int' 0 none)]) (V.agg [(V.int .i64 (gi M 0)), (V.int .i64 (gi M 1)), (V.int .i64 (gi M 2)), (V.int .i64 (gi N 1)), (V.int .i64 (gi M 4)), (V.int .i64 (gi N 1)), (V.sl 14 t_impl_Item 0 none), (V.int .i64 (gi M 7)), (V.bool (gb M 8))]) [] [] [] [] [] (gl N 3) (gl N 8) (gl N 9) (gl N 10) (gl M 6)) fun s =>
 tailH s.1 (s.2.2.2.1) (nodeV s.2.2.2.2.1 s.2.2.2.2.2.2.2.2.2.2.2.1 s.2.2.2.2.2.2.2.2.2.2.2.2.1 s.2.2.2.2.2.2.2.2.2.2.2.2.2.1 s.2.2.2.2.2.2.2.2.2.2.2.2.2.2.1) (msgV s.2.2.2.2.2.1 s.2.2.2.2.2.2.2.2.2.2.2.2.2.2.2) (V.agg [(V.int .i64 (gi s.2.1 0)), (V.int .i64 (gi s.2.1 1)), (V.int .i64 (gi s.2.1 2)), (V.sl 4 t_impl_Item 0 none), (V.int .i64 (gi s.2.1 4)), (V.int .i64 (gi s.2.1 5)), (V.int .i64 (gi s.2.1 6)), (V.int .i64 (gi s.2.1 7)), (V.sl 5 t_bool 0 none), (V.sl 6 t_int' 0 none), (V.sl 7 t_int' 0 none)]) (V.agg [(V.int .i64 (gi s.2.2.1 0)), (V.int .i64 (gi s.2.2.1 1)), (V.int .i64 (gi s.2.2.1 2)), (V.int .i64 (gi s.2.2.1 3)), (V.int .i64 (gi s.2.2.1 4)), (V.int .i64 (gi s.2.2.1 5)), (V.sl 8 t_impl_Item 0 none), (V.int .i64 (gi s.2.2.1 7)), (V.bool (gb s.2.2.1 8))]) s.2.2.2.2.2.2.1 s.2.2.2.2.2.2.2.1 s.2.2.2.2.2.2.2.2.1 s.2.2.2.2.2.2.2.2.2.1 s.2.2.2.2.2.2.2.2.2.2.1
 else Option.bind (spec_DrawHear_l13 (((((gl M 6).length : Nat) : Int) - 0).toNat + 1) k 0 (V.agg [(V.int .i64 0), (V.int .i64 0), (V.int .i64 0), (V.sl 5 t_impl_Item 0 none), (V.int .i64 0), (V.int .i64 0), (V.int .i64 0), (V.int .i64 0), (V.sl 6 t_bool 0 none), (V.sl 7 t_int' 0 none), (V.sl 8 t_int' 0 none)]) (V.agg [(V.int .i64 0), (V.int .i64 0), (V.int .i64 0), (V.int .i64 0), (V.int .i64 0), (V.int .i64 0), (V.sl 9 t_impl_Item 0 none), (V.int .i64 0), (V.bool false)]) (n_spec_l1Cur q.2) (V.agg [(V.int .i64 (gi N 0)), (V.int .i64 (gi N 1)), (V.int .i64 (gi N 2)), (V.sl 10 t_impl_Item 0 none), (V.int .i64 (gi N 4)), (V.int .i64 (gi N 5)), (V.int .i64 (gi N 6)), (V.int .i64 (gi N 7)), (V.sl 11 t_bool 0 none), (V.sl 12 t_int' 0 none), (V.sl 13 t_int' 0 none)]) (V.agg [(V.int .i64 (gi M 0)), (V.int .i64 (gi M 1)), (V.int .i64 (gi M 2)), (V.int .i64 (gi N 1)), (V.int .i64 (gi M 4)), (V.int .i64 (gi M 5)), (V.sl 14 t_impl_Item 0 none), (V.int .i64 (gi M 7)), (V.bool (gb M 8))]) [] [] [] [] [] (gl N 3) (gl N 8) (gl N 9) (gl N 10) (gl M 6)) fun s =>
 tailH s.1 (s.2.2.2.1) (nodeV s.2.2.2.2.1 s.2.2.2.2.2.2.2.2.2.2.2.1 s.2.2.2.2.2.2.2.2.2.2.2.2.1 s.2.2.2.2.2.2.2.2.2.2.2.2.2.1 s.2.2.2.2.2.2.2.2.2.2.2.2.2.2.1) (msgV s.2.2.2.2.2.1 s.2.2.2.2.2.2.2.2.2.2.2.2.2.2.2) (V.agg [(V.int .i64 (gi s.2.1 0)), (V.int .i64 (gi s.2.1 1)), (V.int .i64 (gi s.2.1 2)), (V.sl 4 t_impl_Item 0 none), (V.int .i64 (gi s.2.1 4)), (V.int .i64 (gi s.2.1 5)), (V.int .i64 (gi s.2.1 6)), (V.int .i64 (gi s.2.1 7)), (V.sl 5 t_bool 0 none), (V.sl 6 t_int' 0 none), (V.sl 7 t_int' 0 none)]) (V.agg [(V.int .i64 (gi s.2.2.1 0)), (V.int .i64 (gi s.2.2.1 1)), (V.int .i64 (gi s.2.2.1 2)), (V.int .i64 (gi s.2.2.1 3)), (V.int .i64 (gi s.2.2.1 4)), (V.int .i64 (gi s.2.2.1 5)), (V.sl 8 t_impl_Item 0 none), (V.int .i64 (gi s.2.2.1 7)), (V.bool (gb s.2.2.1 8))]) s.2.2.2.2.2.2.1 s.2.2.2.2.2.2.2.1 s.2.2.2.2.2.2.2.2.1 s.2.2.2.2.2.2.2.2.2.1 s.2.2.2.2.2.2.2.2.2.2.1
 else tailH k q.2 N M (V.agg [(V.int .i64 0), (V.int .i64 0), (V.int .i64 0), (V.sl 4 t_impl_Item 0 none), (V.int .i64 0), (V.int .i64 0), (V.int .i64 0), (V.int .i64 0), (V.sl 5 t_bool 0 none), (V.sl 6 t_int' 0 none), (V.sl 7 t_int' 0 none)]) (V.agg [(V.int .i64 0), (V.int .i64 0), (V.int .i64 0), (V.int .i64 0), (V.int .i64 0), (V.int .i64 0), (V.sl 8 t_impl_Item 0 none), (V.int .i64 0), (V.bool false)]) [] [] [] [] []
 else tailH k q.2 N M (V.agg [(V.int .i64 0), (V.int .i64 0), (V.int .i64 0), (V.sl 4 t_impl_Item 0 none), (V.int .i64 0), (V.int .i64 0), (V.int .i64 0), (V.int .i64 0), (V.sl 5 t_bool 0 none), (V.sl 6 t_int' 0 none), (V.sl 7 t_int' 0 none)]) (V.agg [(V.int .i64 0), (V.int .i64 0), (V.int .i64 0), (V.int .i64 0), (V.int .i64 0), (V.int .i64 0), (V.sl 8 t_impl_Item 0 none), (V.int .i64 0), (V.bool false)]) [] [] [] [] []
def spec_DrawHear (code : List V) : Option (V × Int × V) :=
 Option.bind (spec_l1New code) fun r0 =>
 Option.bind (spec_l4count (n_spec_l1Cur r0)) fun r1 =>
 Option.bind (spec_l4bent (n_spec_l1Cur r1.2) r1.1) fun r2 =>
 Option.bind (spec_l3bent (n_spec_l1Cur r2.2)) fun r3 =>
 Option.bind (spec_l1Once (n_spec_l1Cur r3.2) 9) fun r4 =>
 bif (!r4.1) then
 bif (decide ((1 : Int) < r1.1)) then
 Option.bind (spec_l1Below (n_spec_l1Cur r4.2) (IntKind.i64.wrap (r1.1 - 1))) fun r5 =>
 bif (!(decide (r1.1 = 0))) then midH r1.1 r5.2 r2.1 (toM r3.1 ((IntKind.i64.wrap ((IntKind.i64.wrap ((gi r2.1 0) + 1)) + r5.1)).tmod r1.1) (gi r2.1 0)) else none
 else midH r1.1 r4.2 r2.1 r3.1
 else midH r1.1 r4.2 r2.1 r3.1
def impl_within (n : Int) (low : Int) (high : Int) : Bool :=
 bif (decide (low ≤ n)) then
 (decide (n ≤ high))
 else false
def impl_isServer (id : Int) (servers : Int) : Bool :=
 bif impl_within servers 1 5 then
 (impl_within id 0 (IntKind.i64.wrap (servers - 1)))
 else false
def impl_isTerm (n : Int) : Bool :=
 (impl_within n 1 100000)
def impl_noOp : V :=
 (V.agg [(V.int .i64 (-1)), (V.int .i64 0), (V.int .i64 0), (V.inl t_byte []), (V.inl t_byte []), (V.int .i64 0)])
def bytes_Equal (a : List V) (b : List V) : Bool :=
 (eqList (a.map normB) (b.map normB))
def impl_Op_same (o : V) (p : V) : Bool :=
 bif (decide ((gi o 0) = (gi p 0))) then
 bif bytes_Equal (gl o 1) (gl p 1) then
 bif bytes_Equal (gl o 2) (gl p 2) then
 (decide ((gi o 3) = (gi p 3)))
 else false
 else false
 else false
def impl_Cmd_same (c : V) (d : V) : Bool :=
 bif (decide ((gi c 0) = (gi d 0))) then
 bif (decide ((gi c 1) = (gi d 1))) then
 (impl_Op_same (V.agg [(V.int .i64 (gi c 2)), (V.inl t_byte (gl c 3)), (V.inl t_byte (gl c 4)), (V.int .i64 (gi c 5))]) (V.agg [(V.int .i64 (gi d 2)), (V.inl t_byte (gl d 3)), (V.inl t_byte (gl d 4)), (V.int .i64 (gi d 5))]))
 else false
 else false
def impl_KeyOk_l2 : Nat → List V → List V → Int → Int → Option (Nat × List V × Bool)
 | 0, _, _, _, _ => none
 | k_ + 1, b0, v5, v6, v7 =>
 bif (decide (v7 < v6)) then
 bif (idxOk v7 v5.length) then
 bif (decide ((gi (rd v5 v7.toNat) 0) < 97)) then
 bif (!(decide ((gi (rd v5 v7.toNat) 0) = 47))) then
 some (0, b0, false)
 else impl_KeyOk_l2 k_ b0 v5 v6 (IntKind.i64.wrap (v7 + 1))
 else bif (decide ((122 : Int) < (gi (rd v5 v7.toNat) 0))) then
 bif (!(decide ((gi (rd v5 v7.toNat) 0) = 47))) then
 some (0, b0, false)
 else impl_KeyOk_l2 k_ b0 v5 v6 (IntKind.i64.wrap (v7 + 1))
 else impl_KeyOk_l2 k_ b0 v5 v6 (IntKind.i64.wrap (v7 + 1))
 else none
 else some (1, b0, false)
def impl_KeyOk (b : List V) : Option (Bool) :=
 Option.bind (impl_KeyOk_l2 ((((b.length : Nat) : Int) - 0).toNat + 1) b b ((b.length : Nat) : Int) 0) fun r362 =>
 bif (Nat.beq r362.1 0) then
 some r362.2.2
 else some (impl_within ((r362.2.1.length : Nat) : Int) 1 20)
def impl_isValue (b : List V) : Bool :=
 (decide (((b.length : Nat) : Int) ≤ 20))
def impl_OpOk (o : V) : Option (Bool) :=
 bif (decide ((gi o 0) = 0)) then
 bif impl_within (gi o 3) 0 0 then
 bif (decide ((((gl o 1).length : Nat) : Int) = 0)) then
 some (decide ((((gl o 2).length : Nat) : Int) = 0))
 else some false
 else some false
 else bif (decide ((gi o 0) = 1)) then
 bif impl_within (gi o 3) 0 0 then
 Option.bind (impl_KeyOk (gl o 1)) fun r363 =>
 bif r363 then
 bif impl_isValue (gl o 2) then
 some true
 else some false
 else some false
 else some false
 else bif (decide ((gi o 0) = 2)) then
 bif impl_within (gi o 3) 0 1000000 then
 Option.bind (impl_KeyOk (gl o 1)) fun r364 =>
 bif r364 then
 bif impl_isValue (gl o 2) then
 some true
 else some false
 else some false
 else some false
 else bif (decide ((gi o 0) = 3)) then
 bif impl_within (gi o 3) 0 0 then
 Option.bind (impl_KeyOk (gl o 1)) fun r365 =>
 bif r365 then
 some (decide ((((gl o 2).length : Nat) : Int) = 0))
 else some false
 else some false
 else bif (decide ((gi o 0) = 4)) then
 bif impl_within (gi o 3) 0 1 then
 bif (decide ((((gl o 1).length : Nat) : Int) = 0)) then
 some (decide ((((gl o 2).length : Nat) : Int) = 0))
 else some false
 else some false
 else bif (decide ((gi o 0) = 5)) then
 bif impl_within (gi o 3) 1 1000000 then
 bif (decide ((((gl o 1).length : Nat) : Int) = 0)) then
 some (decide ((((gl o 2).length : Nat) : Int) = 0))
 else some false
 else some false
 else bif (decide ((gi o 0) = 6)) then
 bif impl_within (gi o 3) 1 1000000 then
 Option.bind (impl_KeyOk (gl o 1)) fun r366 =>
 bif r366 then
 bif impl_isValue (gl o 2) then
 some true
 else some false
 else some false
 else some false
 else bif (decide ((gi o 0) = 7)) then
 bif impl_within (gi o 3) 1 1000000 then
 Option.bind (impl_KeyOk (gl o 1)) fun r367 =>
 bif r367 then
 some (decide ((((gl o 2).length : Nat) : Int) = 0))
 else some false
 else some false
 else some false
def impl_CmdOk (c : V) : Option (Bool) :=
 bif impl_Cmd_same (n_impl_Cmd c) (n_impl_Cmd impl_noOp) then
 some true
 else bif impl_within (gi c 0) 0 3 then
 bif impl_within (gi c 1) 1 1000000 then
 Option.bind (impl_OpOk (V.agg [(V.int .i64 (gi c 2)), (V.inl t_byte (gl c 3)), (V.inl t_byte (gl c 4)), (V.int .i64 (gi c 5))])) fun r368 =>
 some r368
 else some false
 else some false
def impl_ItemOk (x : V) : Option (Bool) :=
 bif impl_isTerm (gi x 0) then
 Option.bind (impl_CmdOk (V.agg [(V.int .i64 (gi x 1)), (V.int .i64 (gi x 2)), (V.int .i64 (gi x 3)), (V.inl t_byte (gl x 4)), (V.inl t_byte (gl x 5)), (V.int .i64 (gi x 6))])) fun r369 =>
 some r369
 else some false
def slices_Index_bool_l2 : Nat → List V → Bool → Int → Int → Option (Nat × Int)
 | 0, _, _, _, _ => none
 | k_ + 1, s0, v1, v7, v8 =>
 bif (decide (v8 < v7)) then
 bif (idxOk v8 s0.length) then
 bif (v1 == (gb (rd s0 v8.toNat) 0)) then
 some (0, v8)
 else slices_Index_bool_l2 k_ s0 v1 v7 (IntKind.i64.wrap (v8 + 1))
 else none
 else some (1, 0)
def slices_Index_bool (s : List V) (v : Bool) : Option (Int) :=
 Option.bind (slices_Index_bool_l2 ((((s.length : Nat) : Int) - 0).toNat + 1) s v ((s.length : Nat) : Int) 0) fun r372 =>
 bif (Nat.beq r372.1 0) then
 some r372.2
 else some (-1)
def slices_Contains_bool (s : List V) (v : Bool) : Option (Bool) :=
 Option.bind (slices_Index_bool s v) fun r373 =>
 some (decide ((0 : Int) ≤ r373))
def impl_NodeOk_l5 : Nat → Int → Int → List V → Int → Int → V → Option (Nat × Int × Bool × V)
 | 0, _, _, _, _, _, _ => none
 | k_ + 1, servers1, term5, v43, v44, v45, b0 =>
 bif (decide (v45 < v44)) then
 bif (idxOk v45 v43.length) then
 Option.bind (impl_ItemOk (n_impl_Item (rd v43 v45.toNat))) fun r370 =>
 bif (!r370) then
 some (0, servers1, false, (n_impl_Node b0))
 else bif (!(impl_within (gi (rd v43 v45.toNat) 0) term5 (gi b0 1))) then
 some (0, servers1, false, (n_impl_Node b0))
 else impl_NodeOk_l5 k_ servers1 (gi (rd v43 v45.toNat) 0) v43 v44 (IntKind.i64.wrap (v45 + 1)) (n_impl_Node b0)
 else none
 else some (1, servers1, false, (n_impl_Node b0))
def impl_NodeOk_l16 : Nat → Int → Int → V → Option (Nat × Bool)
 | 0, _, _, _ => none
 | k_ + 1, v141, v142, b0 =>
 bif (decide (v142 < v141)) then
 bif (decide ((gi b0 5) = 2)) then
 bif (idxOk v142 ((gl b0 9).length)) then
 bif (!(impl_within (gi (rd (gl b0 9) v142.toNat) 0) 1 (IntKind.i64.wrap ((((gl b0 3).length : Nat) : Int) + 1)))) then
 some (0, false)
 else bif (idxOk v142 ((gl b0 10).length)) then
 bif (!(impl_within (gi (rd (gl b0 10) v142.toNat) 0) 0 (((gl b0 3).length : Nat) : Int))) then
 some (0, false)
 else bif (!(decide ((gi b0 5) = 2))) then
 bif (idxOk v142 ((gl b0 9).length)) then
 bif (!(decide ((gi (rd (gl b0 9) v142.toNat) 0) = 0))) then
 some (0, false)
 else bif (idxOk v142 ((gl b0 10).length)) then
 bif (!(decide ((gi (rd (gl b0 10) v142.toNat) 0) = 0))) then
 some (0, false)
 else impl_NodeOk_l16 k_ v141 (IntKind.i64.wrap (v142 + 1)) (n_impl_Node b0)
 else none
 else none
 else impl_NodeOk_l16 k_ v141 (IntKind.i64.wrap (v142 + 1)) (n_impl_Node b0)
 else none
 else none
 else bif (!(decide ((gi b0 5) = 2))) then
 bif (idxOk v142 ((gl b0 9).length)) then
 bif (!(decide ((gi (rd (gl b0 9) v142.toNat) 0) = 0))) then
 some (0, false)
 else bif (idxOk v142 ((gl b0 10).length)) then
 bif (!(decide ((gi (rd (gl b0 10) v142.toNat) 0) = 0))) then
 some (0, false)
 else impl_NodeOk_l16 k_ v141 (IntKind.i64.wrap (v142 + 1)) (n_impl_Node b0)
 else none
 else none
 else impl_NodeOk_l16 k_ v141 (IntKind.i64.wrap (v142 + 1)) (n_impl_Node b0)
 else some (1, false)
def impl_NodeOk (n : V) (servers : Int) : Option (Bool) :=
 bif (!(impl_isServer (gi n 0) servers)) then
 some false
 else bif (!(impl_within (gi n 1) 0 100000)) then
 some false
 else bif (!(impl_within (gi n 2) (-1) (IntKind.i64.wrap (servers - 1)))) then
 some false
 else bif (!(impl_within (gi n 6) (-1) (IntKind.i64.wrap (servers - 1)))) then
 some false
 else bif (decide ((400 : Int) < (((gl n 3).length : Nat) : Int))) then
 some false
 else Option.bind (impl_NodeOk_l5 (((((gl n 3).length : Nat) : Int) - 0).toNat + 1) servers 1 (gl n 3) (((gl n 3).length : Nat) : Int) 0 (n_impl_Node n)) fun r371 =>
 bif (Nat.beq r371.1 0) then
 some r371.2.2.1
 else bif (!(impl_within (gi r371.2.2.2 4) 0 (((gl r371.2.2.2 3).length : Nat) : Int))) then
 some false
 else bif (!(impl_within (gi r371.2.2.2 5) 0 2)) then
 some false
 else bif (!(impl_within (gi r371.2.2.2 7) 0 20)) then
 some false
 else bif (!(decide ((((gl r371.2.2.2 8).length : Nat) : Int) = r371.2.1))) then
 some false
 else bif (!(decide ((((gl r371.2.2.2 9).length : Nat) : Int) = r371.2.1))) then
 some false
 else bif (!(decide ((((gl r371.2.2.2 10).length : Nat) : Int) = r371.2.1))) then
 some false
 else bif (decide ((gi r371.2.2.2 5) = 0)) then
 Option.bind (slices_Contains_bool (gl r371.2.2.2 8) true) fun r374 =>
 bif r374 then
 some false
 else bif (!(decide ((gi r371.2.2.2 5) = 0))) then
 bif (decide ((gi r371.2.2.2 1) < 1)) then
 some false
 else bif (!(decide ((gi r371.2.2.2 2) = (gi r371.2.2.2 0)))) then
 some false
 else bif (decide ((gi r371.2.2.2 5) = 2)) then
 bif (!(decide ((gi r371.2.2.2 6) = (gi r371.2.2.2 0)))) then
 some false
 else Option.bind (impl_NodeOk_l16 ((r371.2.1 - 0).toNat + 1) r371.2.1 0 (n_impl_Node r371.2.2.2)) fun r375 =>
 bif (Nat.beq r375.1 0) then
 some r375.2
 else some true
 else Option.bind (impl_NodeOk_l16 ((r371.2.1 - 0).toNat + 1) r371.2.1 0 (n_impl_Node r371.2.2.2)) fun r376 =>
 bif (Nat.beq r376.1 0) then
 some r376.2
 else some true
 else bif (decide ((gi r371.2.2.2 5) = 2)) then
 bif (!(decide ((gi r371.2.2.2 6) = (gi r371.2.2.2 0)))) then
 some false
 else Option.bind (impl_NodeOk_l16 ((r371.2.1 - 0).toNat + 1) r371.2.1 0 (n_impl_Node r371.2.2.2)) fun r377 =>
 bif (Nat.beq r377.1 0) then
 some r377.2
 else some true
 else Option.bind (impl_NodeOk_l16 ((r371.2.1 - 0).toNat + 1) r371.2.1 0 (n_impl_Node r371.2.2.2)) fun r378 =>
 bif (Nat.beq r378.1 0) then
 some r378.2
 else some true
 else bif (!(decide ((gi r371.2.2.2 5) = 0))) then
 bif (decide ((gi r371.2.2.2 1) < 1)) then
 some false
 else bif (!(decide ((gi r371.2.2.2 2) = (gi r371.2.2.2 0)))) then
 some false
 else bif (decide ((gi r371.2.2.2 5) = 2)) then
 bif (!(decide ((gi r371.2.2.2 6) = (gi r371.2.2.2 0)))) then
 some false
 else Option.bind (impl_NodeOk_l16 ((r371.2.1 - 0).toNat + 1) r371.2.1 0 (n_impl_Node r371.2.2.2)) fun r379 =>
 bif (Nat.beq r379.1 0) then
 some r379.2
 else some true
 else Option.bind (impl_NodeOk_l16 ((r371.2.1 - 0).toNat + 1) r371.2.1 0 (n_impl_Node r371.2.2.2)) fun r380 =>
 bif (Nat.beq r380.1 0) then
 some r380.2
 else some true
 else bif (decide ((gi r371.2.2.2 5) = 2)) then
 bif (!(decide ((gi r371.2.2.2 6) = (gi r371.2.2.2 0)))) then
 some false
 else Option.bind (impl_NodeOk_l16 ((r371.2.1 - 0).toNat + 1) r371.2.1 0 (n_impl_Node r371.2.2.2)) fun r381 =>
 bif (Nat.beq r381.1 0) then
 some r381.2
 else some true
 else Option.bind (impl_NodeOk_l16 ((r371.2.1 - 0).toNat + 1) r371.2.1 0 (n_impl_Node r371.2.2.2)) fun r382 =>
 bif (Nat.beq r382.1 0) then
 some r382.2
 else some true
def impl_MsgOk_l11 : Nat → Int → List V → Int → Int → V → Option (Nat × Bool × V)
 | 0, _, _, _, _, _ => none
 | k_ + 1, term3, v109, v110, v111, b0 =>
 bif (decide (v111 < v110)) then
 bif (idxOk v111 v109.length) then
 Option.bind (impl_ItemOk (n_impl_Item (rd v109 v111.toNat))) fun r384 =>
 bif (!r384) then
 some (0, false, (n_impl_Msg b0))
 else bif (!(impl_within (gi (rd v109 v111.toNat) 0) term3 (gi b0 3))) then
 some (0, false, (n_impl_Msg b0))
 else impl_MsgOk_l11 k_ (gi (rd v109 v111.toNat) 0) v109 v110 (IntKind.i64.wrap (v111 + 1)) (n_impl_Msg b0)
 else none
 else some (1, false, (n_impl_Msg b0))
def impl_MsgOk (m : V) : Option (Bool) :=
 bif (!(impl_within (gi m 0) 0 3)) then
 some false
 else bif (!(impl_within (gi m 1) 0 4)) then
 some false
 else bif (!(impl_within (gi m 2) 0 4)) then
 some false
 else bif (decide ((gi m 1) = (gi m 2))) then
 some false
 else bif (!(impl_isTerm (gi m 3))) then
 some false
 else bif (!(decide ((gi m 0) = 2))) then
 bif (decide ((0 : Int) < (((gl m 6).length : Nat) : Int))) then
 some false
 else bif (!(decide ((gi m 7) = 0))) then
 some false
 else bif (decide ((gi m 0) = 1)) then
 bif (!(decide ((gi m 4) = 0))) then
 some false
 else bif (decide ((gi m 0) = 1)) then
 bif (decide ((gi m 5) = 0)) then
 some (impl_within (gi m 4) 0 400)
 else some false
 else bif (decide ((gi m 0) = 3)) then
 bif (decide ((gi m 5) = 0)) then
 some (impl_within (gi m 4) 0 400)
 else some false
 else bif (gb m 8) then
 some false
 else bif (!(impl_within (gi m 4) 0 400)) then
 some false
 else bif (decide ((gi m 4) = 0)) then
 bif (!(decide ((gi m 5) = 0))) then
 some false
 else bif (decide ((0 : Int) < (gi m 4))) then
 bif (!(impl_within (gi m 5) 1 (gi m 3))) then
 some false
 else Option.bind (impl_MsgOk_l11 (((((gl m 6).length : Nat) : Int) - 0).toNat + 1) (gi m 5) (gl m 6) (((gl m 6).length : Nat) : Int) 0 (n_impl_Msg m)) fun r385 =>
 bif (Nat.beq r385.1 0) then
 some r385.2.1
 else bif (decide ((((gl r385.2.2 6).length : Nat) : Int) ≤ 4)) then
 bif (decide ((((gl r385.2.2 6).length : Nat) : Int) ≤ (IntKind.i64.wrap (400 - (gi r385.2.2 4))))) then
 some (impl_within (gi r385.2.2 7) 0 400)
 else some false
 else some false
 else Option.bind (impl_MsgOk_l11 (((((gl m 6).length : Nat) : Int) - 0).toNat + 1) (gi m 5) (gl m 6) (((gl m 6).length : Nat) : Int) 0 (n_impl_Msg m)) fun r386 =>
 bif (Nat.beq r386.1 0) then
 some r386.2.1
 else bif (decide ((((gl r386.2.2 6).length : Nat) : Int) ≤ 4)) then
 bif (decide ((((gl r386.2.2 6).length : Nat) : Int) ≤ (IntKind.i64.wrap (400 - (gi r386.2.2 4))))) then
 some (impl_within (gi r386.2.2 7) 0 400)
 else some false
 else some false
 else bif (decide ((0 : Int) < (gi m 4))) then
 bif (!(impl_within (gi m 5) 1 (gi m 3))) then
 some false
 else Option.bind (impl_MsgOk_l11 (((((gl m 6).length : Nat) : Int) - 0).toNat + 1) (gi m 5) (gl m 6) (((gl m 6).length : Nat) : Int) 0 (n_impl_Msg m)) fun r387 =>
 bif (Nat.beq r387.1 0) then
 some r387.2.1
 else bif (decide ((((gl r387.2.2 6).length : Nat) : Int) ≤ 4)) then
 bif (decide ((((gl r387.2.2 6).length : Nat) : Int) ≤ (IntKind.i64.wrap (400 - (gi r387.2.2 4))))) then
 some (impl_within (gi r387.2.2 7) 0 400)
 else some false
 else some false
 else Option.bind (impl_MsgOk_l11 (((((gl m 6).length : Nat) : Int) - 0).toNat + 1) (gi m 5) (gl m 6) (((gl m 6).length : Nat) : Int) 0 (n_impl_Msg m)) fun r388 =>
 bif (Nat.beq r388.1 0) then
 some r388.2.1
 else bif (decide ((((gl r388.2.2 6).length : Nat) : Int) ≤ 4)) then
 bif (decide ((((gl r388.2.2 6).length : Nat) : Int) ≤ (IntKind.i64.wrap (400 - (gi r388.2.2 4))))) then
 some (impl_within (gi r388.2.2 7) 0 400)
 else some false
 else some false
 else bif (decide ((gi m 0) = 1)) then
 bif (decide ((gi m 5) = 0)) then
 some (impl_within (gi m 4) 0 400)
 else some false
 else bif (decide ((gi m 0) = 3)) then
 bif (decide ((gi m 5) = 0)) then
 some (impl_within (gi m 4) 0 400)
 else some false
 else bif (gb m 8) then
 some false
 else bif (!(impl_within (gi m 4) 0 400)) then
 some false
 else bif (decide ((gi m 4) = 0)) then
 bif (!(decide ((gi m 5) = 0))) then
 some false
 else bif (decide ((0 : Int) < (gi m 4))) then
 bif (!(impl_within (gi m 5) 1 (gi m 3))) then
 some false
 else Option.bind (impl_MsgOk_l11 (((((gl m 6).length : Nat) : Int) - 0).toNat + 1) (gi m 5) (gl m 6) (((gl m 6).length : Nat) : Int) 0 (n_impl_Msg m)) fun r389 =>
 bif (Nat.beq r389.1 0) then
 some r389.2.1
 else bif (decide ((((gl r389.2.2 6).length : Nat) : Int) ≤ 4)) then
 bif (decide ((((gl r389.2.2 6).length : Nat) : Int) ≤ (IntKind.i64.wrap (400 - (gi r389.2.2 4))))) then
 some (impl_within (gi r389.2.2 7) 0 400)
 else some false
 else some false
 else Option.bind (impl_MsgOk_l11 (((((gl m 6).length : Nat) : Int) - 0).toNat + 1) (gi m 5) (gl m 6) (((gl m 6).length : Nat) : Int) 0 (n_impl_Msg m)) fun r390 =>
 bif (Nat.beq r390.1 0) then
 some r390.2.1
 else bif (decide ((((gl r390.2.2 6).length : Nat) : Int) ≤ 4)) then
 bif (decide ((((gl r390.2.2 6).length : Nat) : Int) ≤ (IntKind.i64.wrap (400 - (gi r390.2.2 4))))) then
 some (impl_within (gi r390.2.2 7) 0 400)
 else some false
 else some false
 else bif (decide ((0 : Int) < (gi m 4))) then
 bif (!(impl_within (gi m 5) 1 (gi m 3))) then
 some false
 else Option.bind (impl_MsgOk_l11 (((((gl m 6).length : Nat) : Int) - 0).toNat + 1) (gi m 5) (gl m 6) (((gl m 6).length : Nat) : Int) 0 (n_impl_Msg m)) fun r391 =>
 bif (Nat.beq r391.1 0) then
 some r391.2.1
 else bif (decide ((((gl r391.2.2 6).length : Nat) : Int) ≤ 4)) then
 bif (decide ((((gl r391.2.2 6).length : Nat) : Int) ≤ (IntKind.i64.wrap (400 - (gi r391.2.2 4))))) then
 some (impl_within (gi r391.2.2 7) 0 400)
 else some false
 else some false
 else Option.bind (impl_MsgOk_l11 (((((gl m 6).length : Nat) : Int) - 0).toNat + 1) (gi m 5) (gl m 6) (((gl m 6).length : Nat) : Int) 0 (n_impl_Msg m)) fun r392 =>
 bif (Nat.beq r392.1 0) then
 some r392.2.1
 else bif (decide ((((gl r392.2.2 6).length : Nat) : Int) ≤ 4)) then
 bif (decide ((((gl r392.2.2 6).length : Nat) : Int) ≤ (IntKind.i64.wrap (400 - (gi r392.2.2 4))))) then
 some (impl_within (gi r392.2.2 7) 0 400)
 else some false
 else some false
 else bif (decide ((gi m 0) = 1)) then
 bif (!(decide ((gi m 4) = 0))) then
 some false
 else bif (decide ((gi m 0) = 1)) then
 bif (decide ((gi m 5) = 0)) then
 some (impl_within (gi m 4) 0 400)
 else some false
 else bif (decide ((gi m 0) = 3)) then
 bif (decide ((gi m 5) = 0)) then
 some (impl_within (gi m 4) 0 400)
 else some false
 else bif (gb m 8) then
 some false
 else bif (!(impl_within (gi m 4) 0 400)) then
 some false
 else bif (decide ((gi m 4) = 0)) then
 bif (!(decide ((gi m 5) = 0))) then
 some false
 else bif (decide ((0 : Int) < (gi m 4))) then
 bif (!(impl_within (gi m 5) 1 (gi m 3))) then
 some false
 else Option.bind (impl_MsgOk_l11 (((((gl m 6).length : Nat) : Int) - 0).toNat + 1) (gi m 5) (gl m 6) (((gl m 6).length : Nat) : Int) 0 (n_impl_Msg m)) fun r393 =>
 bif (Nat.beq r393.1 0) then
 some r393.2.1
 else bif (decide ((((gl r393.2.2 6).length : Nat) : Int) ≤ 4)) then
 bif (decide ((((gl r393.2.2 6).length : Nat) : Int) ≤ (IntKind.i64.wrap (400 - (gi r393.2.2 4))))) then
 some (impl_within (gi r393.2.2 7) 0 400)
 else some false
 else some false
 else Option.bind (impl_MsgOk_l11 (((((gl m 6).length : Nat) : Int) - 0).toNat + 1) (gi m 5) (gl m 6) (((gl m 6).length : Nat) : Int) 0 (n_impl_Msg m)) fun r394 =>
 bif (Nat.beq r394.1 0) then
 some r394.2.1
 else bif (decide ((((gl r394.2.2 6).length : Nat) : Int) ≤ 4)) then
 bif (decide ((((gl r394.2.2 6).length : Nat) : Int) ≤ (IntKind.i64.wrap (400 - (gi r394.2.2 4))))) then
 some (impl_within (gi r394.2.2 7) 0 400)
 else some false
 else some false
 else bif (decide ((0 : Int) < (gi m 4))) then
 bif (!(impl_within (gi m 5) 1 (gi m 3))) then
 some false
 else Option.bind (impl_MsgOk_l11 (((((gl m 6).length : Nat) : Int) - 0).toNat + 1) (gi m 5) (gl m 6) (((gl m 6).length : Nat) : Int) 0 (n_impl_Msg m)) fun r395 =>
 bif (Nat.beq r395.1 0) then
 some r395.2.1
 else bif (decide ((((gl r395.2.2 6).length : Nat) : Int) ≤ 4)) then
 bif (decide ((((gl r395.2.2 6).length : Nat) : Int) ≤ (IntKind.i64.wrap (400 - (gi r395.2.2 4))))) then
 some (impl_within (gi r395.2.2 7) 0 400)
 else some false
 else some false
 else Option.bind (impl_MsgOk_l11 (((((gl m 6).length : Nat) : Int) - 0).toNat + 1) (gi m 5) (gl m 6) (((gl m 6).length : Nat) : Int) 0 (n_impl_Msg m)) fun r396 =>
 bif (Nat.beq r396.1 0) then
 some r396.2.1
 else bif (decide ((((gl r396.2.2 6).length : Nat) : Int) ≤ 4)) then
 bif (decide ((((gl r396.2.2 6).length : Nat) : Int) ≤ (IntKind.i64.wrap (400 - (gi r396.2.2 4))))) then
 some (impl_within (gi r396.2.2 7) 0 400)
 else some false
 else some false
 else bif (decide ((gi m 0) = 1)) then
 bif (decide ((gi m 5) = 0)) then
 some (impl_within (gi m 4) 0 400)
 else some false
 else bif (decide ((gi m 0) = 3)) then
 bif (decide ((gi m 5) = 0)) then
 some (impl_within (gi m 4) 0 400)
 else some false
 else bif (gb m 8) then
 some false
 else bif (!(impl_within (gi m 4) 0 400)) then
 some false
 else bif (decide ((gi m 4) = 0)) then
 bif (!(decide ((gi m 5) = 0))) then
 some false
 else bif (decide ((0 : Int) < (gi m 4))) then
 bif (!(impl_within (gi m 5) 1 (gi m 3))) then
 some false
 else Option.bind (impl_MsgOk_l11 (((((gl m 6).length : Nat) : Int) - 0).toNat + 1) (gi m 5) (gl m 6) (((gl m 6).length : Nat) : Int) 0 (n_impl_Msg m)) fun r397 =>
 bif (Nat.beq r397.1 0) then
 some r397.2.1
 else bif (decide ((((gl r397.2.2 6).length : Nat) : Int) ≤ 4)) then
 bif (decide ((((gl r397.2.2 6).length : Nat) : Int) ≤ (IntKind.i64.wrap (400 - (gi r397.2.2 4))))) then
 some (impl_within (gi r397.2.2 7) 0 400)
 else some false
 else some false
 else Option.bind (impl_MsgOk_l11 (((((gl m 6).length : Nat) : Int) - 0).toNat + 1) (gi m 5) (gl m 6) (((gl m 6).length : Nat) : Int) 0 (n_impl_Msg m)) fun r398 =>
 bif (Nat.beq r398.1 0) then
 some r398.2.1
 else bif (decide ((((gl r398.2.2 6).length : Nat) : Int) ≤ 4)) then
 bif (decide ((((gl r398.2.2 6).length : Nat) : Int) ≤ (IntKind.i64.wrap (400 - (gi r398.2.2 4))))) then
 some (impl_within (gi r398.2.2 7) 0 400)
 else some false
 else some false
 else bif (decide ((0 : Int) < (gi m 4))) then
 bif (!(impl_within (gi m 5) 1 (gi m 3))) then
 some false
 else Option.bind (impl_MsgOk_l11 (((((gl m 6).length : Nat) : Int) - 0).toNat + 1) (gi m 5) (gl m 6) (((gl m 6).length : Nat) : Int) 0 (n_impl_Msg m)) fun r399 =>
 bif (Nat.beq r399.1 0) then
 some r399.2.1
 else bif (decide ((((gl r399.2.2 6).length : Nat) : Int) ≤ 4)) then
 bif (decide ((((gl r399.2.2 6).length : Nat) : Int) ≤ (IntKind.i64.wrap (400 - (gi r399.2.2 4))))) then
 some (impl_within (gi r399.2.2 7) 0 400)
 else some false
 else some false
 else Option.bind (impl_MsgOk_l11 (((((gl m 6).length : Nat) : Int) - 0).toNat + 1) (gi m 5) (gl m 6) (((gl m 6).length : Nat) : Int) 0 (n_impl_Msg m)) fun r400 =>
 bif (Nat.beq r400.1 0) then
 some r400.2.1
 else bif (decide ((((gl r400.2.2 6).length : Nat) : Int) ≤ 4)) then
 bif (decide ((((gl r400.2.2 6).length : Nat) : Int) ≤ (IntKind.i64.wrap (400 - (gi r400.2.2 4))))) then
 some (impl_within (gi r400.2.2 7) 0 400)
 else some false
 else some false
def slices_Clone_byte (s : List V) : Option (List V) :=
 bif ((roomy (0 + s.length) 1) && true) then
 some s
 else none
def impl_Op_own (o : V) : Option (V) :=
 Option.bind (slices_Clone_byte (gl o 1)) fun r402 =>
 Option.bind (slices_Clone_byte (gl o 2)) fun r403 =>
 some (V.agg [(V.int .i64 (gi o 0)), (V.inl t_byte r402), (V.inl t_byte r403), (V.int .i64 (gi o 3))])
def impl_Cmd_own (c : V) : Option (V) :=
 Option.bind (impl_Op_own (V.agg [(V.int .i64 (gi c 2)), (V.inl t_byte (gl c 3)), (V.inl t_byte (gl c 4)), (V.int .i64 (gi c 5))])) fun r404 =>
 some (V.agg [(V.int .i64 (gi c 0)), (V.int .i64 (gi c 1)), (V.int .i64 (gi r404 0)), (V.inl t_byte (gl r404 1)), (V.inl t_byte (gl r404 2)), (V.int .i64 (gi r404 3))])
def impl_ownItems_l3 : Nat → List V → Int → Int → List V → Option (List V)
 | 0, _, _, _, _ => none
 | k_ + 1, v6, v7, v8, r0 =>
 bif (decide (v8 < v7)) then
 bif (idxOk v8 v6.length) then
 Option.bind (impl_Cmd_own (V.agg [(V.int .i64 (gi (rd v6 v8.toNat) 1)), (V.int .i64 (gi (rd v6 v8.toNat) 2)), (V.int .i64 (gi (rd v6 v8.toNat) 3)), (V.inl t_byte (gl (rd v6 v8.toNat) 4)), (V.inl t_byte (gl (rd v6 v8.toNat) 5)), (V.int .i64 (gi (rd v6 v8.toNat) 6))])) fun r405 =>
 bif ((roomy (r0.length + 1) 88) && true) then
 impl_ownItems_l3 k_ v6 v7 (IntKind.i64.wrap (v8 + 1)) (r0 ++ [(V.agg [(V.int .i64 (gi (rd v6 v8.toNat) 0)), (V.int .i64 (gi r405 0)), (V.int .i64 (gi r405 1)), (V.int .i64 (gi r405 2)), (V.inl t_byte (gl r405 3)), (V.inl t_byte (gl r405 4)), (V.int .i64 (gi r405 5))])])
 else none
 else none
 else some r0
def impl_ownItems (list : List V) : Option (List V) :=
 Option.bind (impl_ownItems_l3 ((((list.length : Nat) : Int) - 0).toNat + 1) list ((list.length : Nat) : Int) 0 []) fun r406 =>
 some r406
def slices_Clone_bool (s : List V) : Option (List V) :=
 bif ((roomy (0 + s.length) 1) && true) then
 some s
 else none
def slices_Clone_int (s : List V) : Option (List V) :=
 bif ((roomy (0 + s.length) 8) && true) then
 some s
 else none
def impl_Node_own (n : V) : Option (V) :=
 Option.bind (impl_ownItems (gl n 3)) fun r407 =>
 Option.bind (slices_Clone_bool (gl n 8)) fun r408 =>
 Option.bind (slices_Clone_int (gl n 9)) fun r409 =>
 Option.bind (slices_Clone_int (gl n 10)) fun r410 =>
 some (V.agg [(V.int .i64 (gi n 0)), (V.int .i64 (gi n 1)), (V.int .i64 (gi n 2)), (V.inl t_impl_Item r407), (V.int .i64 (gi n 4)), (V.int .i64 (gi n 5)), (V.int .i64 (gi n 6)), (V.int .i64 (gi n 7)), (V.inl t_bool r408), (V.inl t_int' r409), (V.inl t_int' r410)])
def impl_server_follow (s : V) (term_ : Int) : V :=
 bif (decide ((gi s 1) < term_)) then
 (V.agg [(V.int .i64 (gi s 0)), (V.int .i64 term_), (V.int .i64 (-1)), (V.inl t_impl_Item (gl s 3)), (V.int .i64 (gi s 4)), (V.int .i64 0), (V.int .i64 (-1)), (V.int .i64 (gi s 7)), (V.inl t_bool ((List.replicate ((gl s 8).length) (V.bool false)) ++ ((gl s 8).drop (0 + ((gl s 8).length))))), (V.inl t_int' ((List.replicate ((gl s 9).length) (V.int .i64 0)) ++ ((gl s 9).drop (0 + ((gl s 9).length))))), (V.inl t_int' ((List.replicate ((gl s 10).length) (V.int .i64 0)) ++ ((gl s 10).drop (0 + ((gl s 10).length))))), (V.inl t_impl_Msg (gl s 11))])
 else (V.agg [(V.int .i64 (gi s 0)), (V.int .i64 (gi s 1)), (V.int .i64 (gi s 2)), (V.inl t_impl_Item (gl s 3)), (V.int .i64 (gi s 4)), (V.int .i64 0), (V.int .i64 (gi s 6)), (V.int .i64 (gi s 7)), (V.inl t_bool ((List.replicate ((gl s 8).length) (V.bool false)) ++ ((gl s 8).drop (0 + ((gl s 8).length))))), (V.inl t_int' ((List.replicate ((gl s 9).length) (V.int .i64 0)) ++ ((gl s 9).drop (0 + ((gl s 9).length))))), (V.inl t_int' ((List.replicate ((gl s 10).length) (V.int .i64 0)) ++ ((gl s 10).drop (0 + ((gl s 10).length))))), (V.inl t_impl_Msg (gl s 11))])
def impl_Node_termAt (n : V) (place : Int) : Option (Int) :=
 bif (!(impl_within place 1 (((gl n 3).length : Nat) : Int))) then
 some 0
 else bif (idxOk (IntKind.i64.wrap (place - 1)) ((gl n 3).length)) then
 some (gi (rd (gl n 3) ((IntKind.i64.wrap (place - 1)).toNat)) 0)
 else none
def impl_Node_lastTerm (n : V) : Option (Int) :=
 Option.bind (impl_Node_termAt (n_impl_Node n) (((gl n 3).length : Nat) : Int)) fun r412 =>
 some r412
def impl_Node_newer (n : V) (place : Int) (term_ : Int) : Option (Bool) :=
 Option.bind (impl_Node_lastTerm (n_impl_Node n)) fun r413 =>
 bif (decide (r413 < term_)) then
 some true
 else Option.bind (impl_Node_lastTerm (n_impl_Node n)) fun r414 =>
 bif (decide (term_ = r414)) then
 some (decide ((((gl n 3).length : Nat) : Int) ≤ place))
 else some false
def impl_Node_most (n : V) (count : Int) : Bool :=
 (decide ((((gl n 8).length : Nat) : Int) < (IntKind.i64.wrap (2 * count))))
def impl_server_advance_l6 : Nat → Int → Int → Int → Int → V → List V → List V → List V → List V → List V → Option (Int × Int × V × List V × List V × List V × List V × List V)
 | 0, _, _, _, _, _, _, _, _, _, _ => none
 | k_ + 1, place2, count3, v61, v62, b0, r1, r2, r3, r4, r5 =>
 bif (decide (v62 < v61)) then
 bif (idxOk v62 r1.length) then
 bif (decide (place2 ≤ (gi (rd r1 (0 + v62.toNat)) 0))) then
 impl_server_advance_l6 k_ place2 (IntKind.i64.wrap (count3 + 1)) v61 (IntKind.i64.wrap (v62 + 1)) (V.agg [(V.int .i64 (gi b0 0)), (V.int .i64 (gi b0 1)), (V.int .i64 (gi b0 2)), (V.sl 2 t_impl_Item 0 none), (V.int .i64 (gi b0 4)), (V.int .i64 (gi b0 5)), (V.int .i64 (gi b0 6)), (V.int .i64 (gi b0 7)), (V.sl 3 t_bool 0 none), (V.sl 4 t_int' 0 none), (V.sl 1 t_int' 0 none), (V.sl 5 t_impl_Msg 0 none)]) r1 r2 r3 r4 r5
 else impl_server_advance_l6 k_ place2 count3 v61 (IntKind.i64.wrap (v62 + 1)) (V.agg [(V.int .i64 (gi b0 0)), (V.int .i64 (gi b0 1)), (V.int .i64 (gi b0 2)), (V.sl 2 t_impl_Item 0 none), (V.int .i64 (gi b0 4)), (V.int .i64 (gi b0 5)), (V.int .i64 (gi b0 6)), (V.int .i64 (gi b0 7)), (V.sl 3 t_bool 0 none), (V.sl 4 t_int' 0 none), (V.sl 1 t_int' 0 none), (V.sl 5 t_impl_Msg 0 none)]) r1 r2 r3 r4 r5
 else none
 else some (place2, count3, (V.agg [(V.int .i64 (gi b0 0)), (V.int .i64 (gi b0 1)), (V.int .i64 (gi b0 2)), (V.sl 1 t_impl_Item 0 none), (V.int .i64 (gi b0 4)), (V.int .i64 (gi b0 5)), (V.int .i64 (gi b0 6)), (V.int .i64 (gi b0 7)), (V.sl 2 t_bool 0 none), (V.sl 3 t_int' 0 none), (V.sl 4 t_int' 0 none), (V.sl 5 t_impl_Msg 0 none)]), r2, r3, r4, r1, r5)
def impl_server_advance_l2 : Nat → Int → V → List V → List V → List V → List V → List V → Option (Nat × V × List V × List V × List V × List V × List V)
 | 0, _, _, _, _, _, _, _ => none
 | k_ + 1, place2, b0, r1, r2, r3, r4, r5 =>
 bif (decide ((gi b0 4) < place2)) then
 Option.bind (impl_server_advance_l6 ((((r4.length : Nat) : Int) - 0).toNat + 1) place2 0 ((r4.length : Nat) : Int) 0 (V.agg [(V.int .i64 (gi b0 0)), (V.int .i64 (gi b0 1)), (V.int .i64 (gi b0 2)), (V.sl 2 t_impl_Item 0 none), (V.int .i64 (gi b0 4)), (V.int .i64 (gi b0 5)), (V.int .i64 (gi b0 6)), (V.int .i64 (gi b0 7)), (V.sl 3 t_bool 0 none), (V.sl 4 t_int' 0 none), (V.sl 1 t_int' 0 none), (V.sl 5 t_impl_Msg 0 none)]) r4 r1 r2 r3 r5) fun r419 =>
 Option.bind (impl_Node_termAt (V.agg [(V.int .i64 (gi r419.2.2.1 0)), (V.int .i64 (gi r419.2.2.1 1)), (V.int .i64 (gi r419.2.2.1 2)), (V.inl t_impl_Item r419.2.2.2.1), (V.int .i64 (gi r419.2.2.1 4)), (V.int .i64 (gi r419.2.2.1 5)), (V.int .i64 (gi r419.2.2.1 6)), (V.int .i64 (gi r419.2.2.1 7)), (V.inl t_bool r419.2.2.2.2.1), (V.inl t_int' r419.2.2.2.2.2.1), (V.inl t_int' r419.2.2.2.2.2.2.1)]) r419.1) fun r420 =>
 bif (decide (r420 = (gi r419.2.2.1 1))) then
 bif impl_Node_most (V.agg [(V.int .i64 (gi r419.2.2.1 0)), (V.int .i64 (gi r419.2.2.1 1)), (V.int .i64 (gi r419.2.2.1 2)), (V.inl t_impl_Item r419.2.2.2.1), (V.int .i64 (gi r419.2.2.1 4)), (V.int .i64 (gi r419.2.2.1 5)), (V.int .i64 (gi r419.2.2.1 6)), (V.int .i64 (gi r419.2.2.1 7)), (V.inl t_bool r419.2.2.2.2.1), (V.inl t_int' r419.2.2.2.2.2.1), (V.inl t_int' r419.2.2.2.2.2.2.1)]) r419.2.1 then
 some (0, (V.agg [(V.int .i64 (gi r419.2.2.1 0)), (V.int .i64 (gi r419.2.2.1 1)), (V.int .i64 (gi r419.2.2.1 2)), (V.sl 1 t_impl_Item 0 none), (V.int .i64 r419.1), (V.int .i64 (gi r419.2.2.1 5)), (V.int .i64 (gi r419.2.2.1 6)), (V.int .i64 (gi r419.2.2.1 7)), (V.sl 2 t_bool 0 none), (V.sl 3 t_int' 0 none), (V.sl 4 t_int' 0 none), (V.sl 5 t_impl_Msg 0 none)]), r419.2.2.2.1, r419.2.2.2.2.1, r419.2.2.2.2.2.1, r419.2.2.2.2.2.2.1, r419.2.2.2.2.2.2.2)
 else impl_server_advance_l2 k_ (IntKind.i64.wrap (r419.1 - 1)) (V.agg [(V.int .i64 (gi r419.2.2.1 0)), (V.int .i64 (gi r419.2.2.1 1)), (V.int .i64 (gi r419.2.2.1 2)), (V.sl 1 t_impl_Item 0 none), (V.int .i64 (gi r419.2.2.1 4)), (V.int .i64 (gi r419.2.2.1 5)), (V.int .i64 (gi r419.2.2.1 6)), (V.int .i64 (gi r419.2.2.1 7)), (V.sl 2 t_bool 0 none), (V.sl 3 t_int' 0 none), (V.sl 4 t_int' 0 none), (V.sl 5 t_impl_Msg 0 none)]) r419.2.2.2.1 r419.2.2.2.2.1 r419.2.2.2.2.2.1 r419.2.2.2.2.2.2.1 r419.2.2.2.2.2.2.2
 else impl_server_advance_l2 k_ (IntKind.i64.wrap (r419.1 - 1)) (V.agg [(V.int .i64 (gi r419.2.2.1 0)), (V.int .i64 (gi r419.2.2.1 1)), (V.int .i64 (gi r419.2.2.1 2)), (V.sl 1 t_impl_Item 0 none), (V.int .i64 (gi r419.2.2.1 4)), (V.int .i64 (gi r419.2.2.1 5)), (V.int .i64 (gi r419.2.2.1 6)), (V.int .i64 (gi r419.2.2.1 7)), (V.sl 2 t_bool 0 none), (V.sl 3 t_int' 0 none), (V.sl 4 t_int' 0 none), (V.sl 5 t_impl_Msg 0 none)]) r419.2.2.2.1 r419.2.2.2.2.1 r419.2.2.2.2.2.1 r419.2.2.2.2.2.2.1 r419.2.2.2.2.2.2.2
 else some (1, (V.agg [(V.int .i64 (gi b0 0)), (V.int .i64 (gi b0 1)), (V.int .i64 (gi b0 2)), (V.sl 1 t_impl_Item 0 none), (V.int .i64 (gi b0 4)), (V.int .i64 (gi b0 5)), (V.int .i64 (gi b0 6)), (V.int .i64 (gi b0 7)), (V.sl 2 t_bool 0 none), (V.sl 3 t_int' 0 none), (V.sl 4 t_int' 0 none), (V.sl 5 t_impl_Msg 0 none)]), r1, r2, r3, r4, r5)
def impl_server_advance (s : V) : Option (V) :=
 bif (idxOk (gi s 0) ((gl s 10).length)) then
 bif (idxOk (gi s 0) ((gl s 9).length)) then
 Option.bind (impl_server_advance_l2 (((((gl s 3).length : Nat) : Int) - (gi (V.agg [(V.int .i64 (gi s 0)), (V.int .i64 (gi s 1)), (V.int .i64 (gi s 2)), (V.sl 1 t_impl_Item 0 none), (V.int .i64 (gi s 4)), (V.int .i64 (gi s 5)), (V.int .i64 (gi s 6)), (V.int .i64 (gi s 7)), (V.sl 2 t_bool 0 none), (V.sl 3 t_int' 0 none), (V.sl 4 t_int' 0 none), (V.sl 5 t_impl_Msg 0 none)]) 4)).toNat + 1) (((gl s 3).length : Nat) : Int) (V.agg [(V.int .i64 (gi s 0)), (V.int .i64 (gi s 1)), (V.int .i64 (gi s 2)), (V.sl 1 t_impl_Item 0 none), (V.int .i64 (gi s 4)), (V.int .i64 (gi s 5)), (V.int .i64 (gi s 6)), (V.int .i64 (gi s 7)), (V.sl 2 t_bool 0 none), (V.sl 3 t_int' 0 none), (V.sl 4 t_int' 0 none), (V.sl 5 t_impl_Msg 0 none)]) (gl s 3) (gl s 8) ((gl s 9).set (0 + ((gi s 0).toNat)) (V.int .i64 (IntKind.i64.wrap ((((gl s 3).length : Nat) : Int) + 1)))) ((gl s 10).set (0 + ((gi s 0).toNat)) (V.int .i64 (((gl s 3).length : Nat) : Int))) (gl s 11)) fun r421 =>
 bif (Nat.beq r421.1 0) then
 some (V.agg [(V.int .i64 (gi r421.2.1 0)), (V.int .i64 (gi r421.2.1 1)), (V.int .i64 (gi r421.2.1 2)), (V.inl t_impl_Item r421.2.2.1), (V.int .i64 (gi r421.2.1 4)), (V.int .i64 (gi r421.2.1 5)), (V.int .i64 (gi r421.2.1 6)), (V.int .i64 (gi r421.2.1 7)), (V.inl t_bool r421.2.2.2.1), (V.inl t_int' r421.2.2.2.2.1), (V.inl t_int' r421.2.2.2.2.2.1), (V.inl t_impl_Msg r421.2.2.2.2.2.2)])
 else some (V.agg [(V.int .i64 (gi r421.2.1 0)), (V.int .i64 (gi r421.2.1 1)), (V.int .i64 (gi r421.2.1 2)), (V.inl t_impl_Item r421.2.2.1), (V.int .i64 (gi r421.2.1 4)), (V.int .i64 (gi r421.2.1 5)), (V.int .i64 (gi r421.2.1 6)), (V.int .i64 (gi r421.2.1 7)), (V.inl t_bool r421.2.2.2.1), (V.inl t_int' r421.2.2.2.2.1), (V.inl t_int' r421.2.2.2.2.2.1), (V.inl t_impl_Msg r421.2.2.2.2.2.2)])
 else none
 else none
def impl_Node_others_l3 : Nat → Int → Int → V → List V → Option (List V)
 | 0, _, _, _, _ => none
 | k_ + 1, v7, v8, b0, r1 =>
 bif (decide (v8 < v7)) then
 bif (!(decide (v8 = (gi b0 0)))) then
 bif ((roomy (r1.length + 1) 8) && true) then
 impl_Node_others_l3 k_ v7 (IntKind.i64.wrap (v8 + 1)) (n_impl_Node b0) (r1 ++ [(V.int .i64 v8)])
 else none
 else impl_Node_others_l3 k_ v7 (IntKind.i64.wrap (v8 + 1)) (n_impl_Node b0) r1
 else some r1
def impl_Node_others (n : V) : Option (List V) :=
 Option.bind (impl_Node_others_l3 (((((gl n 8).length : Nat) : Int) - 0).toNat + 1) (((gl n 8).length : Nat) : Int) 0 (n_impl_Node n) []) fun r423 =>
 some r423
def impl_Node_entries (n : V) (to : Int) : Option (V) :=
 bif (idxOk to ((gl n 9).length)) then
 bif ((decide ((0 : Int) ≤ (mnI (((gl n 3).length : Nat) : Int) (IntKind.i64.wrap ((IntKind.i64.wrap ((gi (rd (gl n 9) to.toNat) 0) - 1)) + 4))))) && (decide ((mnI (((gl n 3).length : Nat) : Int) (IntKind.i64.wrap ((IntKind.i64.wrap ((gi (rd (gl n 9) to.toNat) 0) - 1)) + 4))) ≤ (((gl n 3).length : Nat) : Int)))) then
 bif ((decide ((0 : Int) ≤ (IntKind.i64.wrap ((gi (rd (gl n 9) to.toNat) 0) - 1)))) && (decide ((IntKind.i64.wrap ((gi (rd (gl n 9) to.toNat) 0) - 1)) ≤ (((mnI (((gl n 3).length : Nat) : Int) (IntKind.i64.wrap ((IntKind.i64.wrap ((gi (rd (gl n 9) to.toNat) 0) - 1)) + 4))).toNat : Nat) : Int)))) then
 Option.bind (impl_Node_termAt (n_impl_Node n) (IntKind.i64.wrap ((gi (rd (gl n 9) to.toNat) 0) - 1))) fun r425 =>
 Option.bind (impl_ownItems (((gl n 3).drop ((IntKind.i64.wrap ((gi (rd (gl n 9) to.toNat) 0) - 1)).toNat)).take (((mnI (((gl n 3).length : Nat) : Int) (IntKind.i64.wrap ((IntKind.i64.wrap ((gi (rd (gl n 9) to.toNat) 0) - 1)) + 4))).toNat) - ((IntKind.i64.wrap ((gi (rd (gl n 9) to.toNat) 0) - 1)).toNat)))) fun r426 =>
 some (V.agg [(V.int .i64 2), (V.int .i64 (gi n 0)), (V.int .i64 to), (V.int .i64 (gi n 1)), (V.int .i64 (IntKind.i64.wrap ((gi (rd (gl n 9) to.toNat) 0) - 1))), (V.int .i64 r425), (V.inl t_impl_Item r426), (V.int .i64 (gi n 4)), (V.bool false)])
 else none
 else none
 else none
def impl_server_send (s : V) (to : Int) : Option (V) :=
 Option.bind (impl_Node_entries (n_impl_Node s) to) fun r427 =>
 bif ((roomy (((gl s 11).length) + 1) 88) && true) then
 some (V.agg [(V.int .i64 (gi s 0)), (V.int .i64 (gi s 1)), (V.int .i64 (gi s 2)), (V.inl t_impl_Item (gl s 3)), (V.int .i64 (gi s 4)), (V.int .i64 (gi s 5)), (V.int .i64 (gi s 6)), (V.int .i64 (gi s 7)), (V.inl t_bool (gl s 8)), (V.inl t_int' (gl s 9)), (V.inl t_int' (gl s 10)), (V.inl t_impl_Msg ((gl s 11) ++ [(n_impl_Msg r427)]))])
 else none
def impl_server_sendAll_l1 : Nat → Int → Int → V → List V → List V → List V → List V → List V → List V → Option (V × List V × List V × List V × List V × List V)
 | 0, _, _, _, _, _, _, _, _, _ => none
 | k_ + 1, v9, v10, b0, r1, r2, r3, r4, r5, r6 =>
 bif (decide (v10 < v9)) then
 bif (idxOk v10 r1.length) then
 Option.bind (impl_server_send (V.agg [(V.int .i64 (gi b0 0)), (V.int .i64 (gi b0 1)), (V.int .i64 (gi b0 2)), (V.inl t_impl_Item r2), (V.int .i64 (gi b0 4)), (V.int .i64 (gi b0 5)), (V.int .i64 (gi b0 6)), (V.int .i64 (gi b0 7)), (V.inl t_bool r3), (V.inl t_int' r4), (V.inl t_int' r5), (V.inl t_impl_Msg r6)]) (gi (rd r1 (0 + v10.toNat)) 0)) fun r428 =>
 impl_server_sendAll_l1 k_ v9 (IntKind.i64.wrap (v10 + 1)) (V.agg [(V.int .i64 (gi r428 0)), (V.int .i64 (gi r428 1)), (V.int .i64 (gi r428 2)), (V.sl 2 t_impl_Item 0 none), (V.int .i64 (gi r428 4)), (V.int .i64 (gi r428 5)), (V.int .i64 (gi r428 6)), (V.int .i64 (gi r428 7)), (V.sl 3 t_bool 0 none), (V.sl 4 t_int' 0 none), (V.sl 5 t_int' 0 none), (V.sl 6 t_impl_Msg 0 none)]) r1 (gl r428 3) (gl r428 8) (gl r428 9) (gl r428 10) (gl r428 11)
 else none
 else some ((V.agg [(V.int .i64 (gi b0 0)), (V.int .i64 (gi b0 1)), (V.int .i64 (gi b0 2)), (V.sl 1 t_impl_Item 0 none), (V.int .i64 (gi b0 4)), (V.int .i64 (gi b0 5)), (V.int .i64 (gi b0 6)), (V.int .i64 (gi b0 7)), (V.sl 2 t_bool 0 none), (V.sl 3 t_int' 0 none), (V.sl 4 t_int' 0 none), (V.sl 5 t_impl_Msg 0 none)]), r2, r3, r4, r5, r6)
def impl_server_sendAll (s : V) : Option (V) :=
 Option.bind (impl_Node_others (n_impl_Node s)) fun r424 =>
 Option.bind (impl_server_sendAll_l1 ((((r424.length : Nat) : Int) - 0).toNat + 1) ((r424.length : Nat) : Int) 0 (V.agg [(V.int .i64 (gi s 0)), (V.int .i64 (gi s 1)), (V.int .i64 (gi s 2)), (V.sl 2 t_impl_Item 0 none), (V.int .i64 (gi s 4)), (V.int .i64 (gi s 5)), (V.int .i64 (gi s 6)), (V.int .i64 (gi s 7)), (V.sl 3 t_bool 0 none), (V.sl 4 t_int' 0 none), (V.sl 5 t_int' 0 none), (V.sl 6 t_impl_Msg 0 none)]) r424 (gl s 3) (gl s 8) (gl s 9) (gl s 10) (gl s 11)) fun r429 =>
 some (V.agg [(V.int .i64 (gi r429.1 0)), (V.int .i64 (gi r429.1 1)), (V.int .i64 (gi r429.1 2)), (V.inl t_impl_Item r429.2.1), (V.int .i64 (gi r429.1 4)), (V.int .i64 (gi r429.1 5)), (V.int .i64 (gi r429.1 6)), (V.int .i64 (gi r429.1 7)), (V.inl t_bool r429.2.2.1), (V.inl t_int' r429.2.2.2.1), (V.inl t_int' r429.2.2.2.2.1), (V.inl t_impl_Msg r429.2.2.2.2.2)])
def impl_server_lead_l2 : Nat → Int → Int → Int → V → List V → List V → List V → List V → List V → Option (Int × V × List V × List V × List V × List V × List V)
 | 0, _, _, _, _, _, _, _, _, _ => none
 | k_ + 1, count2, v11, v12, b0, r1, r2, r3, r4, r5 =>
 bif (decide (v12 < v11)) then
 bif (idxOk v12 r1.length) then
 bif (gb (rd r1 (0 + v12.toNat)) 0) then
 impl_server_lead_l2 k_ (IntKind.i64.wrap (count2 + 1)) v11 (IntKind.i64.wrap (v12 + 1)) (V.agg [(V.int .i64 (gi b0 0)), (V.int .i64 (gi b0 1)), (V.int .i64 (gi b0 2)), (V.sl 2 t_impl_Item 0 none), (V.int .i64 (gi b0 4)), (V.int .i64 (gi b0 5)), (V.int .i64 (gi b0 6)), (V.int .i64 (gi b0 7)), (V.sl 1 t_bool 0 none), (V.sl 3 t_int' 0 none), (V.sl 4 t_int' 0 none), (V.sl 5 t_impl_Msg 0 none)]) r1 r2 r3 r4 r5
 else impl_server_lead_l2 k_ count2 v11 (IntKind.i64.wrap (v12 + 1)) (V.agg [(V.int .i64 (gi b0 0)), (V.int .i64 (gi b0 1)), (V.int .i64 (gi b0 2)), (V.sl 2 t_impl_Item 0 none), (V.int .i64 (gi b0 4)), (V.int .i64 (gi b0 5)), (V.int .i64 (gi b0 6)), (V.int .i64 (gi b0 7)), (V.sl 1 t_bool 0 none), (V.sl 3 t_int' 0 none), (V.sl 4 t_int' 0 none), (V.sl 5 t_impl_Msg 0 none)]) r1 r2 r3 r4 r5
 else none
 else some (count2, (V.agg [(V.int .i64 (gi b0 0)), (V.int .i64 (gi b0 1)), (V.int .i64 (gi b0 2)), (V.sl 1 t_impl_Item 0 none), (V.int .i64 (gi b0 4)), (V.int .i64 (gi b0 5)), (V.int .i64 (gi b0 6)), (V.int .i64 (gi b0 7)), (V.sl 2 t_bool 0 none), (V.sl 3 t_int' 0 none), (V.sl 4 t_int' 0 none), (V.sl 5 t_impl_Msg 0 none)]), r2, r1, r3, r4, r5)
def impl_server_lead_l10 : Nat → Int → Int → V → List V → List V → List V → List V → List V → Option (V × List V × List V × List V × List V × List V)
 | 0, _, _, _, _, _, _, _, _ => none
 | k_ + 1, v49, v50, b0, r1, r2, r3, r4, r5 =>
 bif (decide (v50 < v49)) then
 bif (idxOk v50 r3.length) then
 bif (idxOk v50 r4.length) then
 impl_server_lead_l10 k_ v49 (IntKind.i64.wrap (v50 + 1)) (V.agg [(V.int .i64 (gi b0 0)), (V.int .i64 (gi b0 1)), (V.int .i64 (gi b0 2)), (V.sl 1 t_impl_Item 0 none), (V.int .i64 (gi b0 4)), (V.int .i64 (gi b0 5)), (V.int .i64 (gi b0 6)), (V.int .i64 (gi b0 7)), (V.sl 2 t_bool 0 none), (V.sl 3 t_int' 0 none), (V.sl 4 t_int' 0 none), (V.sl 5 t_impl_Msg 0 none)]) r1 r2 (r3.set (0 + v50.toNat) (V.int .i64 (IntKind.i64.wrap (((r1.length : Nat) : Int) + 1)))) (r4.set (0 + v50.toNat) (V.int .i64 0)) r5
 else none
 else none
 else some ((V.agg [(V.int .i64 (gi b0 0)), (V.int .i64 (gi b0 1)), (V.int .i64 (gi b0 2)), (V.sl 1 t_impl_Item 0 none), (V.int .i64 (gi b0 4)), (V.int .i64 (gi b0 5)), (V.int .i64 (gi b0 6)), (V.int .i64 (gi b0 7)), (V.sl 2 t_bool 0 none), (V.sl 3 t_int' 0 none), (V.sl 4 t_int' 0 none), (V.sl 5 t_impl_Msg 0 none)]), r1, r2, r3, r4, r5)
def impl_server_lead (s : V) : Option (V) :=
 Option.bind (impl_server_lead_l2 (((((gl s 8).length : Nat) : Int) - 0).toNat + 1) 0 (((gl s 8).length : Nat) : Int) 0 (V.agg [(V.int .i64 (gi s 0)), (V.int .i64 (gi s 1)), (V.int .i64 (gi s 2)), (V.sl 2 t_impl_Item 0 none), (V.int .i64 (gi s 4)), (V.int .i64 (gi s 5)), (V.int .i64 (gi s 6)), (V.int .i64 (gi s 7)), (V.sl 1 t_bool 0 none), (V.sl 3 t_int' 0 none), (V.sl 4 t_int' 0 none), (V.sl 5 t_impl_Msg 0 none)]) (gl s 8) (gl s 3) (gl s 9) (gl s 10) (gl s 11)) fun r417 =>
 bif (!(impl_Node_most (V.agg [(V.int .i64 (gi r417.2.1 0)), (V.int .i64 (gi r417.2.1 1)), (V.int .i64 (gi r417.2.1 2)), (V.inl t_impl_Item r417.2.2.1), (V.int .i64 (gi r417.2.1 4)), (V.int .i64 (gi r417.2.1 5)), (V.int .i64 (gi r417.2.1 6)), (V.int .i64 (gi r417.2.1 7)), (V.inl t_bool r417.2.2.2.1), (V.inl t_int' r417.2.2.2.2.1), (V.inl t_int' r417.2.2.2.2.2.1)]) r417.1)) then
 some (V.agg [(V.int .i64 (gi r417.2.1 0)), (V.int .i64 (gi r417.2.1 1)), (V.int .i64 (gi r417.2.1 2)), (V.inl t_impl_Item r417.2.2.1), (V.int .i64 (gi r417.2.1 4)), (V.int .i64 (gi r417.2.1 5)), (V.int .i64 (gi r417.2.1 6)), (V.int .i64 (gi r417.2.1 7)), (V.inl t_bool r417.2.2.2.1), (V.inl t_int' r417.2.2.2.2.1), (V.inl t_int' r417.2.2.2.2.2.1), (V.inl t_impl_Msg r417.2.2.2.2.2.2)])
 else Option.bind (impl_server_lead_l10 ((((r417.2.2.2.2.1.length : Nat) : Int) - 0).toNat + 1) ((r417.2.2.2.2.1.length : Nat) : Int) 0 (V.agg [(V.int .i64 (gi r417.2.1 0)), (V.int .i64 (gi r417.2.1 1)), (V.int .i64 (gi r417.2.1 2)), (V.sl 1 t_impl_Item 0 none), (V.int .i64 (gi r417.2.1 4)), (V.int .i64 2), (V.int .i64 (gi r417.2.1 0)), (V.int .i64 0), (V.sl 2 t_bool 0 none), (V.sl 3 t_int' 0 none), (V.sl 4 t_int' 0 none), (V.sl 5 t_impl_Msg 0 none)]) r417.2.2.1 r417.2.2.2.1 r417.2.2.2.2.1 r417.2.2.2.2.2.1 r417.2.2.2.2.2.2) fun r418 =>
 bif (decide (((r418.2.1.length : Nat) : Int) < 400)) then
 bif ((roomy (r418.2.1.length + 1) 88) && true) then
 Option.bind (impl_server_advance (V.agg [(V.int .i64 (gi r418.1 0)), (V.int .i64 (gi r418.1 1)), (V.int .i64 (gi r418.1 2)), (V.inl t_impl_Item (r418.2.1 ++ [(V.agg [(V.int .i64 (gi r418.1 1)), (V.int .i64 (gi impl_noOp 0)), (V.int .i64 (gi impl_noOp 1)), (V.int .i64 (gi impl_noOp 2)), (V.inl t_byte (gl impl_noOp 3)), (V.inl t_byte (gl impl_noOp 4)), (V.int .i64 (gi impl_noOp 5))])])), (V.int .i64 (gi r418.1 4)), (V.int .i64 (gi r418.1 5)), (V.int .i64 (gi r418.1 6)), (V.int .i64 (gi r418.1 7)), (V.inl t_bool r418.2.2.1), (V.inl t_int' r418.2.2.2.1), (V.inl t_int' r418.2.2.2.2.1), (V.inl t_impl_Msg r418.2.2.2.2.2)])) fun r422 =>
 Option.bind (impl_server_sendAll (n_impl_server r422)) fun r430 =>
 some (n_impl_server r430)
 else none
 else Option.bind (impl_server_advance (V.agg [(V.int .i64 (gi r418.1 0)), (V.int .i64 (gi r418.1 1)), (V.int .i64 (gi r418.1 2)), (V.inl t_impl_Item r418.2.1), (V.int .i64 (gi r418.1 4)), (V.int .i64 (gi r418.1 5)), (V.int .i64 (gi r418.1 6)), (V.int .i64 (gi r418.1 7)), (V.inl t_bool r418.2.2.1), (V.inl t_int' r418.2.2.2.1), (V.inl t_int' r418.2.2.2.2.1), (V.inl t_impl_Msg r418.2.2.2.2.2)])) fun r431 =>
 Option.bind (impl_server_sendAll (n_impl_server r431)) fun r432 =>
 some (n_impl_server r432)
def impl_server_add_l10 : Nat → List V → Int → Int → V → V → List V → List V → List V → List V → List V → Option (Nat × Int × Bool × V × V × List V × List V × List V × List V × List V)
 | 0, _, _, _, _, _, _, _, _, _, _ => none
 | k_ + 1, v71, v72, v73, b0, b1, r2, r3, r4, r5, r6 =>
 bif (decide (v73 < v72)) then
 bif (idxOk v73 v71.length) then
 bif (decide ((IntKind.i64.wrap ((IntKind.i64.wrap ((gi b1 4) + 1)) + v73)) ≤ (gi b0 4))) then
 Option.bind (impl_Node_termAt (V.agg [(V.int .i64 (gi b0 0)), (V.int .i64 (gi b0 1)), (V.int .i64 (gi b0 2)), (V.inl t_impl_Item r2), (V.int .i64 (gi b0 4)), (V.int .i64 (gi b0 5)), (V.int .i64 (gi b0 6)), (V.int .i64 (gi b0 7)), (V.inl t_bool r3), (V.inl t_int' r4), (V.inl t_int' r5)]) (IntKind.i64.wrap ((IntKind.i64.wrap ((gi b1 4) + 1)) + v73))) fun r440 =>
 bif (!(decide (r440 = (gi (rd v71 v73.toNat) 0)))) then
 some (0, (gi b0 4), false, (V.agg [(V.int .i64 (gi b0 0)), (V.int .i64 (gi b0 1)), (V.int .i64 (gi b0 2)), (V.sl 2 t_impl_Item 0 none), (V.int .i64 (gi b0 4)), (V.int .i64 (gi b0 5)), (V.int .i64 (gi b0 6)), (V.int .i64 (gi b0 7)), (V.sl 3 t_bool 0 none), (V.sl 4 t_int' 0 none), (V.sl 5 t_int' 0 none), (V.sl 6 t_impl_Msg 0 none)]), (n_impl_Msg b1), r2, r3, r4, r5, r6)
 else impl_server_add_l10 k_ v71 v72 (IntKind.i64.wrap (v73 + 1)) (V.agg [(V.int .i64 (gi b0 0)), (V.int .i64 (gi b0 1)), (V.int .i64 (gi b0 2)), (V.sl 2 t_impl_Item 0 none), (V.int .i64 (gi b0 4)), (V.int .i64 (gi b0 5)), (V.int .i64 (gi b0 6)), (V.int .i64 (gi b0 7)), (V.sl 3 t_bool 0 none), (V.sl 4 t_int' 0 none), (V.sl 5 t_int' 0 none), (V.sl 6 t_impl_Msg 0 none)]) (n_impl_Msg b1) r2 r3 r4 r5 r6
 else impl_server_add_l10 k_ v71 v72 (IntKind.i64.wrap (v73 + 1)) (V.agg [(V.int .i64 (gi b0 0)), (V.int .i64 (gi b0 1)), (V.int .i64 (gi b0 2)), (V.sl 2 t_impl_Item 0 none), (V.int .i64 (gi b0 4)), (V.int .i64 (gi b0 5)), (V.int .i64 (gi b0 6)), (V.int .i64 (gi b0 7)), (V.sl 3 t_bool 0 none), (V.sl 4 t_int' 0 none), (V.sl 5 t_int' 0 none), (V.sl 6 t_impl_Msg 0 none)]) (n_impl_Msg b1) r2 r3 r4 r5 r6
 else none
 else some (1, 0, false, (V.agg [(V.int .i64 (gi b0 0)), (V.int .i64 (gi b0 1)), (V.int .i64 (gi b0 2)), (V.sl 2 t_impl_Item 0 none), (V.int .i64 (gi b0 4)), (V.int .i64 (gi b0 5)), (V.int .i64 (gi b0 6)), (V.int .i64 (gi b0 7)), (V.sl 3 t_bool 0 none), (V.sl 4 t_int' 0 none), (V.sl 5 t_int' 0 none), (V.sl 6 t_impl_Msg 0 none)]), (n_impl_Msg b1), r2, r3, r4, r5, r6)
def impl_server_add_l18 : Nat → Int → List V → Int → Int → V → V → List V → List V → List V → List V → List V → Option (Int × V × V × List V × List V × List V × List V × List V)
 | 0, _, _, _, _, _, _, _, _, _, _, _ => none
 | k_ + 1, last9, v110, v111, v112, b0, b1, r2, r3, r4, r5, r6 =>
 bif (decide (v112 < v111)) then
 bif (idxOk v112 v110.length) then
 bif (decide ((IntKind.i64.wrap (last9 + 1)) ≤ ((r2.length : Nat) : Int))) then
 Option.bind (impl_Node_termAt (V.agg [(V.int .i64 (gi b0 0)), (V.int .i64 (gi b0 1)), (V.int .i64 (gi b0 2)), (V.inl t_impl_Item r2), (V.int .i64 (gi b0 4)), (V.int .i64 (gi b0 5)), (V.int .i64 (gi b0 6)), (V.int .i64 (gi b0 7)), (V.inl t_bool r3), (V.inl t_int' r4), (V.inl t_int' r5)]) (IntKind.i64.wrap (last9 + 1))) fun r442 =>
 bif (!(decide (r442 = (gi (rd v110 v112.toNat) 0)))) then
 bif ((decide ((0 : Int) ≤ (IntKind.i64.wrap ((IntKind.i64.wrap (last9 + 1)) - 1)))) && (decide ((IntKind.i64.wrap ((IntKind.i64.wrap (last9 + 1)) - 1)) ≤ ((r2.length : Nat) : Int)))) then
 bif (decide ((((IntKind.i64.wrap ((IntKind.i64.wrap (last9 + 1)) - 1)).toNat : Nat) : Int) < (IntKind.i64.wrap (last9 + 1)))) then
 Option.bind (impl_Cmd_own (V.agg [(V.int .i64 (gi (rd v110 v112.toNat) 1)), (V.int .i64 (gi (rd v110 v112.toNat) 2)), (V.int .i64 (gi (rd v110 v112.toNat) 3)), (V.inl t_byte (gl (rd v110 v112.toNat) 4)), (V.inl t_byte (gl (rd v110 v112.toNat) 5)), (V.int .i64 (gi (rd v110 v112.toNat) 6))])) fun r443 =>
 bif ((roomy (((r2.take ((IntKind.i64.wrap ((IntKind.i64.wrap (last9 + 1)) - 1)).toNat)).length) + 1) 88) && true) then
 impl_server_add_l18 k_ (IntKind.i64.wrap (last9 + 1)) v110 v111 (IntKind.i64.wrap (v112 + 1)) (V.agg [(V.int .i64 (gi b0 0)), (V.int .i64 (gi b0 1)), (V.int .i64 (gi b0 2)), (V.sl 2 t_impl_Item 0 none), (V.int .i64 (gi b0 4)), (V.int .i64 (gi b0 5)), (V.int .i64 (gi b0 6)), (V.int .i64 (gi b0 7)), (V.sl 3 t_bool 0 none), (V.sl 4 t_int' 0 none), (V.sl 5 t_int' 0 none), (V.sl 6 t_impl_Msg 0 none)]) (n_impl_Msg b1) ((r2.take ((IntKind.i64.wrap ((IntKind.i64.wrap (last9 + 1)) - 1)).toNat)) ++ [(V.agg [(V.int .i64 (gi (rd v110 v112.toNat) 0)), (V.int .i64 (gi r443 0)), (V.int .i64 (gi r443 1)), (V.int .i64 (gi r443 2)), (V.inl t_byte (gl r443 3)), (V.inl t_byte (gl r443 4)), (V.int .i64 (gi r443 5))])]) r3 r4 r5 r6
 else none
 else impl_server_add_l18 k_ (IntKind.i64.wrap (last9 + 1)) v110 v111 (IntKind.i64.wrap (v112 + 1)) (V.agg [(V.int .i64 (gi b0 0)), (V.int .i64 (gi b0 1)), (V.int .i64 (gi b0 2)), (V.sl 2 t_impl_Item 0 none), (V.int .i64 (gi b0 4)), (V.int .i64 (gi b0 5)), (V.int .i64 (gi b0 6)), (V.int .i64 (gi b0 7)), (V.sl 3 t_bool 0 none), (V.sl 4 t_int' 0 none), (V.sl 5 t_int' 0 none), (V.sl 6 t_impl_Msg 0 none)]) (n_impl_Msg b1) (r2.take ((IntKind.i64.wrap ((IntKind.i64.wrap (last9 + 1)) - 1)).toNat)) r3 r4 r5 r6
 else none
 else bif (decide (((r2.length : Nat) : Int) < (IntKind.i64.wrap (last9 + 1)))) then
 Option.bind (impl_Cmd_own (V.agg [(V.int .i64 (gi (rd v110 v112.toNat) 1)), (V.int .i64 (gi (rd v110 v112.toNat) 2)), (V.int .i64 (gi (rd v110 v112.toNat) 3)), (V.inl t_byte (gl (rd v110 v112.toNat) 4)), (V.inl t_byte (gl (rd v110 v112.toNat) 5)), (V.int .i64 (gi (rd v110 v112.toNat) 6))])) fun r444 =>
 bif ((roomy (r2.length + 1) 88) && true) then
 impl_server_add_l18 k_ (IntKind.i64.wrap (last9 + 1)) v110 v111 (IntKind.i64.wrap (v112 + 1)) (V.agg [(V.int .i64 (gi b0 0)), (V.int .i64 (gi b0 1)), (V.int .i64 (gi b0 2)), (V.sl 2 t_impl_Item 0 none), (V.int .i64 (gi b0 4)), (V.int .i64 (gi b0 5)), (V.int .i64 (gi b0 6)), (V.int .i64 (gi b0 7)), (V.sl 3 t_bool 0 none), (V.sl 4 t_int' 0 none), (V.sl 5 t_int' 0 none), (V.sl 6 t_impl_Msg 0 none)]) (n_impl_Msg b1) (r2 ++ [(V.agg [(V.int .i64 (gi (rd v110 v112.toNat) 0)), (V.int .i64 (gi r444 0)), (V.int .i64 (gi r444 1)), (V.int .i64 (gi r444 2)), (V.inl t_byte (gl r444 3)), (V.inl t_byte (gl r444 4)), (V.int .i64 (gi r444 5))])]) r3 r4 r5 r6
 else none
 else impl_server_add_l18 k_ (IntKind.i64.wrap (last9 + 1)) v110 v111 (IntKind.i64.wrap (v112 + 1)) (V.agg [(V.int .i64 (gi b0 0)), (V.int .i64 (gi b0 1)), (V.int .i64 (gi b0 2)), (V.sl 2 t_impl_Item 0 none), (V.int .i64 (gi b0 4)), (V.int .i64 (gi b0 5)), (V.int .i64 (gi b0 6)), (V.int .i64 (gi b0 7)), (V.sl 3 t_bool 0 none), (V.sl 4 t_int' 0 none), (V.sl 5 t_int' 0 none), (V.sl 6 t_impl_Msg 0 none)]) (n_impl_Msg b1) r2 r3 r4 r5 r6
 else bif (decide (((r2.length : Nat) : Int) < (IntKind.i64.wrap (last9 + 1)))) then
 Option.bind (impl_Cmd_own (V.agg [(V.int .i64 (gi (rd v110 v112.toNat) 1)), (V.int .i64 (gi (rd v110 v112.toNat) 2)), (V.int .i64 (gi (rd v110 v112.toNat) 3)), (V.inl t_byte (gl (rd v110 v112.toNat) 4)), (V.inl t_byte (gl (rd v110 v112.toNat) 5)), (V.int .i64 (gi (rd v110 v112.toNat) 6))])) fun r445 =>
 bif ((roomy (r2.length + 1) 88) && true) then
 impl_server_add_l18 k_ (IntKind.i64.wrap (last9 + 1)) v110 v111 (IntKind.i64.wrap (v112 + 1)) (V.agg [(V.int .i64 (gi b0 0)), (V.int .i64 (gi b0 1)), (V.int .i64 (gi b0 2)), (V.sl 2 t_impl_Item 0 none), (V.int .i64 (gi b0 4)), (V.int .i64 (gi b0 5)), (V.int .i64 (gi b0 6)), (V.int .i64 (gi b0 7)), (V.sl 3 t_bool 0 none), (V.sl 4 t_int' 0 none), (V.sl 5 t_int' 0 none), (V.sl 6 t_impl_Msg 0 none)]) (n_impl_Msg b1) (r2 ++ [(V.agg [(V.int .i64 (gi (rd v110 v112.toNat) 0)), (V.int .i64 (gi r445 0)), (V.int .i64 (gi r445 1)), (V.int .i64 (gi r445 2)), (V.inl t_byte (gl r445 3)), (V.inl t_byte (gl r445 4)), (V.int .i64 (gi r445 5))])]) r3 r4 r5 r6
 else none
 else impl_server_add_l18 k_ (IntKind.i64.wrap (last9 + 1)) v110 v111 (IntKind.i64.wrap (v112 + 1)) (V.agg [(V.int .i64 (gi b0 0)), (V.int .i64 (gi b0 1)), (V.int .i64 (gi b0 2)), (V.sl 2 t_impl_Item 0 none), (V.int .i64 (gi b0 4)), (V.int .i64 (gi b0 5)), (V.int .i64 (gi b0 6)), (V.int .i64 (gi b0 7)), (V.sl 3 t_bool 0 none), (V.sl 4 t_int' 0 none), (V.sl 5 t_int' 0 none), (V.sl 6 t_impl_Msg 0 none)]) (n_impl_Msg b1) r2 r3 r4 r5 r6
 else none
 else some (last9, (V.agg [(V.int .i64 (gi b0 0)), (V.int .i64 (gi b0 1)), (V.int .i64 (gi b0 2)), (V.sl 2 t_impl_Item 0 none), (V.int .i64 (gi b0 4)), (V.int .i64 (gi b0 5)), (V.int .i64 (gi b0 6)), (V.int .i64 (gi b0 7)), (V.sl 3 t_bool 0 none), (V.sl 4 t_int' 0 none), (V.sl 5 t_int' 0 none), (V.sl 6 t_impl_Msg 0 none)]), (n_impl_Msg b1), r2, r3, r4, r5, r6)
def impl_server_add (s : V) (m : V) : Option (Int × Bool × V) :=
 bif (decide ((gi m 3) < (gi s 1))) then
 some (0, false, (n_impl_server s))
 else bif (decide ((gi s 5) = 2)) then
 some (0, false, (n_impl_server s))
 else bif (decide ((((gl (impl_server_follow (n_impl_server s) (gi m 3)) 3).length : Nat) : Int) < (gi m 4))) then
 some ((((gl (impl_server_follow (n_impl_server s) (gi m 3)) 3).length : Nat) : Int), false, (V.agg [(V.int .i64 (gi (impl_server_follow (n_impl_server s) (gi m 3)) 0)), (V.int .i64 (gi (impl_server_follow (n_impl_server s) (gi m 3)) 1)), (V.int .i64 (gi (impl_server_follow (n_impl_server s) (gi m 3)) 2)), (V.inl t_impl_Item (gl (impl_server_follow (n_impl_server s) (gi m 3)) 3)), (V.int .i64 (gi (impl_server_follow (n_impl_server s) (gi m 3)) 4)), (V.int .i64 (gi (impl_server_follow (n_impl_server s) (gi m 3)) 5)), (V.int .i64 (gi m 1)), (V.int .i64 0), (V.inl t_bool (gl (impl_server_follow (n_impl_server s) (gi m 3)) 8)), (V.inl t_int' (gl (impl_server_follow (n_impl_server s) (gi m 3)) 9)), (V.inl t_int' (gl (impl_server_follow (n_impl_server s) (gi m 3)) 10)), (V.inl t_impl_Msg (gl (impl_server_follow (n_impl_server s) (gi m 3)) 11))]))
 else Option.bind (impl_Node_termAt (V.agg [(V.int .i64 (gi (impl_server_follow (n_impl_server s) (gi m 3)) 0)), (V.int .i64 (gi (impl_server_follow (n_impl_server s) (gi m 3)) 1)), (V.int .i64 (gi (impl_server_follow (n_impl_server s) (gi m 3)) 2)), (V.inl t_impl_Item (gl (impl_server_follow (n_impl_server s) (gi m 3)) 3)), (V.int .i64 (gi (impl_server_follow (n_impl_server s) (gi m 3)) 4)), (V.int .i64 (gi (impl_server_follow (n_impl_server s) (gi m 3)) 5)), (V.int .i64 (gi m 1)), (V.int .i64 0), (V.inl t_bool (gl (impl_server_follow (n_impl_server s) (gi m 3)) 8)), (V.inl t_int' (gl (impl_server_follow (n_impl_server s) (gi m 3)) 9)), (V.inl t_int' (gl (impl_server_follow (n_impl_server s) (gi m 3)) 10))]) (gi m 4)) fun r439 =>
 bif (!(decide (r439 = (gi m 5)))) then
 some ((IntKind.i64.wrap ((gi m 4) - 1)), false, (V.agg [(V.int .i64 (gi (impl_server_follow (n_impl_server s) (gi m 3)) 0)), (V.int .i64 (gi (impl_server_follow (n_impl_server s) (gi m 3)) 1)), (V.int .i64 (gi (impl_server_follow (n_impl_server s) (gi m 3)) 2)), (V.inl t_impl_Item (gl (impl_server_follow (n_impl_server s) (gi m 3)) 3)), (V.int .i64 (gi (impl_server_follow (n_impl_server s) (gi m 3)) 4)), (V.int .i64 (gi (impl_server_follow (n_impl_server s) (gi m 3)) 5)), (V.int .i64 (gi m 1)), (V.int .i64 0), (V.inl t_bool (gl (impl_server_follow (n_impl_server s) (gi m 3)) 8)), (V.inl t_int' (gl (impl_server_follow (n_impl_server s) (gi m 3)) 9)), (V.inl t_int' (gl (impl_server_follow (n_impl_server s) (gi m 3)) 10)), (V.inl t_impl_Msg (gl (impl_server_follow (n_impl_server s) (gi m 3)) 11))]))
 else Option.bind (impl_server_add_l10 (((((gl m 6).length : Nat) : Int) - 0).toNat + 1) (gl m 6) (((gl m 6).length : Nat) : Int) 0 (V.agg [(V.int .i64 (gi (impl_server_follow (n_impl_server s) (gi m 3)) 0)), (V.int .i64 (gi (impl_server_follow (n_impl_server s) (gi m 3)) 1)), (V.int .i64 (gi (impl_server_follow (n_impl_server s) (gi m 3)) 2)), (V.sl 2 t_impl_Item 0 none), (V.int .i64 (gi (impl_server_follow (n_impl_server s) (gi m 3)) 4)), (V.int .i64 (gi (impl_server_follow (n_impl_server s) (gi m 3)) 5)), (V.int .i64 (gi m 1)), (V.int .i64 0), (V.sl 3 t_bool 0 none), (V.sl 4 t_int' 0 none), (V.sl 5 t_int' 0 none), (V.sl 6 t_impl_Msg 0 none)]) (n_impl_Msg m) (gl (impl_server_follow (n_impl_server s) (gi m 3)) 3) (gl (impl_server_follow (n_impl_server s) (gi m 3)) 8) (gl (impl_server_follow (n_impl_server s) (gi m 3)) 9) (gl (impl_server_follow (n_impl_server s) (gi m 3)) 10) (gl (impl_server_follow (n_impl_server s) (gi m 3)) 11)) fun r441 =>
 bif (Nat.beq r441.1 0) then
 some (r441.2.1, r441.2.2.1, (V.agg [(V.int .i64 (gi r441.2.2.2.1 0)), (V.int .i64 (gi r441.2.2.2.1 1)), (V.int .i64 (gi r441.2.2.2.1 2)), (V.inl t_impl_Item r441.2.2.2.2.2.1), (V.int .i64 (gi r441.2.2.2.1 4)), (V.int .i64 (gi r441.2.2.2.1 5)), (V.int .i64 (gi r441.2.2.2.1 6)), (V.int .i64 (gi r441.2.2.2.1 7)), (V.inl t_bool r441.2.2.2.2.2.2.1), (V.inl t_int' r441.2.2.2.2.2.2.2.1), (V.inl t_int' r441.2.2.2.2.2.2.2.2.1), (V.inl t_impl_Msg r441.2.2.2.2.2.2.2.2.2)]))
 else Option.bind (impl_server_add_l18 (((((gl r441.2.2.2.2.1 6).length : Nat) : Int) - 0).toNat + 1) (gi r441.2.2.2.2.1 4) (gl r441.2.2.2.2.1 6) (((gl r441.2.2.2.2.1 6).length : Nat) : Int) 0 (V.agg [(V.int .i64 (gi r441.2.2.2.1 0)), (V.int .i64 (gi r441.2.2.2.1 1)), (V.int .i64 (gi r441.2.2.2.1 2)), (V.sl 2 t_impl_Item 0 none), (V.int .i64 (gi r441.2.2.2.1 4)), (V.int .i64 (gi r441.2.2.2.1 5)), (V.int .i64 (gi r441.2.2.2.1 6)), (V.int .i64 (gi r441.2.2.2.1 7)), (V.sl 3 t_bool 0 none), (V.sl 4 t_int' 0 none), (V.sl 5 t_int' 0 none), (V.sl 6 t_impl_Msg 0 none)]) (n_impl_Msg r441.2.2.2.2.1) r441.2.2.2.2.2.1 r441.2.2.2.2.2.2.1 r441.2.2.2.2.2.2.2.1 r441.2.2.2.2.2.2.2.2.1 r441.2.2.2.2.2.2.2.2.2) fun r446 =>
 some (r446.1, true, (V.agg [(V.int .i64 (gi r446.2.1 0)), (V.int .i64 (gi r446.2.1 1)), (V.int .i64 (gi r446.2.1 2)), (V.inl t_impl_Item r446.2.2.2.1), (V.int .i64 (mxI (gi r446.2.1 4) (mnI (gi r446.2.2.1 7) r446.1))), (V.int .i64 (gi r446.2.1 5)), (V.int .i64 (gi r446.2.1 6)), (V.int .i64 (gi r446.2.1 7)), (V.inl t_bool r446.2.2.2.2.1), (V.inl t_int' r446.2.2.2.2.2.1), (V.inl t_int' r446.2.2.2.2.2.2.1), (V.inl t_impl_Msg r446.2.2.2.2.2.2.2)]))
def impl_server_ack (s : V) (m : V) : Option (V) :=
 bif (!(decide ((gi s 5) = 2))) then
 some (n_impl_server s)
 else bif (!(decide ((gi m 3) = (gi s 1)))) then
 some (n_impl_server s)
 else bif (!(gb m 8)) then
 bif (idxOk (gi m 1) ((gl s 9).length)) then
 bif (idxOk (gi m 1) ((gl s 10).length)) then
 bif (decide ((gi (rd (gl s 10) (0 + ((gi m 1).toNat))) 0) < (mxI 1 (mnI (IntKind.i64.wrap ((gi (rd (gl s 9) (0 + ((gi m 1).toNat))) 0) - 1)) (IntKind.i64.wrap ((gi m 4) + 1)))))) then
 bif (idxOk (gi m 1) ((gl s 9).length)) then
 Option.bind (impl_server_send (V.agg [(V.int .i64 (gi s 0)), (V.int .i64 (gi s 1)), (V.int .i64 (gi s 2)), (V.inl t_impl_Item (gl s 3)), (V.int .i64 (gi s 4)), (V.int .i64 (gi s 5)), (V.int .i64 (gi s 6)), (V.int .i64 (gi s 7)), (V.inl t_bool (gl s 8)), (V.inl t_int' ((gl s 9).set (0 + ((gi m 1).toNat)) (V.int .i64 (mxI 1 (mnI (IntKind.i64.wrap ((gi (rd (gl s 9) (0 + ((gi m 1).toNat))) 0) - 1)) (IntKind.i64.wrap ((gi m 4) + 1))))))), (V.inl t_int' (gl s 10)), (V.inl t_impl_Msg (gl s 11))]) (gi m 1)) fun r448 =>
 some (n_impl_server r448)
 else none
 else some (n_impl_server s)
 else none
 else none
 else bif (decide ((((gl s 3).length : Nat) : Int) < (gi m 4))) then
 some (n_impl_server s)
 else bif (idxOk (gi m 1) ((gl s 10).length)) then
 bif (decide ((gi m 4) ≤ (gi (rd (gl s 10) (0 + ((gi m 1).toNat))) 0))) then
 some (n_impl_server s)
 else bif (idxOk (gi m 1) ((gl s 10).length)) then
 bif (idxOk (gi m 1) ((gl s 9).length)) then
 Option.bind (impl_server_advance (V.agg [(V.int .i64 (gi s 0)), (V.int .i64 (gi s 1)), (V.int .i64 (gi s 2)), (V.inl t_impl_Item (gl s 3)), (V.int .i64 (gi s 4)), (V.int .i64 (gi s 5)), (V.int .i64 (gi s 6)), (V.int .i64 (gi s 7)), (V.inl t_bool (gl s 8)), (V.inl t_int' ((gl s 9).set (0 + ((gi m 1).toNat)) (V.int .i64 (IntKind.i64.wrap ((gi m 4) + 1))))), (V.inl t_int' ((gl s 10).set (0 + ((gi m 1).toNat)) (V.int .i64 (gi m 4)))), (V.inl t_impl_Msg (gl s 11))])) fun r449 =>
 bif (!(decide ((gi r449 4) = (gi s 4)))) then
 Option.bind (impl_server_sendAll (n_impl_server r449)) fun r450 =>
 some (n_impl_server r450)
 else bif (idxOk (gi m 1) ((gl r449 9).length)) then
 bif (decide ((gi (rd (gl r449 9) (0 + ((gi m 1).toNat))) 0) ≤ (((gl r449 3).length : Nat) : Int))) then
 Option.bind (impl_server_send (n_impl_server r449) (gi m 1)) fun r451 =>
 some (n_impl_server r451)
 else some (n_impl_server r449)
 else none
 else none
 else none
 else none
def impl_server_hear (s : V) (m : V) : Option (V) :=
 bif (decide ((gi s 1) < (gi m 3))) then
 bif (decide ((gi m 0) = 0)) then
 bif (decide ((gi m 3) = (gi (impl_server_follow (n_impl_server s) (gi m 3)) 1))) then
 bif (decide ((gi (impl_server_follow (n_impl_server s) (gi m 3)) 5) = 0)) then
 bif (decide ((gi (impl_server_follow (n_impl_server s) (gi m 3)) 2) = (-1))) then
 Option.bind (impl_Node_newer (n_impl_Node (impl_server_follow (n_impl_server s) (gi m 3))) (gi m 4) (gi m 5)) fun r415 =>
 bif r415 then
 bif ((roomy (((gl (impl_server_follow (n_impl_server s) (gi m 3)) 11).length) + 1) 88) && true) then
 some (V.agg [(V.int .i64 (gi (impl_server_follow (n_impl_server s) (gi m 3)) 0)), (V.int .i64 (gi (impl_server_follow (n_impl_server s) (gi m 3)) 1)), (V.int .i64 (gi m 1)), (V.inl t_impl_Item (gl (impl_server_follow (n_impl_server s) (gi m 3)) 3)), (V.int .i64 (gi (impl_server_follow (n_impl_server s) (gi m 3)) 4)), (V.int .i64 (gi (impl_server_follow (n_impl_server s) (gi m 3)) 5)), (V.int .i64 (gi (impl_server_follow (n_impl_server s) (gi m 3)) 6)), (V.int .i64 0), (V.inl t_bool (gl (impl_server_follow (n_impl_server s) (gi m 3)) 8)), (V.inl t_int' (gl (impl_server_follow (n_impl_server s) (gi m 3)) 9)), (V.inl t_int' (gl (impl_server_follow (n_impl_server s) (gi m 3)) 10)), (V.inl t_impl_Msg ((gl (impl_server_follow (n_impl_server s) (gi m 3)) 11) ++ [(V.agg [(V.int .i64 1), (V.int .i64 (gi (impl_server_follow (n_impl_server s) (gi m 3)) 0)), (V.int .i64 (gi m 1)), (V.int .i64 (gi (impl_server_follow (n_impl_server s) (gi m 3)) 1)), (V.int .i64 0), (V.int .i64 0), (V.inl t_impl_Item []), (V.int .i64 0), (V.bool r415)])]))])
 else none
 else bif ((roomy (((gl (impl_server_follow (n_impl_server s) (gi m 3)) 11).length) + 1) 88) && true) then
 some (V.agg [(V.int .i64 (gi (impl_server_follow (n_impl_server s) (gi m 3)) 0)), (V.int .i64 (gi (impl_server_follow (n_impl_server s) (gi m 3)) 1)), (V.int .i64 (gi (impl_server_follow (n_impl_server s) (gi m 3)) 2)), (V.inl t_impl_Item (gl (impl_server_follow (n_impl_server s) (gi m 3)) 3)), (V.int .i64 (gi (impl_server_follow (n_impl_server s) (gi m 3)) 4)), (V.int .i64 (gi (impl_server_follow (n_impl_server s) (gi m 3)) 5)), (V.int .i64 (gi (impl_server_follow (n_impl_server s) (gi m 3)) 6)), (V.int .i64 (gi (impl_server_follow (n_impl_server s) (gi m 3)) 7)), (V.inl t_bool (gl (impl_server_follow (n_impl_server s) (gi m 3)) 8)), (V.inl t_int' (gl (impl_server_follow (n_impl_server s) (gi m 3)) 9)), (V.inl t_int' (gl (impl_server_follow (n_impl_server s) (gi m 3)) 10)), (V.inl t_impl_Msg ((gl (impl_server_follow (n_impl_server s) (gi m 3)) 11) ++ [(V.agg [(V.int .i64 1), (V.int .i64 (gi (impl_server_follow (n_impl_server s) (gi m 3)) 0)), (V.int .i64 (gi m 1)), (V.int .i64 (gi (impl_server_follow (n_impl_server s) (gi m 3)) 1)), (V.int .i64 0), (V.int .i64 0), (V.inl t_impl_Item []), (V.int .i64 0), (V.bool r415)])]))])
 else none
 else bif (decide ((gi (impl_server_follow (n_impl_server s) (gi m 3)) 2) = (gi m 1))) then
 Option.bind (impl_Node_newer (n_impl_Node (impl_server_follow (n_impl_server s) (gi m 3))) (gi m 4) (gi m 5)) fun r416 =>
 bif r416 then
 bif ((roomy (((gl (impl_server_follow (n_impl_server s) (gi m 3)) 11).length) + 1) 88) && true) then
 some (V.agg [(V.int .i64 (gi (impl_server_follow (n_impl_server s) (gi m 3)) 0)), (V.int .i64 (gi (impl_server_follow (n_impl_server s) (gi m 3)) 1)), (V.int .i64 (gi m 1)), (V.inl t_impl_Item (gl (impl_server_follow (n_impl_server s) (gi m 3)) 3)), (V.int .i64 (gi (impl_server_follow (n_impl_server s) (gi m 3)) 4)), (V.int .i64 (gi (impl_server_follow (n_impl_server s) (gi m 3)) 5)), (V.int .i64 (gi (impl_server_follow (n_impl_server s) (gi m 3)) 6)), (V.int .i64 0), (V.inl t_bool (gl (impl_server_follow (n_impl_server s) (gi m 3)) 8)), (V.inl t_int' (gl (impl_server_follow (n_impl_server s) (gi m 3)) 9)), (V.inl t_int' (gl (impl_server_follow (n_impl_server s) (gi m 3)) 10)), (V.inl t_impl_Msg ((gl (impl_server_follow (n_impl_server s) (gi m 3)) 11) ++ [(V.agg [(V.int .i64 1), (V.int .i64 (gi (impl_server_follow (n_impl_server s) (gi m 3)) 0)), (V.int .i64 (gi m 1)), (V.int .i64 (gi (impl_server_follow (n_impl_server s) (gi m 3)) 1)), (V.int .i64 0), (V.int .i64 0), (V.inl t_impl_Item []), (V.int .i64 0), (V.bool r416)])]))])
 else none
 else bif ((roomy (((gl (impl_server_follow (n_impl_server s) (gi m 3)) 11).length) + 1) 88) && true) then
 some (V.agg [(V.int .i64 (gi (impl_server_follow (n_impl_server s) (gi m 3)) 0)), (V.int .i64 (gi (impl_server_follow (n_impl_server s) (gi m 3)) 1)), (V.int .i64 (gi (impl_server_follow (n_impl_server s) (gi m 3)) 2)), (V.inl t_impl_Item (gl (impl_server_follow (n_impl_server s) (gi m 3)) 3)), (V.int .i64 (gi (impl_server_follow (n_impl_server s) (gi m 3)) 4)), (V.int .i64 (gi (impl_server_follow (n_impl_server s) (gi m 3)) 5)), (V.int .i64 (gi (impl_server_follow (n_impl_server s) (gi m 3)) 6)), (V.int .i64 (gi (impl_server_follow (n_impl_server s) (gi m 3)) 7)), (V.inl t_bool (gl (impl_server_follow (n_impl_server s) (gi m 3)) 8)), (V.inl t_int' (gl (impl_server_follow (n_impl_server s) (gi m 3)) 9)), (V.inl t_int' (gl (impl_server_follow (n_impl_server s) (gi m 3)) 10)), (V.inl t_impl_Msg ((gl (impl_server_follow (n_impl_server s) (gi m 3)) 11) ++ [(V.agg [(V.int .i64 1), (V.int .i64 (gi (impl_server_follow (n_impl_server s) (gi m 3)) 0)), (V.int .i64 (gi m 1)), (V.int .i64 (gi (impl_server_follow (n_impl_server s) (gi m 3)) 1)), (V.int .i64 0), (V.int .i64 0), (V.inl t_impl_Item []), (V.int .i64 0), (V.bool r416)])]))])
 else none
 else bif ((roomy (((gl (impl_server_follow (n_impl_server s) (gi m 3)) 11).length) + 1) 88) && true) then
 some (V.agg [(V.int .i64 (gi (impl_server_follow (n_impl_server s) (gi m 3)) 0)), (V.int .i64 (gi (impl_server_follow (n_impl_server s) (gi m 3)) 1)), (V.int .i64 (gi (impl_server_follow (n_impl_server s) (gi m 3)) 2)), (V.inl t_impl_Item (gl (impl_server_follow (n_impl_server s) (gi m 3)) 3)), (V.int .i64 (gi (impl_server_follow (n_impl_server s) (gi m 3)) 4)), (V.int .i64 (gi (impl_server_follow (n_impl_server s) (gi m 3)) 5)), (V.int .i64 (gi (impl_server_follow (n_impl_server s) (gi m 3)) 6)), (V.int .i64 (gi (impl_server_follow (n_impl_server s) (gi m 3)) 7)), (V.inl t_bool (gl (impl_server_follow (n_impl_server s) (gi m 3)) 8)), (V.inl t_int' (gl (impl_server_follow (n_impl_server s) (gi m 3)) 9)), (V.inl t_int' (gl (impl_server_follow (n_impl_server s) (gi m 3)) 10)), (V.inl t_impl_Msg ((gl (impl_server_follow (n_impl_server s) (gi m 3)) 11) ++ [(V.agg [(V.int .i64 1), (V.int .i64 (gi (impl_server_follow (n_impl_server s) (gi m 3)) 0)), (V.int .i64 (gi m 1)), (V.int .i64 (gi (impl_server_follow (n_impl_server s) (gi m 3)) 1)), (V.int .i64 0), (V.int .i64 0), (V.inl t_impl_Item []), (V.int .i64 0), (V.bool false)])]))])
 else none
 else bif ((roomy (((gl (impl_server_follow (n_impl_server s) (gi m 3)) 11).length) + 1) 88) && true) then
 some (V.agg [(V.int .i64 (gi (impl_server_follow (n_impl_server s) (gi m 3)) 0)), (V.int .i64 (gi (impl_server_follow (n_impl_server s) (gi m 3)) 1)), (V.int .i64 (gi (impl_server_follow (n_impl_server s) (gi m 3)) 2)), (V.inl t_impl_Item (gl (impl_server_follow (n_impl_server s) (gi m 3)) 3)), (V.int .i64 (gi (impl_server_follow (n_impl_server s) (gi m 3)) 4)), (V.int .i64 (gi (impl_server_follow (n_impl_server s) (gi m 3)) 5)), (V.int .i64 (gi (impl_server_follow (n_impl_server s) (gi m 3)) 6)), (V.int .i64 (gi (impl_server_follow (n_impl_server s) (gi m 3)) 7)), (V.inl t_bool (gl (impl_server_follow (n_impl_server s) (gi m 3)) 8)), (V.inl t_int' (gl (impl_server_follow (n_impl_server s) (gi m 3)) 9)), (V.inl t_int' (gl (impl_server_follow (n_impl_server s) (gi m 3)) 10)), (V.inl t_impl_Msg ((gl (impl_server_follow (n_impl_server s) (gi m 3)) 11) ++ [(V.agg [(V.int .i64 1), (V.int .i64 (gi (impl_server_follow (n_impl_server s) (gi m 3)) 0)), (V.int .i64 (gi m 1)), (V.int .i64 (gi (impl_server_follow (n_impl_server s) (gi m 3)) 1)), (V.int .i64 0), (V.int .i64 0), (V.inl t_impl_Item []), (V.int .i64 0), (V.bool false)])]))])
 else none
 else bif ((roomy (((gl (impl_server_follow (n_impl_server s) (gi m 3)) 11).length) + 1) 88) && true) then
 some (V.agg [(V.int .i64 (gi (impl_server_follow (n_impl_server s) (gi m 3)) 0)), (V.int .i64 (gi (impl_server_follow (n_impl_server s) (gi m 3)) 1)), (V.int .i64 (gi (impl_server_follow (n_impl_server s) (gi m 3)) 2)), (V.inl t_impl_Item (gl (impl_server_follow (n_impl_server s) (gi m 3)) 3)), (V.int .i64 (gi (impl_server_follow (n_impl_server s) (gi m 3)) 4)), (V.int .i64 (gi (impl_server_follow (n_impl_server s) (gi m 3)) 5)), (V.int .i64 (gi (impl_server_follow (n_impl_server s) (gi m 3)) 6)), (V.int .i64 (gi (impl_server_follow (n_impl_server s) (gi m 3)) 7)), (V.inl t_bool (gl (impl_server_follow (n_impl_server s) (gi m 3)) 8)), (V.inl t_int' (gl (impl_server_follow (n_impl_server s) (gi m 3)) 9)), (V.inl t_int' (gl (impl_server_follow (n_impl_server s) (gi m 3)) 10)), (V.inl t_impl_Msg ((gl (impl_server_follow (n_impl_server s) (gi m 3)) 11) ++ [(V.agg [(V.int .i64 1), (V.int .i64 (gi (impl_server_follow (n_impl_server s) (gi m 3)) 0)), (V.int .i64 (gi m 1)), (V.int .i64 (gi (impl_server_follow (n_impl_server s) (gi m 3)) 1)), (V.int .i64 0), (V.int .i64 0), (V.inl t_impl_Item []), (V.int .i64 0), (V.bool false)])]))])
 else none
 else bif (decide ((gi m 0) = 1)) then
 bif (decide ((gi (impl_server_follow (n_impl_server s) (gi m 3)) 5) = 1)) then
 bif (decide ((gi m 3) = (gi (impl_server_follow (n_impl_server s) (gi m 3)) 1))) then
 bif (gb m 8) then
 bif (idxOk (gi m 1) ((gl (impl_server_follow (n_impl_server s) (gi m 3)) 8).length)) then
 Option.bind (impl_server_lead (V.agg [(V.int .i64 (gi (impl_server_follow (n_impl_server s) (gi m 3)) 0)), (V.int .i64 (gi (impl_server_follow (n_impl_server s) (gi m 3)) 1)), (V.int .i64 (gi (impl_server_follow (n_impl_server s) (gi m 3)) 2)), (V.inl t_impl_Item (gl (impl_server_follow (n_impl_server s) (gi m 3)) 3)), (V.int .i64 (gi (impl_server_follow (n_impl_server s) (gi m 3)) 4)), (V.int .i64 (gi (impl_server_follow (n_impl_server s) (gi m 3)) 5)), (V.int .i64 (gi (impl_server_follow (n_impl_server s) (gi m 3)) 6)), (V.int .i64 (gi (impl_server_follow (n_impl_server s) (gi m 3)) 7)), (V.inl t_bool ((gl (impl_server_follow (n_impl_server s) (gi m 3)) 8).set (0 + ((gi m 1).toNat)) (V.bool true))), (V.inl t_int' (gl (impl_server_follow (n_impl_server s) (gi m 3)) 9)), (V.inl t_int' (gl (impl_server_follow (n_impl_server s) (gi m 3)) 10)), (V.inl t_impl_Msg (gl (impl_server_follow (n_impl_server s) (gi m 3)) 11))])) fun r433 =>
 some (n_impl_server r433)
 else none
 else some (n_impl_server (impl_server_follow (n_impl_server s) (gi m 3)))
 else some (n_impl_server (impl_server_follow (n_impl_server s) (gi m 3)))
 else some (n_impl_server (impl_server_follow (n_impl_server s) (gi m 3)))
 else bif (decide ((gi m 0) = 2)) then
 Option.bind (impl_server_add (n_impl_server (impl_server_follow (n_impl_server s) (gi m 3))) (n_impl_Msg m)) fun r447 =>
 bif ((roomy (((gl r447.2.2 11).length) + 1) 88) && true) then
 some (V.agg [(V.int .i64 (gi r447.2.2 0)), (V.int .i64 (gi r447.2.2 1)), (V.int .i64 (gi r447.2.2 2)), (V.inl t_impl_Item (gl r447.2.2 3)), (V.int .i64 (gi r447.2.2 4)), (V.int .i64 (gi r447.2.2 5)), (V.int .i64 (gi r447.2.2 6)), (V.int .i64 (gi r447.2.2 7)), (V.inl t_bool (gl r447.2.2 8)), (V.inl t_int' (gl r447.2.2 9)), (V.inl t_int' (gl r447.2.2 10)), (V.inl t_impl_Msg ((gl r447.2.2 11) ++ [(V.agg [(V.int .i64 3), (V.int .i64 (gi (impl_server_follow (n_impl_server s) (gi m 3)) 0)), (V.int .i64 (gi m 1)), (V.int .i64 (gi r447.2.2 1)), (V.int .i64 r447.1), (V.int .i64 0), (V.inl t_impl_Item []), (V.int .i64 0), (V.bool r447.2.1)])]))])
 else none
 else Option.bind (impl_server_ack (n_impl_server (impl_server_follow (n_impl_server s) (gi m 3))) (n_impl_Msg m)) fun r452 =>
 some (n_impl_server r452)
 else bif (decide ((gi m 0) = 0)) then
 bif (decide ((gi m 3) = (gi s 1))) then
 bif (decide ((gi s 5) = 0)) then
 bif (decide ((gi s 2) = (-1))) then
 Option.bind (impl_Node_newer (n_impl_Node s) (gi m 4) (gi m 5)) fun r453 =>
 bif r453 then
 bif ((roomy (((gl s 11).length) + 1) 88) && true) then
 some (V.agg [(V.int .i64 (gi s 0)), (V.int .i64 (gi s 1)), (V.int .i64 (gi m 1)), (V.inl t_impl_Item (gl s 3)), (V.int .i64 (gi s 4)), (V.int .i64 (gi s 5)), (V.int .i64 (gi s 6)), (V.int .i64 0), (V.inl t_bool (gl s 8)), (V.inl t_int' (gl s 9)), (V.inl t_int' (gl s 10)), (V.inl t_impl_Msg ((gl s 11) ++ [(V.agg [(V.int .i64 1), (V.int .i64 (gi s 0)), (V.int .i64 (gi m 1)), (V.int .i64 (gi s 1)), (V.int .i64 0), (V.int .i64 0), (V.inl t_impl_Item []), (V.int .i64 0), (V.bool r453)])]))])
 else none
 else bif ((roomy (((gl s 11).length) + 1) 88) && true) then
 some (V.agg [(V.int .i64 (gi s 0)), (V.int .i64 (gi s 1)), (V.int .i64 (gi s 2)), (V.inl t_impl_Item (gl s 3)), (V.int .i64 (gi s 4)), (V.int .i64 (gi s 5)), (V.int .i64 (gi s 6)), (V.int .i64 (gi s 7)), (V.inl t_bool (gl s 8)), (V.inl t_int' (gl s 9)), (V.inl t_int' (gl s 10)), (V.inl t_impl_Msg ((gl s 11) ++ [(V.agg [(V.int .i64 1), (V.int .i64 (gi s 0)), (V.int .i64 (gi m 1)), (V.int .i64 (gi s 1)), (V.int .i64 0), (V.int .i64 0), (V.inl t_impl_Item []), (V.int .i64 0), (V.bool r453)])]))])
 else none
 else bif (decide ((gi s 2) = (gi m 1))) then
 Option.bind (impl_Node_newer (n_impl_Node s) (gi m 4) (gi m 5)) fun r454 =>
 bif r454 then
 bif ((roomy (((gl s 11).length) + 1) 88) && true) then
 some (V.agg [(V.int .i64 (gi s 0)), (V.int .i64 (gi s 1)), (V.int .i64 (gi m 1)), (V.inl t_impl_Item (gl s 3)), (V.int .i64 (gi s 4)), (V.int .i64 (gi s 5)), (V.int .i64 (gi s 6)), (V.int .i64 0), (V.inl t_bool (gl s 8)), (V.inl t_int' (gl s 9)), (V.inl t_int' (gl s 10)), (V.inl t_impl_Msg ((gl s 11) ++ [(V.agg [(V.int .i64 1), (V.int .i64 (gi s 0)), (V.int .i64 (gi m 1)), (V.int .i64 (gi s 1)), (V.int .i64 0), (V.int .i64 0), (V.inl t_impl_Item []), (V.int .i64 0), (V.bool r454)])]))])
 else none
 else bif ((roomy (((gl s 11).length) + 1) 88) && true) then
 some (V.agg [(V.int .i64 (gi s 0)), (V.int .i64 (gi s 1)), (V.int .i64 (gi s 2)), (V.inl t_impl_Item (gl s 3)), (V.int .i64 (gi s 4)), (V.int .i64 (gi s 5)), (V.int .i64 (gi s 6)), (V.int .i64 (gi s 7)), (V.inl t_bool (gl s 8)), (V.inl t_int' (gl s 9)), (V.inl t_int' (gl s 10)), (V.inl t_impl_Msg ((gl s 11) ++ [(V.agg [(V.int .i64 1), (V.int .i64 (gi s 0)), (V.int .i64 (gi m 1)), (V.int .i64 (gi s 1)), (V.int .i64 0), (V.int .i64 0), (V.inl t_impl_Item []), (V.int .i64 0), (V.bool r454)])]))])
 else none
 else bif ((roomy (((gl s 11).length) + 1) 88) && true) then
 some (V.agg [(V.int .i64 (gi s 0)), (V.int .i64 (gi s 1)), (V.int .i64 (gi s 2)), (V.inl t_impl_Item (gl s 3)), (V.int .i64 (gi s 4)), (V.int .i64 (gi s 5)), (V.int .i64 (gi s 6)), (V.int .i64 (gi s 7)), (V.inl t_bool (gl s 8)), (V.inl t_int' (gl s 9)), (V.inl t_int' (gl s 10)), (V.inl t_impl_Msg ((gl s 11) ++ [(V.agg [(V.int .i64 1), (V.int .i64 (gi s 0)), (V.int .i64 (gi m 1)), (V.int .i64 (gi s 1)), (V.int .i64 0), (V.int .i64 0), (V.inl t_impl_Item []), (V.int .i64 0), (V.bool false)])]))])
 else none
 else bif ((roomy (((gl s 11).length) + 1) 88) && true) then
 some (V.agg [(V.int .i64 (gi s 0)), (V.int .i64 (gi s 1)), (V.int .i64 (gi s 2)), (V.inl t_impl_Item (gl s 3)), (V.int .i64 (gi s 4)), (V.int .i64 (gi s 5)), (V.int .i64 (gi s 6)), (V.int .i64 (gi s 7)), (V.inl t_bool (gl s 8)), (V.inl t_int' (gl s 9)), (V.inl t_int' (gl s 10)), (V.inl t_impl_Msg ((gl s 11) ++ [(V.agg [(V.int .i64 1), (V.int .i64 (gi s 0)), (V.int .i64 (gi m 1)), (V.int .i64 (gi s 1)), (V.int .i64 0), (V.int .i64 0), (V.inl t_impl_Item []), (V.int .i64 0), (V.bool false)])]))])
 else none
 else bif ((roomy (((gl s 11).length) + 1) 88) && true) then
 some (V.agg [(V.int .i64 (gi s 0)), (V.int .i64 (gi s 1)), (V.int .i64 (gi s 2)), (V.inl t_impl_Item (gl s 3)), (V.int .i64 (gi s 4)), (V.int .i64 (gi s 5)), (V.int .i64 (gi s 6)), (V.int .i64 (gi s 7)), (V.inl t_bool (gl s 8)), (V.inl t_int' (gl s 9)), (V.inl t_int' (gl s 10)), (V.inl t_impl_Msg ((gl s 11) ++ [(V.agg [(V.int .i64 1), (V.int .i64 (gi s 0)), (V.int .i64 (gi m 1)), (V.int .i64 (gi s 1)), (V.int .i64 0), (V.int .i64 0), (V.inl t_impl_Item []), (V.int .i64 0), (V.bool false)])]))])
 else none
 else bif (decide ((gi m 0) = 1)) then
 bif (decide ((gi s 5) = 1)) then
 bif (decide ((gi m 3) = (gi s 1))) then
 bif (gb m 8) then
 bif (idxOk (gi m 1) ((gl s 8).length)) then
 Option.bind (impl_server_lead (V.agg [(V.int .i64 (gi s 0)), (V.int .i64 (gi s 1)), (V.int .i64 (gi s 2)), (V.inl t_impl_Item (gl s 3)), (V.int .i64 (gi s 4)), (V.int .i64 (gi s 5)), (V.int .i64 (gi s 6)), (V.int .i64 (gi s 7)), (V.inl t_bool ((gl s 8).set (0 + ((gi m 1).toNat)) (V.bool true))), (V.inl t_int' (gl s 9)), (V.inl t_int' (gl s 10)), (V.inl t_impl_Msg (gl s 11))])) fun r455 =>
 some (n_impl_server r455)
 else none
 else some (n_impl_server s)
 else some (n_impl_server s)
 else some (n_impl_server s)
 else bif (decide ((gi m 0) = 2)) then
 Option.bind (impl_server_add (n_impl_server s) (n_impl_Msg m)) fun r456 =>
 bif ((roomy (((gl r456.2.2 11).length) + 1) 88) && true) then
 some (V.agg [(V.int .i64 (gi r456.2.2 0)), (V.int .i64 (gi r456.2.2 1)), (V.int .i64 (gi r456.2.2 2)), (V.inl t_impl_Item (gl r456.2.2 3)), (V.int .i64 (gi r456.2.2 4)), (V.int .i64 (gi r456.2.2 5)), (V.int .i64 (gi r456.2.2 6)), (V.int .i64 (gi r456.2.2 7)), (V.inl t_bool (gl r456.2.2 8)), (V.inl t_int' (gl r456.2.2 9)), (V.inl t_int' (gl r456.2.2 10)), (V.inl t_impl_Msg ((gl r456.2.2 11) ++ [(V.agg [(V.int .i64 3), (V.int .i64 (gi s 0)), (V.int .i64 (gi m 1)), (V.int .i64 (gi r456.2.2 1)), (V.int .i64 r456.1), (V.int .i64 0), (V.inl t_impl_Item []), (V.int .i64 0), (V.bool r456.2.1)])]))])
 else none
 else Option.bind (impl_server_ack (n_impl_server s) (n_impl_Msg m)) fun r457 =>
 some (n_impl_server r457)
def impl_Hear (n : V) (servers : Int) (m : V) : Option (V × List V) :=
 Option.bind (impl_NodeOk (n_impl_Node n) servers) fun r383 =>
 bif (!r383) then
 some ((V.agg [(V.int .i64 0), (V.int .i64 0), (V.int .i64 0), (V.inl t_impl_Item []), (V.int .i64 0), (V.int .i64 0), (V.int .i64 0), (V.int .i64 0), (V.inl t_bool []), (V.inl t_int' []), (V.inl t_int' [])]), [])
 else Option.bind (impl_MsgOk (n_impl_Msg m)) fun r401 =>
 bif (!r401) then
 some ((V.agg [(V.int .i64 0), (V.int .i64 0), (V.int .i64 0), (V.inl t_impl_Item []), (V.int .i64 0), (V.int .i64 0), (V.int .i64 0), (V.int .i64 0), (V.inl t_bool []), (V.inl t_int' []), (V.inl t_int' [])]), [])
 else bif (!(decide ((gi m 2) = (gi n 0)))) then
 some ((V.agg [(V.int .i64 0), (V.int .i64 0), (V.int .i64 0), (V.inl t_impl_Item []), (V.int .i64 0), (V.int .i64 0), (V.int .i64 0), (V.int .i64 0), (V.inl t_bool []), (V.inl t_int' []), (V.inl t_int' [])]), [])
 else bif (decide (servers ≤ (gi m 1))) then
 some ((V.agg [(V.int .i64 0), (V.int .i64 0), (V.int .i64 0), (V.inl t_impl_Item []), (V.int .i64 0), (V.int .i64 0), (V.int .i64 0), (V.int .i64 0), (V.inl t_bool []), (V.inl t_int' []), (V.inl t_int' [])]), [])
 else Option.bind (impl_Node_own (n_impl_Node n)) fun r411 =>
 Option.bind (impl_server_hear (V.agg [(V.int .i64 (gi r411 0)), (V.int .i64 (gi r411 1)), (V.int .i64 (gi r411 2)), (V.inl t_impl_Item (gl r411 3)), (V.int .i64 (gi r411 4)), (V.int .i64 (gi r411 5)), (V.int .i64 (gi r411 6)), (V.int .i64 (gi r411 7)), (V.inl t_bool (gl r411 8)), (V.inl t_int' (gl r411 9)), (V.inl t_int' (gl r411 10)), (V.inl t_impl_Msg [])]) (n_impl_Msg m)) fun r458 =>
 some ((n_impl_Node r458), (gl r458 11))
def spec_l4servers (n : Int) : Bool :=
 bif (decide ((1 : Int) ≤ n)) then
 (decide (n ≤ 5))
 else false
def spec_l3term (n : Int) : Bool :=
 bif (decide ((0 : Int) ≤ n)) then
 (decide (n ≤ 100000))
 else false
def spec_l4who (n : Int) (servers : Int) : Bool :=
 bif (decide ((-1 : Int) ≤ n)) then
 (decide (n < servers))
 else false
def spec_l2val (b : List V) : Bool :=
 (decide (((b.length : Nat) : Int) ≤ 20))
def spec_l2index (n : Int) : Bool :=
 bif (decide ((0 : Int) ≤ n)) then
 (decide (n ≤ 1000000))
 else false
def spec_l2key_l4 : Nat → List V → Int → Option (Nat × Bool)
 | 0, _, _ => none
 | k_ + 1, b0, i3 =>
 bif (decide (i3 < ((b0.length : Nat) : Int))) then
 bif (idxOk i3 b0.length) then
 bif (decide ((gi (rd b0 i3.toNat) 0) < 97)) then
 bif (idxOk i3 b0.length) then
 bif (!(decide ((gi (rd b0 i3.toNat) 0) = 47))) then
 some (0, false)
 else spec_l2key_l4 k_ b0 (IntKind.i64.wrap (i3 + 1))
 else none
 else bif (idxOk i3 b0.length) then
 bif (decide ((122 : Int) < (gi (rd b0 i3.toNat) 0))) then
 bif (idxOk i3 b0.length) then
 bif (!(decide ((gi (rd b0 i3.toNat) 0) = 47))) then
 some (0, false)
 else spec_l2key_l4 k_ b0 (IntKind.i64.wrap (i3 + 1))
 else none
 else spec_l2key_l4 k_ b0 (IntKind.i64.wrap (i3 + 1))
 else none
 else none
 else some (1, false)
def spec_l2key (b : List V) : Option (Bool) :=
 bif (decide (((b.length : Nat) : Int) < 1)) then
 some false
 else bif (decide ((20 : Int) < ((b.length : Nat) : Int))) then
 some false
 else Option.bind (spec_l2key_l4 ((((b.length : Nat) : Int) - 0).toNat + 1) b 0) fun r460 =>
 bif (Nat.beq r460.1 0) then
 some r460.2
 else some true
def spec_OpOk (o : V) : Option (Bool) :=
 bif (decide ((gi o 0) < 0)) then
 some false
 else bif (decide ((7 : Int) < (gi o 0))) then
 some false
 else bif (!(spec_l2val (gl o 2))) then
 some false
 else bif (!(spec_l2index (gi o 3))) then
 some false
 else bif (decide ((gi o 0) = 1)) then
 Option.bind (spec_l2key (gl o 1)) fun r461 =>
 bif (!r461) then
 some false
 else bif (decide ((gi o 0) = 1)) then
 bif (decide ((gi o 0) = 0)) then
 some (decide ((gi o 3) = 0))
 else bif (decide ((gi o 0) = 1)) then
 some (decide ((gi o 3) = 0))
 else bif (decide ((gi o 0) = 3)) then
 some (decide ((gi o 3) = 0))
 else bif (decide ((gi o 0) = 4)) then
 some (decide ((gi o 3) ≤ 1))
 else bif (decide ((gi o 0) = 2)) then
 some true
 else some (decide ((1 : Int) ≤ (gi o 3)))
 else bif (decide ((gi o 0) = 2)) then
 bif (decide ((gi o 0) = 0)) then
 some (decide ((gi o 3) = 0))
 else bif (decide ((gi o 0) = 1)) then
 some (decide ((gi o 3) = 0))
 else bif (decide ((gi o 0) = 3)) then
 some (decide ((gi o 3) = 0))
 else bif (decide ((gi o 0) = 4)) then
 some (decide ((gi o 3) ≤ 1))
 else bif (decide ((gi o 0) = 2)) then
 some true
 else some (decide ((1 : Int) ≤ (gi o 3)))
 else bif (!(decide ((gi o 0) = 6))) then
 bif (decide ((0 : Int) < (((gl o 2).length : Nat) : Int))) then
 some false
 else bif (decide ((gi o 0) = 0)) then
 some (decide ((gi o 3) = 0))
 else bif (decide ((gi o 0) = 1)) then
 some (decide ((gi o 3) = 0))
 else bif (decide ((gi o 0) = 3)) then
 some (decide ((gi o 3) = 0))
 else bif (decide ((gi o 0) = 4)) then
 some (decide ((gi o 3) ≤ 1))
 else bif (decide ((gi o 0) = 2)) then
 some true
 else some (decide ((1 : Int) ≤ (gi o 3)))
 else bif (decide ((gi o 0) = 0)) then
 some (decide ((gi o 3) = 0))
 else bif (decide ((gi o 0) = 1)) then
 some (decide ((gi o 3) = 0))
 else bif (decide ((gi o 0) = 3)) then
 some (decide ((gi o 3) = 0))
 else bif (decide ((gi o 0) = 4)) then
 some (decide ((gi o 3) ≤ 1))
 else bif (decide ((gi o 0) = 2)) then
 some true
 else some (decide ((1 : Int) ≤ (gi o 3)))
 else bif (decide ((gi o 0) = 2)) then
 Option.bind (spec_l2key (gl o 1)) fun r462 =>
 bif (!r462) then
 some false
 else bif (decide ((gi o 0) = 1)) then
 bif (decide ((gi o 0) = 0)) then
 some (decide ((gi o 3) = 0))
 else bif (decide ((gi o 0) = 1)) then
 some (decide ((gi o 3) = 0))
 else bif (decide ((gi o 0) = 3)) then
 some (decide ((gi o 3) = 0))
 else bif (decide ((gi o 0) = 4)) then
 some (decide ((gi o 3) ≤ 1))
 else bif (decide ((gi o 0) = 2)) then
 some true
 else some (decide ((1 : Int) ≤ (gi o 3)))
 else bif (decide ((gi o 0) = 2)) then
 bif (decide ((gi o 0) = 0)) then
 some (decide ((gi o 3) = 0))
 else bif (decide ((gi o 0) = 1)) then
 some (decide ((gi o 3) = 0))
 else bif (decide ((gi o 0) = 3)) then
 some (decide ((gi o 3) = 0))
 else bif (decide ((gi o 0) = 4)) then
 some (decide ((gi o 3) ≤ 1))
 else bif (decide ((gi o 0) = 2)) then
 some true
 else some (decide ((1 : Int) ≤ (gi o 3)))
 else bif (!(decide ((gi o 0) = 6))) then
 bif (decide ((0 : Int) < (((gl o 2).length : Nat) : Int))) then
 some false
 else bif (decide ((gi o 0) = 0)) then
 some (decide ((gi o 3) = 0))
 else bif (decide ((gi o 0) = 1)) then
 some (decide ((gi o 3) = 0))
 else bif (decide ((gi o 0) = 3)) then
 some (decide ((gi o 3) = 0))
 else bif (decide ((gi o 0) = 4)) then
 some (decide ((gi o 3) ≤ 1))
 else bif (decide ((gi o 0) = 2)) then
 some true
 else some (decide ((1 : Int) ≤ (gi o 3)))
 else bif (decide ((gi o 0) = 0)) then
 some (decide ((gi o 3) = 0))
 else bif (decide ((gi o 0) = 1)) then
 some (decide ((gi o 3) = 0))
 else bif (decide ((gi o 0) = 3)) then
 some (decide ((gi o 3) = 0))
 else bif (decide ((gi o 0) = 4)) then
 some (decide ((gi o 3) ≤ 1))
 else bif (decide ((gi o 0) = 2)) then
 some true
 else some (decide ((1 : Int) ≤ (gi o 3)))
 else bif (decide ((gi o 0) = 3)) then
 Option.bind (spec_l2key (gl o 1)) fun r463 =>
 bif (!r463) then
 some false
 else bif (decide ((gi o 0) = 1)) then
 bif (decide ((gi o 0) = 0)) then
 some (decide ((gi o 3) = 0))
 else bif (decide ((gi o 0) = 1)) then
 some (decide ((gi o 3) = 0))
 else bif (decide ((gi o 0) = 3)) then
 some (decide ((gi o 3) = 0))
 else bif (decide ((gi o 0) = 4)) then
 some (decide ((gi o 3) ≤ 1))
 else bif (decide ((gi o 0) = 2)) then
 some true
 else some (decide ((1 : Int) ≤ (gi o 3)))
 else bif (decide ((gi o 0) = 2)) then
 bif (decide ((gi o 0) = 0)) then
 some (decide ((gi o 3) = 0))
 else bif (decide ((gi o 0) = 1)) then
 some (decide ((gi o 3) = 0))
 else bif (decide ((gi o 0) = 3)) then
 some (decide ((gi o 3) = 0))
 else bif (decide ((gi o 0) = 4)) then
 some (decide ((gi o 3) ≤ 1))
 else bif (decide ((gi o 0) = 2)) then
 some true
 else some (decide ((1 : Int) ≤ (gi o 3)))
 else bif (!(decide ((gi o 0) = 6))) then
 bif (decide ((0 : Int) < (((gl o 2).length : Nat) : Int))) then
 some false
 else bif (decide ((gi o 0) = 0)) then
 some (decide ((gi o 3) = 0))
 else bif (decide ((gi o 0) = 1)) then
 some (decide ((gi o 3) = 0))
 else bif (decide ((gi o 0) = 3)) then
 some (decide ((gi o 3) = 0))
 else bif (decide ((gi o 0) = 4)) then
 some (decide ((gi o 3) ≤ 1))
 else bif (decide ((gi o 0) = 2)) then
 some true
 else some (decide ((1 : Int) ≤ (gi o 3)))
 else bif (decide ((gi o 0) = 0)) then
 some (decide ((gi o 3) = 0))
 else bif (decide ((gi o 0) = 1)) then
 some (decide ((gi o 3) = 0))
 else bif (decide ((gi o 0) = 3)) then
 some (decide ((gi o 3) = 0))
 else bif (decide ((gi o 0) = 4)) then
 some (decide ((gi o 3) ≤ 1))
 else bif (decide ((gi o 0) = 2)) then
 some true
 else some (decide ((1 : Int) ≤ (gi o 3)))
 else bif (decide ((gi o 0) = 6)) then
 Option.bind (spec_l2key (gl o 1)) fun r464 =>
 bif (!r464) then
 some false
 else bif (decide ((gi o 0) = 1)) then
 bif (decide ((gi o 0) = 0)) then
 some (decide ((gi o 3) = 0))
 else bif (decide ((gi o 0) = 1)) then
 some (decide ((gi o 3) = 0))
 else bif (decide ((gi o 0) = 3)) then
 some (decide ((gi o 3) = 0))
 else bif (decide ((gi o 0) = 4)) then
 some (decide ((gi o 3) ≤ 1))
 else bif (decide ((gi o 0) = 2)) then
 some true
 else some (decide ((1 : Int) ≤ (gi o 3)))
 else bif (decide ((gi o 0) = 2)) then
 bif (decide ((gi o 0) = 0)) then
 some (decide ((gi o 3) = 0))
 else bif (decide ((gi o 0) = 1)) then
 some (decide ((gi o 3) = 0))
 else bif (decide ((gi o 0) = 3)) then
 some (decide ((gi o 3) = 0))
 else bif (decide ((gi o 0) = 4)) then
 some (decide ((gi o 3) ≤ 1))
 else bif (decide ((gi o 0) = 2)) then
 some true
 else some (decide ((1 : Int) ≤ (gi o 3)))
 else bif (!(decide ((gi o 0) = 6))) then
 bif (decide ((0 : Int) < (((gl o 2).length : Nat) : Int))) then
 some false
 else bif (decide ((gi o 0) = 0)) then
 some (decide ((gi o 3) = 0))
 else bif (decide ((gi o 0) = 1)) then
 some (decide ((gi o 3) = 0))
 else bif (decide ((gi o 0) = 3)) then
 some (decide ((gi o 3) = 0))
 else bif (decide ((gi o 0) = 4)) then
 some (decide ((gi o 3) ≤ 1))
 else bif (decide ((gi o 0) = 2)) then
 some true
 else some (decide ((1 : Int) ≤ (gi o 3)))
 else bif (decide ((gi o 0) = 0)) then
 some (decide ((gi o 3) = 0))
 else bif (decide ((gi o 0) = 1)) then
 some (decide ((gi o 3) = 0))
 else bif (decide ((gi o 0) = 3)) then
 some (decide ((gi o 3) = 0))
 else bif (decide ((gi o 0) = 4)) then
 some (decide ((gi o 3) ≤ 1))
 else bif (decide ((gi o 0) = 2)) then
 some true
 else some (decide ((1 : Int) ≤ (gi o 3)))
 else bif (decide ((gi o 0) = 7)) then
 Option.bind (spec_l2key (gl o 1)) fun r465 =>
 bif (!r465) then
 some false
 else bif (!(decide ((gi o 0) = 7))) then
 bif (decide ((0 : Int) < (((gl o 1).length : Nat) : Int))) then
 some false
 else bif (decide ((gi o 0) = 1)) then
 bif (decide ((gi o 0) = 0)) then
 some (decide ((gi o 3) = 0))
 else bif (decide ((gi o 0) = 1)) then
 some (decide ((gi o 3) = 0))
 else bif (decide ((gi o 0) = 3)) then
 some (decide ((gi o 3) = 0))
 else bif (decide ((gi o 0) = 4)) then
 some (decide ((gi o 3) ≤ 1))
 else bif (decide ((gi o 0) = 2)) then
 some true
 else some (decide ((1 : Int) ≤ (gi o 3)))
 else bif (decide ((gi o 0) = 2)) then
 bif (decide ((gi o 0) = 0)) then
 some (decide ((gi o 3) = 0))
 else bif (decide ((gi o 0) = 1)) then
 some (decide ((gi o 3) = 0))
 else bif (decide ((gi o 0) = 3)) then
 some (decide ((gi o 3) = 0))
 else bif (decide ((gi o 0) = 4)) then
 some (decide ((gi o 3) ≤ 1))
 else bif (decide ((gi o 0) = 2)) then
 some true
 else some (decide ((1 : Int) ≤ (gi o 3)))
 else bif (!(decide ((gi o 0) = 6))) then
 bif (decide ((0 : Int) < (((gl o 2).length : Nat) : Int))) then
 some false
 else bif (decide ((gi o 0) = 0)) then
 some (decide ((gi o 3) = 0))
 else bif (decide ((gi o 0) = 1)) then
 some (decide ((gi o 3) = 0))
 else bif (decide ((gi o 0) = 3)) then
 some (decide ((gi o 3) = 0))
 else bif (decide ((gi o 0) = 4)) then
 some (decide ((gi o 3) ≤ 1))
 else bif (decide ((gi o 0) = 2)) then
 some true
 else some (decide ((1 : Int) ≤ (gi o 3)))
 else bif (decide ((gi o 0) = 0)) then
 some (decide ((gi o 3) = 0))
 else bif (decide ((gi o 0) = 1)) then
 some (decide ((gi o 3) = 0))
 else bif (decide ((gi o 0) = 3)) then
 some (decide ((gi o 3) = 0))
 else bif (decide ((gi o 0) = 4)) then
 some (decide ((gi o 3) ≤ 1))
 else bif (decide ((gi o 0) = 2)) then
 some true
 else some (decide ((1 : Int) ≤ (gi o 3)))
 else bif (decide ((gi o 0) = 1)) then
 bif (decide ((gi o 0) = 0)) then
 some (decide ((gi o 3) = 0))
 else bif (decide ((gi o 0) = 1)) then
 some (decide ((gi o 3) = 0))
 else bif (decide ((gi o 0) = 3)) then
 some (decide ((gi o 3) = 0))
 else bif (decide ((gi o 0) = 4)) then
 some (decide ((gi o 3) ≤ 1))
 else bif (decide ((gi o 0) = 2)) then
 some true
 else some (decide ((1 : Int) ≤ (gi o 3)))
 else bif (decide ((gi o 0) = 2)) then
 bif (decide ((gi o 0) = 0)) then
 some (decide ((gi o 3) = 0))
 else bif (decide ((gi o 0) = 1)) then
 some (decide ((gi o 3) = 0))
 else bif (decide ((gi o 0) = 3)) then
 some (decide ((gi o 3) = 0))
 else bif (decide ((gi o 0) = 4)) then
 some (decide ((gi o 3) ≤ 1))
 else bif (decide ((gi o 0) = 2)) then
 some true
 else some (decide ((1 : Int) ≤ (gi o 3)))
 else bif (!(decide ((gi o 0) = 6))) then
 bif (decide ((0 : Int) < (((gl o 2).length : Nat) : Int))) then
 some false
 else bif (decide ((gi o 0) = 0)) then
 some (decide ((gi o 3) = 0))
 else bif (decide ((gi o 0) = 1)) then
 some (decide ((gi o 3) = 0))
 else bif (decide ((gi o 0) = 3)) then
 some (decide ((gi o 3) = 0))
 else bif (decide ((gi o 0) = 4)) then
 some (decide ((gi o 3) ≤ 1))
 else bif (decide ((gi o 0) = 2)) then
 some true
 else some (decide ((1 : Int) ≤ (gi o 3)))
 else bif (decide ((gi o 0) = 0)) then
 some (decide ((gi o 3) = 0))
 else bif (decide ((gi o 0) = 1)) then
 some (decide ((gi o 3) = 0))
 else bif (decide ((gi o 0) = 3)) then
 some (decide ((gi o 3) = 0))
 else bif (decide ((gi o 0) = 4)) then
 some (decide ((gi o 3) ≤ 1))
 else bif (decide ((gi o 0) = 2)) then
 some true
 else some (decide ((1 : Int) ≤ (gi o 3)))
 else bif (!(decide ((gi o 0) = 7))) then
 bif (decide ((0 : Int) < (((gl o 1).length : Nat) : Int))) then
 some false
 else bif (decide ((gi o 0) = 1)) then
 bif (decide ((gi o 0) = 0)) then
 some (decide ((gi o 3) = 0))
 else bif (decide ((gi o 0) = 1)) then
 some (decide ((gi o 3) = 0))
 else bif (decide ((gi o 0) = 3)) then
 some (decide ((gi o 3) = 0))
 else bif (decide ((gi o 0) = 4)) then
 some (decide ((gi o 3) ≤ 1))
 else bif (decide ((gi o 0) = 2)) then
 some true
 else some (decide ((1 : Int) ≤ (gi o 3)))
 else bif (decide ((gi o 0) = 2)) then
 bif (decide ((gi o 0) = 0)) then
 some (decide ((gi o 3) = 0))
 else bif (decide ((gi o 0) = 1)) then
 some (decide ((gi o 3) = 0))
 else bif (decide ((gi o 0) = 3)) then
 some (decide ((gi o 3) = 0))
 else bif (decide ((gi o 0) = 4)) then
 some (decide ((gi o 3) ≤ 1))
 else bif (decide ((gi o 0) = 2)) then
 some true
 else some (decide ((1 : Int) ≤ (gi o 3)))
 else bif (!(decide ((gi o 0) = 6))) then
 bif (decide ((0 : Int) < (((gl o 2).length : Nat) : Int))) then
 some false
 else bif (decide ((gi o 0) = 0)) then
 some (decide ((gi o 3) = 0))
 else bif (decide ((gi o 0) = 1)) then
 some (decide ((gi o 3) = 0))
 else bif (decide ((gi o 0) = 3)) then
 some (decide ((gi o 3) = 0))
 else bif (decide ((gi o 0) = 4)) then
 some (decide ((gi o 3) ≤ 1))
 else bif (decide ((gi o 0) = 2)) then
 some true
 else some (decide ((1 : Int) ≤ (gi o 3)))
 else bif (decide ((gi o 0) = 0)) then
 some (decide ((gi o 3) = 0))
 else bif (decide ((gi o 0) = 1)) then
 some (decide ((gi o 3) = 0))
 else bif (decide ((gi o 0) = 3)) then
 some (decide ((gi o 3) = 0))
 else bif (decide ((gi o 0) = 4)) then
 some (decide ((gi o 3) ≤ 1))
 else bif (decide ((gi o 0) = 2)) then
 some true
 else some (decide ((1 : Int) ≤ (gi o 3)))
 else bif (decide ((gi o 0) = 1)) then
 bif (decide ((gi o 0) = 0)) then
 some (decide ((gi o 3) = 0))
 else bif (decide ((gi o 0) = 1)) then
 some (decide ((gi o 3) = 0))
 else bif (decide ((gi o 0) = 3)) then
 some (decide ((gi o 3) = 0))
 else bif (decide ((gi o 0) = 4)) then
 some (decide ((gi o 3) ≤ 1))
 else bif (decide ((gi o 0) = 2)) then
 some true
 else some (decide ((1 : Int) ≤ (gi o 3)))
 else bif (decide ((gi o 0) = 2)) then
 bif (decide ((gi o 0) = 0)) then
 some (decide ((gi o 3) = 0))
 else bif (decide ((gi o 0) = 1)) then
 some (decide ((gi o 3) = 0))
 else bif (decide ((gi o 0) = 3)) then
 some (decide ((gi o 3) = 0))
 else bif (decide ((gi o 0) = 4)) then
 some (decide ((gi o 3) ≤ 1))
 else bif (decide ((gi o 0) = 2)) then
 some true
 else some (decide ((1 : Int) ≤ (gi o 3)))
 else bif (!(decide ((gi o 0) = 6))) then
 bif (decide ((0 : Int) < (((gl o 2).length : Nat) : Int))) then
 some false
 else bif (decide ((gi o 0) = 0)) then
 some (decide ((gi o 3) = 0))
 else bif (decide ((gi o 0) = 1)) then
 some (decide ((gi o 3) = 0))
 else bif (decide ((gi o 0) = 3)) then
 some (decide ((gi o 3) = 0))
 else bif (decide ((gi o 0) = 4)) then
 some (decide ((gi o 3) ≤ 1))
 else bif (decide ((gi o 0) = 2)) then
 some true
 else some (decide ((1 : Int) ≤ (gi o 3)))
 else bif (decide ((gi o 0) = 0)) then
 some (decide ((gi o 3) = 0))
 else bif (decide ((gi o 0) = 1)) then
 some (decide ((gi o 3) = 0))
 else bif (decide ((gi o 0) = 3)) then
 some (decide ((gi o 3) = 0))
 else bif (decide ((gi o 0) = 4)) then
 some (decide ((gi o 3) ≤ 1))
 else bif (decide ((gi o 0) = 2)) then
 some true
 else some (decide ((1 : Int) ≤ (gi o 3)))
def spec_CmdOk (c : V) : Option (Bool) :=
 bif (decide ((gi c 0) = (-1))) then
 bif (decide ((gi c 1) = 0)) then
 bif (decide ((gi c 2) = 0)) then
 Option.bind (spec_OpOk (V.agg [(V.int .i64 (gi c 2)), (V.inl t_byte (gl c 3)), (V.inl t_byte (gl c 4)), (V.int .i64 (gi c 5))])) fun r466 =>
 some r466
 else some false
 else some false
 else bif (decide ((0 : Int) ≤ (gi c 0))) then
 bif (decide ((gi c 0) < 4)) then
 bif (decide ((1 : Int) ≤ (gi c 1))) then
 bif (decide ((gi c 1) ≤ 1000000)) then
 Option.bind (spec_OpOk (V.agg [(V.int .i64 (gi c 2)), (V.inl t_byte (gl c 3)), (V.inl t_byte (gl c 4)), (V.int .i64 (gi c 5))])) fun r467 =>
 some r467
 else some false
 else some false
 else some false
 else some false
def spec_ItemOk (x : V) : Option (Bool) :=
 bif (decide ((1 : Int) ≤ (gi x 0))) then
 bif (decide ((gi x 0) ≤ 100000)) then
 Option.bind (spec_CmdOk (V.agg [(V.int .i64 (gi x 1)), (V.int .i64 (gi x 2)), (V.int .i64 (gi x 3)), (V.inl t_byte (gl x 4)), (V.inl t_byte (gl x 5)), (V.int .i64 (gi x 6))])) fun r468 =>
 some r468
 else some false
 else some false
def spec_NodeOk_l4 : Nat → Int → Int → V → Option (Nat × Int × Bool × V)
 | 0, _, _, _ => none
 | k_ + 1, servers1, i5, b0 =>
 bif (decide (i5 < (((gl b0 3).length : Nat) : Int))) then
 bif (idxOk i5 ((gl b0 3).length)) then
 Option.bind (spec_ItemOk (n_impl_Item (rd (gl b0 3) i5.toNat))) fun r469 =>
 bif (!r469) then
 some (0, servers1, false, (n_impl_Node b0))
 else bif (idxOk i5 ((gl b0 3).length)) then
 bif (decide ((gi b0 1) < (gi (rd (gl b0 3) i5.toNat) 0))) then
 some (0, servers1, false, (n_impl_Node b0))
 else bif (decide ((0 : Int) < i5)) then
 bif (idxOk (IntKind.i64.wrap (i5 - 1)) ((gl b0 3).length)) then
 bif (idxOk i5 ((gl b0 3).length)) then
 bif (decide ((gi (rd (gl b0 3) i5.toNat) 0) < (gi (rd (gl b0 3) ((IntKind.i64.wrap (i5 - 1)).toNat)) 0))) then
 some (0, servers1, false, (n_impl_Node b0))
 else spec_NodeOk_l4 k_ servers1 (IntKind.i64.wrap (i5 + 1)) (n_impl_Node b0)
 else none
 else none
 else spec_NodeOk_l4 k_ servers1 (IntKind.i64.wrap (i5 + 1)) (n_impl_Node b0)
 else none
 else none
 else some (1, servers1, false, (n_impl_Node b0))
def spec_NodeOk_l11 : Nat → Int → Int → V → Option (Nat × Bool × V)
 | 0, _, _, _ => none
 | k_ + 1, servers1, i6, b0 =>
 bif (decide (i6 < servers1)) then
 bif (decide ((gi b0 5) = 2)) then
 bif (idxOk i6 ((gl b0 9).length)) then
 bif (decide ((gi (rd (gl b0 9) i6.toNat) 0) < 1)) then
 some (0, false, (n_impl_Node b0))
 else bif (idxOk i6 ((gl b0 9).length)) then
 bif (decide ((IntKind.i64.wrap ((((gl b0 3).length : Nat) : Int) + 1)) < (gi (rd (gl b0 9) i6.toNat) 0))) then
 some (0, false, (n_impl_Node b0))
 else bif (idxOk i6 ((gl b0 10).length)) then
 bif (decide ((gi (rd (gl b0 10) i6.toNat) 0) < 0)) then
 some (0, false, (n_impl_Node b0))
 else bif (idxOk i6 ((gl b0 10).length)) then
 bif (decide ((((gl b0 3).length : Nat) : Int) < (gi (rd (gl b0 10) i6.toNat) 0))) then
 some (0, false, (n_impl_Node b0))
 else bif (!(decide ((gi b0 5) = 2))) then
 bif (idxOk i6 ((gl b0 9).length)) then
 bif (!(decide ((gi (rd (gl b0 9) i6.toNat) 0) = 0))) then
 some (0, false, (n_impl_Node b0))
 else bif (idxOk i6 ((gl b0 10).length)) then
 bif (!(decide ((gi (rd (gl b0 10) i6.toNat) 0) = 0))) then
 some (0, false, (n_impl_Node b0))
 else bif (decide ((gi b0 5) = 0)) then
 bif (idxOk i6 ((gl b0 8).length)) then
 bif (gb (rd (gl b0 8) i6.toNat) 0) then
 some (0, false, (n_impl_Node b0))
 else spec_NodeOk_l11 k_ servers1 (IntKind.i64.wrap (i6 + 1)) (n_impl_Node b0)
 else none
 else spec_NodeOk_l11 k_ servers1 (IntKind.i64.wrap (i6 + 1)) (n_impl_Node b0)
 else none
 else none
 else bif (decide ((gi b0 5) = 0)) then
 bif (idxOk i6 ((gl b0 8).length)) then
 bif (gb (rd (gl b0 8) i6.toNat) 0) then
 some (0, false, (n_impl_Node b0))
 else spec_NodeOk_l11 k_ servers1 (IntKind.i64.wrap (i6 + 1)) (n_impl_Node b0)
 else none
 else spec_NodeOk_l11 k_ servers1 (IntKind.i64.wrap (i6 + 1)) (n_impl_Node b0)
 else none
 else none
 else none
 else none
 else bif (!(decide ((gi b0 5) = 2))) then
 bif (idxOk i6 ((gl b0 9).length)) then
 bif (!(decide ((gi (rd (gl b0 9) i6.toNat) 0) = 0))) then
 some (0, false, (n_impl_Node b0))
 else bif (idxOk i6 ((gl b0 10).length)) then
 bif (!(decide ((gi (rd (gl b0 10) i6.toNat) 0) = 0))) then
 some (0, false, (n_impl_Node b0))
 else bif (decide ((gi b0 5) = 0)) then
 bif (idxOk i6 ((gl b0 8).length)) then
 bif (gb (rd (gl b0 8) i6.toNat) 0) then
 some (0, false, (n_impl_Node b0))
 else spec_NodeOk_l11 k_ servers1 (IntKind.i64.wrap (i6 + 1)) (n_impl_Node b0)
 else none
 else spec_NodeOk_l11 k_ servers1 (IntKind.i64.wrap (i6 + 1)) (n_impl_Node b0)
 else none
 else none
 else bif (decide ((gi b0 5) = 0)) then
 bif (idxOk i6 ((gl b0 8).length)) then
 bif (gb (rd (gl b0 8) i6.toNat) 0) then
 some (0, false, (n_impl_Node b0))
 else spec_NodeOk_l11 k_ servers1 (IntKind.i64.wrap (i6 + 1)) (n_impl_Node b0)
 else none
 else spec_NodeOk_l11 k_ servers1 (IntKind.i64.wrap (i6 + 1)) (n_impl_Node b0)
 else some (1, false, (n_impl_Node b0))
def spec_NodeOk (n : V) (servers : Int) : Option (Bool) :=
 bif (!(spec_l4servers servers)) then
 some false
 else bif (decide ((gi n 0) < 0)) then
 some false
 else bif (decide (servers ≤ (gi n 0))) then
 some false
 else bif (!(spec_l3term (gi n 1))) then
 some false
 else bif (!(spec_l4who (gi n 2) servers)) then
 some false
 else bif (decide ((400 : Int) < (((gl n 3).length : Nat) : Int))) then
 some false
 else bif (decide ((gi n 4) < 0)) then
 some false
 else bif (decide ((((gl n 3).length : Nat) : Int) < (gi n 4))) then
 some false
 else bif (decide ((gi n 5) < 0)) then
 some false
 else bif (decide ((2 : Int) < (gi n 5))) then
 some false
 else bif (!(spec_l4who (gi n 6) servers)) then
 some false
 else bif (decide ((gi n 7) < 0)) then
 some false
 else bif (decide ((20 : Int) < (gi n 7))) then
 some false
 else bif (!(decide ((((gl n 8).length : Nat) : Int) = servers))) then
 some false
 else bif (!(decide ((((gl n 9).length : Nat) : Int) = servers))) then
 some false
 else bif (!(decide ((((gl n 10).length : Nat) : Int) = servers))) then
 some false
 else Option.bind (spec_NodeOk_l4 (((((gl (n_impl_Node n) 3).length : Nat) : Int) - 0).toNat + 1) servers 0 (n_impl_Node n)) fun r470 =>
 bif (Nat.beq r470.1 0) then
 some r470.2.2.1
 else bif (!(decide ((gi r470.2.2.2 5) = 0))) then
 bif (decide ((gi r470.2.2.2 1) < 1)) then
 some false
 else bif (!(decide ((gi r470.2.2.2 2) = (gi r470.2.2.2 0)))) then
 some false
 else Option.bind (spec_NodeOk_l11 ((r470.2.1 - 0).toNat + 1) r470.2.1 0 (n_impl_Node r470.2.2.2)) fun r471 =>
 bif (Nat.beq r471.1 0) then
 some r471.2.1
 else bif (!(decide ((gi r471.2.2 5) = 2))) then
 some true
 else some (decide ((gi r471.2.2 6) = (gi r471.2.2 0)))
 else Option.bind (spec_NodeOk_l11 ((r470.2.1 - 0).toNat + 1) r470.2.1 0 (n_impl_Node r470.2.2.2)) fun r472 =>
 bif (Nat.beq r472.1 0) then
 some r472.2.1
 else bif (!(decide ((gi r472.2.2 5) = 2))) then
 some true
 else some (decide ((gi r472.2.2 6) = (gi r472.2.2 0)))
def spec_l3server (n : Int) : Bool :=
 bif (decide ((0 : Int) ≤ n)) then
 (decide (n < 5))
 else false
def spec_l3place (n : Int) : Bool :=
 bif (decide ((0 : Int) ≤ n)) then
 (decide (n ≤ 400))
 else false
def spec_MsgOk_l6 : Nat → Int → V → Option (Nat × Bool × V)
 | 0, _, _ => none
 | k_ + 1, i3, b0 =>
 bif (decide (i3 < (((gl b0 6).length : Nat) : Int))) then
 bif (idxOk i3 ((gl b0 6).length)) then
 Option.bind (spec_ItemOk (n_impl_Item (rd (gl b0 6) i3.toNat))) fun r474 =>
 bif (!r474) then
 some (0, false, (n_impl_Msg b0))
 else bif (idxOk i3 ((gl b0 6).length)) then
 bif (decide ((gi b0 3) < (gi (rd (gl b0 6) i3.toNat) 0))) then
 some (0, false, (n_impl_Msg b0))
 else bif (decide ((0 : Int) < i3)) then
 bif (idxOk (IntKind.i64.wrap (i3 - 1)) ((gl b0 6).length)) then
 bif (idxOk i3 ((gl b0 6).length)) then
 bif (decide ((gi (rd (gl b0 6) i3.toNat) 0) < (gi (rd (gl b0 6) ((IntKind.i64.wrap (i3 - 1)).toNat)) 0))) then
 some (0, false, (n_impl_Msg b0))
 else bif (idxOk i3 ((gl b0 6).length)) then
 bif (decide ((gi (rd (gl b0 6) i3.toNat) 0) < (gi b0 5))) then
 some (0, false, (n_impl_Msg b0))
 else spec_MsgOk_l6 k_ (IntKind.i64.wrap (i3 + 1)) (n_impl_Msg b0)
 else none
 else none
 else none
 else bif (idxOk i3 ((gl b0 6).length)) then
 bif (decide ((gi (rd (gl b0 6) i3.toNat) 0) < (gi b0 5))) then
 some (0, false, (n_impl_Msg b0))
 else spec_MsgOk_l6 k_ (IntKind.i64.wrap (i3 + 1)) (n_impl_Msg b0)
 else none
 else none
 else none
 else some (1, false, (n_impl_Msg b0))
def spec_MsgOk (m : V) : Option (Bool) :=
 bif (decide ((gi m 0) < 0)) then
 some false
 else bif (decide ((3 : Int) < (gi m 0))) then
 some false
 else bif (!(spec_l3server (gi m 1))) then
 some false
 else bif (!(spec_l3server (gi m 2))) then
 some false
 else bif (decide ((gi m 1) = (gi m 2))) then
 some false
 else bif (decide ((gi m 3) < 1)) then
 some false
 else bif (!(spec_l3term (gi m 3))) then
 some false
 else bif (!(spec_l3place (gi m 4))) then
 some false
 else bif (!(spec_l3term (gi m 5))) then
 some false
 else bif (decide ((gi m 3) < (gi m 5))) then
 some false
 else bif (!(spec_l3place (gi m 7))) then
 some false
 else bif (decide ((4 : Int) < (((gl m 6).length : Nat) : Int))) then
 some false
 else bif (decide ((IntKind.i64.wrap (400 - (gi m 4))) < (((gl m 6).length : Nat) : Int))) then
 some false
 else bif (!((decide ((gi m 4) = 0)) == (decide ((gi m 5) = 0)))) then
 bif (!(decide ((gi m 0) = 3))) then
 bif (!(decide ((gi m 0) = 1))) then
 some false
 else Option.bind (spec_MsgOk_l6 (((((gl (n_impl_Msg m) 6).length : Nat) : Int) - 0).toNat + 1) 0 (n_impl_Msg m)) fun r475 =>
 bif (Nat.beq r475.1 0) then
 some r475.2.1
 else bif (decide ((gi r475.2.2 0) = 0)) then
 bif (decide ((((gl r475.2.2 6).length : Nat) : Int) = 0)) then
 bif (decide ((gi r475.2.2 7) = 0)) then
 some (!(gb r475.2.2 8))
 else some false
 else some false
 else bif (decide ((gi r475.2.2 0) = 1)) then
 bif (decide ((gi r475.2.2 4) = 0)) then
 bif (decide ((gi r475.2.2 5) = 0)) then
 bif (decide ((((gl r475.2.2 6).length : Nat) : Int) = 0)) then
 some (decide ((gi r475.2.2 7) = 0))
 else some false
 else some false
 else some false
 else bif (decide ((gi r475.2.2 0) = 2)) then
 some (!(gb r475.2.2 8))
 else bif (decide ((gi r475.2.2 5) = 0)) then
 bif (decide ((((gl r475.2.2 6).length : Nat) : Int) = 0)) then
 some (decide ((gi r475.2.2 7) = 0))
 else some false
 else some false
 else Option.bind (spec_MsgOk_l6 (((((gl (n_impl_Msg m) 6).length : Nat) : Int) - 0).toNat + 1) 0 (n_impl_Msg m)) fun r476 =>
 bif (Nat.beq r476.1 0) then
 some r476.2.1
 else bif (decide ((gi r476.2.2 0) = 0)) then
 bif (decide ((((gl r476.2.2 6).length : Nat) : Int) = 0)) then
 bif (decide ((gi r476.2.2 7) = 0)) then
 some (!(gb r476.2.2 8))
 else some false
 else some false
 else bif (decide ((gi r476.2.2 0) = 1)) then
 bif (decide ((gi r476.2.2 4) = 0)) then
 bif (decide ((gi r476.2.2 5) = 0)) then
 bif (decide ((((gl r476.2.2 6).length : Nat) : Int) = 0)) then
 some (decide ((gi r476.2.2 7) = 0))
 else some false
 else some false
 else some false
 else bif (decide ((gi r476.2.2 0) = 2)) then
 some (!(gb r476.2.2 8))
 else bif (decide ((gi r476.2.2 5) = 0)) then
 bif (decide ((((gl r476.2.2 6).length : Nat) : Int) = 0)) then
 some (decide ((gi r476.2.2 7) = 0))
 else some false
 else some false
 else Option.bind (spec_MsgOk_l6 (((((gl (n_impl_Msg m) 6).length : Nat) : Int) - 0).toNat + 1) 0 (n_impl_Msg m)) fun r477 =>
 bif (Nat.beq r477.1 0) then
 some r477.2.1
 else bif (decide ((gi r477.2.2 0) = 0)) then
 bif (decide ((((gl r477.2.2 6).length : Nat) : Int) = 0)) then
 bif (decide ((gi r477.2.2 7) = 0)) then
 some (!(gb r477.2.2 8))
 else some false
 else some false
 else bif (decide ((gi r477.2.2 0) = 1)) then
 bif (decide ((gi r477.2.2 4) = 0)) then
 bif (decide ((gi r477.2.2 5) = 0)) then
 bif (decide ((((gl r477.2.2 6).length : Nat) : Int) = 0)) then
 some (decide ((gi r477.2.2 7) = 0))
 else some false
 else some false
 else some false
 else bif (decide ((gi r477.2.2 0) = 2)) then
 some (!(gb r477.2.2 8))
 else bif (decide ((gi r477.2.2 5) = 0)) then
 bif (decide ((((gl r477.2.2 6).length : Nat) : Int) = 0)) then
 some (decide ((gi r477.2.2 7) = 0))
 else some false
 else some false
def laws_sameBytes (a : List V) (b : List V) : Bool :=
 (eqList (a.map normB) (b.map normB))
def laws_sameOp (a : V) (b : V) : Bool :=
 bif (decide ((gi a 0) = (gi b 0))) then
 bif laws_sameBytes (gl a 1) (gl b 1) then
 bif laws_sameBytes (gl a 2) (gl b 2) then
 (decide ((gi a 3) = (gi b 3)))
 else false
 else false
 else false
def laws_sameCmd (a : V) (b : V) : Bool :=
 bif (decide ((gi a 0) = (gi b 0))) then
 bif (decide ((gi a 1) = (gi b 1))) then
 (laws_sameOp (V.agg [(V.int .i64 (gi a 2)), (V.inl t_byte (gl a 3)), (V.inl t_byte (gl a 4)), (V.int .i64 (gi a 5))]) (V.agg [(V.int .i64 (gi b 2)), (V.inl t_byte (gl b 3)), (V.inl t_byte (gl b 4)), (V.int .i64 (gi b 5))]))
 else false
 else false
def laws_FnHears_l8 : Nat → Int → V → V → List V → List V → List V → List V → List V → List V → List V → List V → List V → Option (Nat × Bool × V × V × List V × List V × List V × List V × List V × List V × List V × List V × List V)
 | 0, _, _, _, _, _, _, _, _, _, _, _, _ => none
 | k_ + 1, i8, b0, b1, r2, r3, r4, r5, r6, r7, r8, r9, r10 =>
 bif (decide (i8 < (gi b0 4))) then
 bif (idxOk i8 r7.length) then
 bif (idxOk i8 r3.length) then
 bif (!(decide ((gi (rd r7 (0 + i8.toNat)) 0) = (gi (rd r3 (0 + i8.toNat)) 0)))) then
 some (0, false, (V.agg [(V.int .i64 (gi b0 0)), (V.int .i64 (gi b0 1)), (V.int .i64 (gi b0 2)), (V.sl 3 t_impl_Item 0 none), (V.int .i64 (gi b0 4)), (V.int .i64 (gi b0 5)), (V.int .i64 (gi b0 6)), (V.int .i64 (gi b0 7)), (V.sl 4 t_bool 0 none), (V.sl 5 t_int' 0 none), (V.sl 6 t_int' 0 none)]), (V.agg [(V.int .i64 (gi b1 0)), (V.int .i64 (gi b1 1)), (V.int .i64 (gi b1 2)), (V.sl 7 t_impl_Item 0 none), (V.int .i64 (gi b1 4)), (V.int .i64 (gi b1 5)), (V.int .i64 (gi b1 6)), (V.int .i64 (gi b1 7)), (V.sl 8 t_bool 0 none), (V.sl 9 t_int' 0 none), (V.sl 10 t_int' 0 none)]), r2, r3, r4, r5, r6, r7, r8, r9, r10)
 else bif (idxOk i8 r7.length) then
 bif (idxOk i8 r3.length) then
 bif (!(laws_sameCmd (V.agg [(V.int .i64 (gi (rd r7 (0 + i8.toNat)) 1)), (V.int .i64 (gi (rd r7 (0 + i8.toNat)) 2)), (V.int .i64 (gi (rd r7 (0 + i8.toNat)) 3)), (V.inl t_byte (gl (rd r7 (0 + i8.toNat)) 4)), (V.inl t_byte (gl (rd r7 (0 + i8.toNat)) 5)), (V.int .i64 (gi (rd r7 (0 + i8.toNat)) 6))]) (V.agg [(V.int .i64 (gi (rd r3 (0 + i8.toNat)) 1)), (V.int .i64 (gi (rd r3 (0 + i8.toNat)) 2)), (V.int .i64 (gi (rd r3 (0 + i8.toNat)) 3)), (V.inl t_byte (gl (rd r3 (0 + i8.toNat)) 4)), (V.inl t_byte (gl (rd r3 (0 + i8.toNat)) 5)), (V.int .i64 (gi (rd r3 (0 + i8.toNat)) 6))]))) then
 some (0, false, (V.agg [(V.int .i64 (gi b0 0)), (V.int .i64 (gi b0 1)), (V.int .i64 (gi b0 2)), (V.sl 3 t_impl_Item 0 none), (V.int .i64 (gi b0 4)), (V.int .i64 (gi b0 5)), (V.int .i64 (gi b0 6)), (V.int .i64 (gi b0 7)), (V.sl 4 t_bool 0 none), (V.sl 5 t_int' 0 none), (V.sl 6 t_int' 0 none)]), (V.agg [(V.int .i64 (gi b1 0)), (V.int .i64 (gi b1 1)), (V.int .i64 (gi b1 2)), (V.sl 7 t_impl_Item 0 none), (V.int .i64 (gi b1 4)), (V.int .i64 (gi b1 5)), (V.int .i64 (gi b1 6)), (V.int .i64 (gi b1 7)), (V.sl 8 t_bool 0 none), (V.sl 9 t_int' 0 none), (V.sl 10 t_int' 0 none)]), r2, r3, r4, r5, r6, r7, r8, r9, r10)
 else laws_FnHears_l8 k_ (IntKind.i64.wrap (i8 + 1)) (V.agg [(V.int .i64 (gi b0 0)), (V.int .i64 (gi b0 1)), (V.int .i64 (gi b0 2)), (V.sl 3 t_impl_Item 0 none), (V.int .i64 (gi b0 4)), (V.int .i64 (gi b0 5)), (V.int .i64 (gi b0 6)), (V.int .i64 (gi b0 7)), (V.sl 4 t_bool 0 none), (V.sl 5 t_int' 0 none), (V.sl 6 t_int' 0 none)]) (V.agg [(V.int .i64 (gi b1 0)), (V.int .i64 (gi b1 1)), (V.int .i64 (gi b1 2)), (V.sl 7 t_impl_Item 0 none), (V.int .i64 (gi b1 4)), (V.int .i64 (gi b1 5)), (V.int .i64 (gi b1 6)), (V.int .i64 (gi b1 7)), (V.sl 8 t_bool 0 none), (V.sl 9 t_int' 0 none), (V.sl 10 t_int' 0 none)]) r2 r3 r4 r5 r6 r7 r8 r9 r10
 else none
 else none
 else none
 else none
 else some (1, false, (V.agg [(V.int .i64 (gi b0 0)), (V.int .i64 (gi b0 1)), (V.int .i64 (gi b0 2)), (V.sl 3 t_impl_Item 0 none), (V.int .i64 (gi b0 4)), (V.int .i64 (gi b0 5)), (V.int .i64 (gi b0 6)), (V.int .i64 (gi b0 7)), (V.sl 4 t_bool 0 none), (V.sl 5 t_int' 0 none), (V.sl 6 t_int' 0 none)]), (V.agg [(V.int .i64 (gi b1 0)), (V.int .i64 (gi b1 1)), (V.int .i64 (gi b1 2)), (V.sl 7 t_impl_Item 0 none), (V.int .i64 (gi b1 4)), (V.int .i64 (gi b1 5)), (V.int .i64 (gi b1 6)), (V.int .i64 (gi b1 7)), (V.sl 8 t_bool 0 none), (V.sl 9 t_int' 0 none), (V.sl 10 t_int' 0 none)]), r2, r3, r4, r5, r6, r7, r8, r9, r10)
def laws_FnHears_l13 : Nat → Int → V → V → List V → List V → List V → List V → List V → List V → List V → List V → List V → Option (Nat × Bool)
 | 0, _, _, _, _, _, _, _, _, _, _, _, _ => none
 | k_ + 1, i9, b0, b1, r2, r3, r4, r5, r6, r7, r8, r9, r10 =>
 bif (decide (i9 < ((r2.length : Nat) : Int))) then
 bif (idxOk i9 r2.length) then
 Option.bind (impl_MsgOk (n_impl_Msg (rd r2 (0 + i9.toNat)))) fun r481 =>
 bif (!r481) then
 some (0, false)
 else bif (idxOk i9 r2.length) then
 bif (!(decide ((gi (rd r2 (0 + i9.toNat)) 1) = (gi b0 0)))) then
 some (0, false)
 else bif (idxOk i9 r2.length) then
 bif (!(decide ((gi (rd r2 (0 + i9.toNat)) 3) = (gi b1 1)))) then
 some (0, false)
 else laws_FnHears_l13 k_ (IntKind.i64.wrap (i9 + 1)) (V.agg [(V.int .i64 (gi b0 0)), (V.int .i64 (gi b0 1)), (V.int .i64 (gi b0 2)), (V.sl 3 t_impl_Item 0 none), (V.int .i64 (gi b0 4)), (V.int .i64 (gi b0 5)), (V.int .i64 (gi b0 6)), (V.int .i64 (gi b0 7)), (V.sl 4 t_bool 0 none), (V.sl 5 t_int' 0 none), (V.sl 6 t_int' 0 none)]) (V.agg [(V.int .i64 (gi b1 0)), (V.int .i64 (gi b1 1)), (V.int .i64 (gi b1 2)), (V.sl 7 t_impl_Item 0 none), (V.int .i64 (gi b1 4)), (V.int .i64 (gi b1 5)), (V.int .i64 (gi b1 6)), (V.int .i64 (gi b1 7)), (V.sl 8 t_bool 0 none), (V.sl 9 t_int' 0 none), (V.sl 10 t_int' 0 none)]) r2 r3 r4 r5 r6 r7 r8 r9 r10
 else none
 else none
 else none
 else some (1, false)
def laws_FnHears (code : List V) : Option (Bool) :=
 Option.bind (spec_DrawHear code) fun r361 =>
 Option.bind (impl_Hear (n_impl_Node r361.1) r361.2.1 (n_impl_Msg r361.2.2)) fun r459 =>
 Option.bind (spec_NodeOk (n_impl_Node r361.1) r361.2.1) fun r473 =>
 bif (!r473) then
 bif (decide ((((gl r459.1 8).length : Nat) : Int) = 0)) then
 some (decide (((r459.2.length : Nat) : Int) = 0))
 else some false
 else Option.bind (spec_MsgOk (n_impl_Msg r361.2.2)) fun r478 =>
 bif (!r478) then
 bif (decide ((((gl r459.1 8).length : Nat) : Int) = 0)) then
 some (decide (((r459.2.length : Nat) : Int) = 0))
 else some false
 else bif (!(decide ((gi r361.2.2 2) = (gi r361.1 0)))) then
 bif (decide ((((gl r459.1 8).length : Nat) : Int) = 0)) then
 some (decide (((r459.2.length : Nat) : Int) = 0))
 else some false
 else bif (decide (r361.2.1 ≤ (gi r361.2.2 1))) then
 bif (decide ((((gl r459.1 8).length : Nat) : Int) = 0)) then
 some (decide (((r459.2.length : Nat) : Int) = 0))
 else some false
 else Option.bind (impl_NodeOk (n_impl_Node r459.1) r361.2.1) fun r479 =>
 bif (!r479) then
 some false
 else bif (decide ((gi r459.1 1) < (gi r361.1 1))) then
 some false
 else bif (decide ((gi r459.1 4) < (gi r361.1 4))) then
 some false
 else bif (!(decide ((gi r459.1 0) = (gi r361.1 0)))) then
 some false
 else bif (decide ((gi r459.1 1) = (gi r361.1 1))) then
 bif (decide ((0 : Int) ≤ (gi r361.1 2))) then
 bif (!(decide ((gi r459.1 2) = (gi r361.1 2)))) then
 some false
 else Option.bind (laws_FnHears_l8 (((gi (V.agg [(V.int .i64 (gi r361.1 0)), (V.int .i64 (gi r361.1 1)), (V.int .i64 (gi r361.1 2)), (V.sl 3 t_impl_Item 0 none), (V.int .i64 (gi r361.1 4)), (V.int .i64 (gi r361.1 5)), (V.int .i64 (gi r361.1 6)), (V.int .i64 (gi r361.1 7)), (V.sl 4 t_bool 0 none), (V.sl 5 t_int' 0 none), (V.sl 6 t_int' 0 none)]) 4) - 0).toNat + 1) 0 (V.agg [(V.int .i64 (gi r361.1 0)), (V.int .i64 (gi r361.1 1)), (V.int .i64 (gi r361.1 2)), (V.sl 3 t_impl_Item 0 none), (V.int .i64 (gi r361.1 4)), (V.int .i64 (gi r361.1 5)), (V.int .i64 (gi r361.1 6)), (V.int .i64 (gi r361.1 7)), (V.sl 4 t_bool 0 none), (V.sl 5 t_int' 0 none), (V.sl 6 t_int' 0 none)]) (V.agg [(V.int .i64 (gi r459.1 0)), (V.int .i64 (gi r459.1 1)), (V.int .i64 (gi r459.1 2)), (V.sl 7 t_impl_Item 0 none), (V.int .i64 (gi r459.1 4)), (V.int .i64 (gi r459.1 5)), (V.int .i64 (gi r459.1 6)), (V.int .i64 (gi r459.1 7)), (V.sl 8 t_bool 0 none), (V.sl 9 t_int' 0 none), (V.sl 10 t_int' 0 none)]) r459.2 (gl r361.1 3) (gl r361.1 8) (gl r361.1 9) (gl r361.1 10) (gl r459.1 3) (gl r459.1 8) (gl r459.1 9) (gl r459.1 10)) fun r480 =>
 bif (Nat.beq r480.1 0) then
 some r480.2.1
 else Option.bind (laws_FnHears_l13 ((((r480.2.2.2.2.1.length : Nat) : Int) - 0).toNat + 1) 0 (V.agg [(V.int .i64 (gi r480.2.2.1 0)), (V.int .i64 (gi r480.2.2.1 1)), (V.int .i64 (gi r480.2.2.1 2)), (V.sl 3 t_impl_Item 0 none), (V.int .i64 (gi r480.2.2.1 4)), (V.int .i64 (gi r480.2.2.1 5)), (V.int .i64 (gi r480.2.2.1 6)), (V.int .i64 (gi r480.2.2.1 7)), (V.sl 4 t_bool 0 none), (V.sl 5 t_int' 0 none), (V.sl 6 t_int' 0 none)]) (V.agg [(V.int .i64 (gi r480.2.2.2.1 0)), (V.int .i64 (gi r480.2.2.2.1 1)), (V.int .i64 (gi r480.2.2.2.1 2)), (V.sl 7 t_impl_Item 0 none), (V.int .i64 (gi r480.2.2.2.1 4)), (V.int .i64 (gi r480.2.2.2.1 5)), (V.int .i64 (gi r480.2.2.2.1 6)), (V.int .i64 (gi r480.2.2.2.1 7)), (V.sl 8 t_bool 0 none), (V.sl 9 t_int' 0 none), (V.sl 10 t_int' 0 none)]) r480.2.2.2.2.1 r480.2.2.2.2.2.1 r480.2.2.2.2.2.2.1 r480.2.2.2.2.2.2.2.1 r480.2.2.2.2.2.2.2.2.1 r480.2.2.2.2.2.2.2.2.2.1 r480.2.2.2.2.2.2.2.2.2.2.1 r480.2.2.2.2.2.2.2.2.2.2.2.1 r480.2.2.2.2.2.2.2.2.2.2.2.2) fun r482 =>
 bif (Nat.beq r482.1 0) then
 some r482.2
 else some true
 else Option.bind (laws_FnHears_l8 (((gi (V.agg [(V.int .i64 (gi r361.1 0)), (V.int .i64 (gi r361.1 1)), (V.int .i64 (gi r361.1 2)), (V.sl 3 t_impl_Item 0 none), (V.int .i64 (gi r361.1 4)), (V.int .i64 (gi r361.1 5)), (V.int .i64 (gi r361.1 6)), (V.int .i64 (gi r361.1 7)), (V.sl 4 t_bool 0 none), (V.sl 5 t_int' 0 none), (V.sl 6 t_int' 0 none)]) 4) - 0).toNat + 1) 0 (V.agg [(V.int .i64 (gi r361.1 0)), (V.int .i64 (gi r361.1 1)), (V.int .i64 (gi r361.1 2)), (V.sl 3 t_impl_Item 0 none), (V.int .i64 (gi r361.1 4)), (V.int .i64 (gi r361.1 5)), (V.int .i64 (gi r361.1 6)), (V.int .i64 (gi r361.1 7)), (V.sl 4 t_bool 0 none), (V.sl 5 t_int' 0 none), (V.sl 6 t_int' 0 none)]) (V.agg [(V.int .i64 (gi r459.1 0)), (V.int .i64 (gi r459.1 1)), (V.int .i64 (gi r459.1 2)), (V.sl 7 t_impl_Item 0 none), (V.int .i64 (gi r459.1 4)), (V.int .i64 (gi r459.1 5)), (V.int .i64 (gi r459.1 6)), (V.int .i64 (gi r459.1 7)), (V.sl 8 t_bool 0 none), (V.sl 9 t_int' 0 none), (V.sl 10 t_int' 0 none)]) r459.2 (gl r361.1 3) (gl r361.1 8) (gl r361.1 9) (gl r361.1 10) (gl r459.1 3) (gl r459.1 8) (gl r459.1 9) (gl r459.1 10)) fun r483 =>
 bif (Nat.beq r483.1 0) then
 some r483.2.1
 else Option.bind (laws_FnHears_l13 ((((r483.2.2.2.2.1.length : Nat) : Int) - 0).toNat + 1) 0 (V.agg [(V.int .i64 (gi r483.2.2.1 0)), (V.int .i64 (gi r483.2.2.1 1)), (V.int .i64 (gi r483.2.2.1 2)), (V.sl 3 t_impl_Item 0 none), (V.int .i64 (gi r483.2.2.1 4)), (V.int .i64 (gi r483.2.2.1 5)), (V.int .i64 (gi r483.2.2.1 6)), (V.int .i64 (gi r483.2.2.1 7)), (V.sl 4 t_bool 0 none), (V.sl 5 t_int' 0 none), (V.sl 6 t_int' 0 none)]) (V.agg [(V.int .i64 (gi r483.2.2.2.1 0)), (V.int .i64 (gi r483.2.2.2.1 1)), (V.int .i64 (gi r483.2.2.2.1 2)), (V.sl 7 t_impl_Item 0 none), (V.int .i64 (gi r483.2.2.2.1 4)), (V.int .i64 (gi r483.2.2.2.1 5)), (V.int .i64 (gi r483.2.2.2.1 6)), (V.int .i64 (gi r483.2.2.2.1 7)), (V.sl 8 t_bool 0 none), (V.sl 9 t_int' 0 none), (V.sl 10 t_int' 0 none)]) r483.2.2.2.2.1 r483.2.2.2.2.2.1 r483.2.2.2.2.2.2.1 r483.2.2.2.2.2.2.2.1 r483.2.2.2.2.2.2.2.2.1 r483.2.2.2.2.2.2.2.2.2.1 r483.2.2.2.2.2.2.2.2.2.2.1 r483.2.2.2.2.2.2.2.2.2.2.2.1 r483.2.2.2.2.2.2.2.2.2.2.2.2) fun r484 =>
 bif (Nat.beq r484.1 0) then
 some r484.2
 else some true
 else Option.bind (laws_FnHears_l8 (((gi (V.agg [(V.int .i64 (gi r361.1 0)), (V.int .i64 (gi r361.1 1)), (V.int .i64 (gi r361.1 2)), (V.sl 3 t_impl_Item 0 none), (V.int .i64 (gi r361.1 4)), (V.int .i64 (gi r361.1 5)), (V.int .i64 (gi r361.1 6)), (V.int .i64 (gi r361.1 7)), (V.sl 4 t_bool 0 none), (V.sl 5 t_int' 0 none), (V.sl 6 t_int' 0 none)]) 4) - 0).toNat + 1) 0 (V.agg [(V.int .i64 (gi r361.1 0)), (V.int .i64 (gi r361.1 1)), (V.int .i64 (gi r361.1 2)), (V.sl 3 t_impl_Item 0 none), (V.int .i64 (gi r361.1 4)), (V.int .i64 (gi r361.1 5)), (V.int .i64 (gi r361.1 6)), (V.int .i64 (gi r361.1 7)), (V.sl 4 t_bool 0 none), (V.sl 5 t_int' 0 none), (V.sl 6 t_int' 0 none)]) (V.agg [(V.int .i64 (gi r459.1 0)), (V.int .i64 (gi r459.1 1)), (V.int .i64 (gi r459.1 2)), (V.sl 7 t_impl_Item 0 none), (V.int .i64 (gi r459.1 4)), (V.int .i64 (gi r459.1 5)), (V.int .i64 (gi r459.1 6)), (V.int .i64 (gi r459.1 7)), (V.sl 8 t_bool 0 none), (V.sl 9 t_int' 0 none), (V.sl 10 t_int' 0 none)]) r459.2 (gl r361.1 3) (gl r361.1 8) (gl r361.1 9) (gl r361.1 10) (gl r459.1 3) (gl r459.1 8) (gl r459.1 9) (gl r459.1 10)) fun r485 =>
 bif (Nat.beq r485.1 0) then
 some r485.2.1
 else Option.bind (laws_FnHears_l13 ((((r485.2.2.2.2.1.length : Nat) : Int) - 0).toNat + 1) 0 (V.agg [(V.int .i64 (gi r485.2.2.1 0)), (V.int .i64 (gi r485.2.2.1 1)), (V.int .i64 (gi r485.2.2.1 2)), (V.sl 3 t_impl_Item 0 none), (V.int .i64 (gi r485.2.2.1 4)), (V.int .i64 (gi r485.2.2.1 5)), (V.int .i64 (gi r485.2.2.1 6)), (V.int .i64 (gi r485.2.2.1 7)), (V.sl 4 t_bool 0 none), (V.sl 5 t_int' 0 none), (V.sl 6 t_int' 0 none)]) (V.agg [(V.int .i64 (gi r485.2.2.2.1 0)), (V.int .i64 (gi r485.2.2.2.1 1)), (V.int .i64 (gi r485.2.2.2.1 2)), (V.sl 7 t_impl_Item 0 none), (V.int .i64 (gi r485.2.2.2.1 4)), (V.int .i64 (gi r485.2.2.2.1 5)), (V.int .i64 (gi r485.2.2.2.1 6)), (V.int .i64 (gi r485.2.2.2.1 7)), (V.sl 8 t_bool 0 none), (V.sl 9 t_int' 0 none), (V.sl 10 t_int' 0 none)]) r485.2.2.2.2.1 r485.2.2.2.2.2.1 r485.2.2.2.2.2.2.1 r485.2.2.2.2.2.2.2.1 r485.2.2.2.2.2.2.2.2.1 r485.2.2.2.2.2.2.2.2.2.1 r485.2.2.2.2.2.2.2.2.2.2.1 r485.2.2.2.2.2.2.2.2.2.2.2.1 r485.2.2.2.2.2.2.2.2.2.2.2.2) fun r486 =>
 bif (Nat.beq r486.1 0) then
 some r486.2
 else some true
end Go.Eng.R
open Go Go.Eng Go.Proofs
namespace Go.Eng.R
theorem tab_ok : TabOk Try.prog tab := tabB_spec (by kernel_rfl)
theorem mixed : Try.prog.follows .mixedOrders = true := by kernel_rfl
theorem base : Base Try.prog tab := ⟨tab_ok, mixed⟩
def l0 (x : V) : List V := [(V.inl t_byte (gl x 0)), (V.int .i64 (gi x 1)), (V.int .i64 (gi x 2))]
def h1 (x : V) : V := V.agg [(V.int .i64 (gi x 0)), (V.int .i64 (gi x 1)), (V.int .i64 (gi x 2)), (V.rr t_impl_Item true (gl x 3)), (V.int .i64 (gi x 4)), (V.int .i64 (gi x 5)), (V.int .i64 (gi x 6)), (V.int .i64 (gi x 7)), (V.rr t_bool true (gl x 8)), (V.rr t_int' true (gl x 9)), (V.rr t_int' true (gl x 10))]
def q2 : List S1 := [.dead, .dead, .dead, (.rr t_impl_Item true), .dead, .dead, .dead, .dead, (.rr t_bool true), (.rr t_int' true), (.rr t_int' true)]
def q3 : List S1 := [.dead, .dead, .dead, .dead, (.inl t_byte), (.inl t_byte)]
def q4 : List S1 := [(.int .i64), (.int .i64), (.int .i64), (.inl t_impl_Item), (.int .i64), (.int .i64), (.int .i64), (.int .i64), (.inl t_bool), (.inl t_int'), (.inl t_int')]
def l5 (x : V) : List V := [(V.int .i64 (gi x 0)), (V.int .i64 (gi x 1)), (V.int .i64 (gi x 2)), (V.sl 3 t_impl_Item 0 none), (V.int .i64 (gi x 4)), (V.int .i64 (gi x 5)), (V.int .i64 (gi x 6)), (V.int .i64 (gi x 7)), (V.sl 4 t_bool 0 none), (V.sl 5 t_int' 0 none), (V.sl 6 t_int' 0 none)]
def l6 (x : V) : List V := [(V.int .i64 (gi x 0)), (V.int .i64 (gi x 1)), (V.int .i64 (gi x 2)), (V.sl 7 t_impl_Item 0 none), (V.int .i64 (gi x 4)), (V.int .i64 (gi x 5)), (V.int .i64 (gi x 6)), (V.int .i64 (gi x 7)), (V.sl 8 t_bool 0 none), (V.sl 9 t_int' 0 none), (V.sl 10 t_int' 0 none)]
def q7 : List S1 := [(.int .i64), (.int .i64), (.int .i64), (.sl 3 t_impl_Item), (.int .i64), (.int .i64), (.int .i64), (.int .i64), (.sl 4 t_bool), (.sl 5 t_int'), (.sl 6 t_int')]
def q8 : List S1 := [(.int .i64), (.int .i64), (.int .i64), (.sl 7 t_impl_Item), (.int .i64), (.int .i64), (.int .i64), (.int .i64), (.sl 8 t_bool), (.sl 9 t_int'), (.sl 10 t_int')]
def h9 (x : V) : V := V.agg [(V.int .i64 (gi x 0)), (V.int .i64 (gi x 1)), (V.int .i64 (gi x 2)), (V.rr t_impl_Item false (gl x 3)), (V.int .i64 (gi x 4)), (V.int .i64 (gi x 5)), (V.int .i64 (gi x 6)), (V.int .i64 (gi x 7)), (V.rr t_bool true (gl x 8)), (V.rr t_int' true (gl x 9)), (V.rr t_int' true (gl x 10))]
def q10 : List S1 := [.dead, .dead, .dead, (.rr t_impl_Item false), .dead, .dead, .dead, .dead, (.rr t_bool true), (.rr t_int' true), (.rr t_int' true)]
def l11 (x : V) : List V := [(V.int .i64 (gi x 0)), (V.int .i64 (gi x 1)), (V.int .i64 (gi x 2)), (V.int .i64 (gi x 3)), (V.int .i64 (gi x 4)), (V.int .i64 (gi x 5)), (V.sl 3 t_impl_Item 0 none), (V.int .i64 (gi x 7)), (V.bool (gb x 8))]
def l12 (x : V) : List V := [(V.int .i64 (gi x 0)), (V.int .i64 (gi x 1)), (V.int .i64 (gi x 2)), (V.int .i64 (gi x 3)), (V.int .i64 (gi x 4)), (V.int .i64 (gi x 5)), (V.sl 4 t_impl_Item 0 none), (V.int .i64 (gi x 7)), (V.bool (gb x 8))]
def q13 : List S1 := [(.int .i64), (.int .i64), (.int .i64), (.int .i64), (.int .i64), (.int .i64), (.sl 3 t_impl_Item), (.int .i64), .bool]
def q14 : List S1 := [(.int .i64), (.int .i64), (.int .i64), (.int .i64), (.int .i64), (.int .i64), (.sl 4 t_impl_Item), (.int .i64), .bool]
def h15 (x : V) : V := V.agg [(V.int .i64 (gi x 0)), (V.int .i64 (gi x 1)), (V.int .i64 (gi x 2)), (V.int .i64 (gi x 3)), (V.int .i64 (gi x 4)), (V.int .i64 (gi x 5)), (V.rr t_impl_Item false (gl x 6)), (V.int .i64 (gi x 7)), (V.bool (gb x 8))]
def q16 : List S1 := [.dead, .dead, .dead, .dead, .dead, .dead, (.rr t_impl_Item false)]
def l17 (x : V) : List V := [(V.int .i64 (gi x 0)), (V.int .i64 (gi x 1)), (V.int .i64 (gi x 2)), (V.sl 5 t_impl_Item 0 none), (V.int .i64 (gi x 4)), (V.int .i64 (gi x 5)), (V.int .i64 (gi x 6)), (V.int .i64 (gi x 7)), (V.sl 6 t_bool 0 none), (V.sl 7 t_int' 0 none), (V.sl 8 t_int' 0 none)]
def l18 (x : V) : List V := [(V.int .i64 (gi x 0)), (V.int .i64 (gi x 1)), (V.int .i64 (gi x 2)), (V.int .i64 (gi x 3)), (V.int .i64 (gi x 4)), (V.int .i64 (gi x 5)), (V.sl 9 t_impl_Item 0 none), (V.int .i64 (gi x 7)), (V.bool (gb x 8))]
def l19 (x : V) : List V := [(V.int .i64 (gi x 0)), (V.int .i64 (gi x 1)), (V.int .i64 (gi x 2)), (V.sl 10 t_impl_Item 0 none), (V.int .i64 (gi x 4)), (V.int .i64 (gi x 5)), (V.int .i64 (gi x 6)), (V.int .i64 (gi x 7)), (V.sl 11 t_bool 0 none), (V.sl 12 t_int' 0 none), (V.sl 13 t_int' 0 none)]
def l20 (x : V) : List V := [(V.int .i64 (gi x 0)), (V.int .i64 (gi x 1)), (V.int .i64 (gi x 2)), (V.int .i64 (gi x 3)), (V.int .i64 (gi x 4)), (V.int .i64 (gi x 5)), (V.sl 14 t_impl_Item 0 none), (V.int .i64 (gi x 7)), (V.bool (gb x 8))]
def q21 : List S1 := [(.int .i64), (.int .i64), (.int .i64), (.sl 5 t_impl_Item), (.int .i64), (.int .i64), (.int .i64), (.int .i64), (.sl 6 t_bool), (.sl 7 t_int'), (.sl 8 t_int')]
def q22 : List S1 := [(.int .i64), (.int .i64), (.int .i64), (.int .i64), (.int .i64), (.int .i64), (.sl 9 t_impl_Item), (.int .i64), .bool]
def q23 : List S1 := [(.int .i64), (.int .i64), (.int .i64), (.sl 10 t_impl_Item), (.int .i64), (.int .i64), (.int .i64), (.int .i64), (.sl 11 t_bool), (.sl 12 t_int'), (.sl 13 t_int')]
def q24 : List S1 := [(.int .i64), (.int .i64), (.int .i64), (.int .i64), (.int .i64), (.int .i64), (.sl 14 t_impl_Item), (.int .i64), .bool]
def l25 (x : V) : List V := [(V.int .i64 (gi x 0)), (V.int .i64 (gi x 1)), (V.int .i64 (gi x 2)), (V.sl 4 t_impl_Item 0 none), (V.int .i64 (gi x 4)), (V.int .i64 (gi x 5)), (V.int .i64 (gi x 6)), (V.int .i64 (gi x 7)), (V.sl 5 t_bool 0 none), (V.sl 6 t_int' 0 none), (V.sl 7 t_int' 0 none)]
def l26 (x : V) : List V := [(V.int .i64 (gi x 0)), (V.int .i64 (gi x 1)), (V.int .i64 (gi x 2)), (V.int .i64 (gi x 3)), (V.int .i64 (gi x 4)), (V.int .i64 (gi x 5)), (V.sl 8 t_impl_Item 0 none), (V.int .i64 (gi x 7)), (V.bool (gb x 8))]
def l27 (x : V) : List V := [(V.int .i64 (gi x 0)), (V.int .i64 (gi x 1)), (V.int .i64 (gi x 2)), (V.sl 9 t_impl_Item 0 none), (V.int .i64 (gi x 4)), (V.int .i64 (gi x 5)), (V.int .i64 (gi x 6)), (V.int .i64 (gi x 7)), (V.sl 10 t_bool 0 none), (V.sl 11 t_int' 0 none), (V.sl 12 t_int' 0 none)]
def l28 (x : V) : List V := [(V.int .i64 (gi x 0)), (V.int .i64 (gi x 1)), (V.int .i64 (gi x 2)), (V.int .i64 (gi x 3)), (V.int .i64 (gi x 4)), (V.int .i64 (gi x 5)), (V.sl 13 t_impl_Item 0 none), (V.int .i64 (gi x 7)), (V.bool (gb x 8))]
def q29 : List S1 := [(.int .i64), (.int .i64), (.int .i64), (.sl 4 t_impl_Item), (.int .i64), (.int .i64), (.int .i64), (.int .i64), (.sl 5 t_bool), (.sl 6 t_int'), (.sl 7 t_int')]
def q30 : List S1 := [(.int .i64), (.int .i64), (.int .i64), (.int .i64), (.int .i64), (.int .i64), (.sl 8 t_impl_Item), (.int .i64), .bool]
def q31 : List S1 := [(.int .i64), (.int .i64), (.int .i64), (.sl 9 t_impl_Item), (.int .i64), (.int .i64), (.int .i64), (.int .i64), (.sl 10 t_bool), (.sl 11 t_int'), (.sl 12 t_int')]
def q32 : List S1 := [(.int .i64), (.int .i64), (.int .i64), (.int .i64), (.int .i64), (.int .i64), (.sl 13 t_impl_Item), (.int .i64), .bool]
def h33 (x : V) : V := V.agg [(V.int .i64 (gi x 0)), (V.int .i64 (gi x 1)), (V.int .i64 (gi x 2)), (V.rr t_byte true (gl x 3)), (V.rr t_byte true (gl x 4)), (V.int .i64 (gi x 5))]
def q34 : List S1 := [.dead, .dead, .dead, (.rr t_byte true), (.rr t_byte true)]
def q35 : List S1 := [(.int .i64), (.inl t_byte), (.inl t_byte), (.int .i64)]
def q36 : List S1 := [(.int .i64), (.int .i64), (.int .i64), (.inl t_byte), (.inl t_byte), (.int .i64)]
def q37 : List S1 := [(.int .i64), (.int .i64), (.int .i64), (.int .i64), (.inl t_byte), (.inl t_byte), (.int .i64)]
def l38 (x : V) : List V := [(V.int .i64 (gi x 0)), (V.int .i64 (gi x 1)), (V.int .i64 (gi x 2)), (V.inl t_impl_Item (gl x 3)), (V.int .i64 (gi x 4)), (V.int .i64 (gi x 5)), (V.int .i64 (gi x 6)), (V.int .i64 (gi x 7)), (V.inl t_bool (gl x 8)), (V.inl t_int' (gl x 9)), (V.inl t_int' (gl x 10))]
def l39 (x : V) : List V := [(V.int .i64 (gi x 0)), (V.int .i64 (gi x 1)), (V.int .i64 (gi x 2)), (V.int .i64 (gi x 3)), (V.int .i64 (gi x 4)), (V.int .i64 (gi x 5)), (V.inl t_impl_Item (gl x 6)), (V.int .i64 (gi x 7)), (V.bool (gb x 8))]
def q40 : List S1 := [(.int .i64), (.int .i64), (.int .i64), (.int .i64), (.int .i64), (.int .i64), (.inl t_impl_Item), (.int .i64), .bool]
def h41 (x : V) : V := V.agg [(V.int .i64 (gi x 0)), (V.rr t_byte true (gl x 1)), (V.rr t_byte true (gl x 2)), (V.int .i64 (gi x 3))]
def q42 : List S1 := [.dead, (.rr t_byte true), (.rr t_byte true)]
def q43 : List S1 := [(.int .i64), (.int .i64), (.int .i64), (.rr t_impl_Item true), (.int .i64), (.int .i64), (.int .i64), (.int .i64), (.rr t_bool true), (.rr t_int' true), (.rr t_int' true), (.rr t_impl_Msg true)]
def l44 (x : V) : List V := [(V.int .i64 (gi x 0)), (V.int .i64 (gi x 1)), (V.int .i64 (gi x 2)), (V.rr t_impl_Item true (gl x 3)), (V.int .i64 (gi x 4)), (V.int .i64 (gi x 5)), (V.int .i64 (gi x 6)), (V.int .i64 (gi x 7)), (V.rr t_bool true (gl x 8)), (V.rr t_int' true (gl x 9)), (V.rr t_int' true (gl x 10)), (V.rr t_impl_Msg true (gl x 11))]
def q45 : List S1 := [.dead, .dead, .dead, (.rr t_impl_Item true), .dead, .dead, .dead, .dead, (.rr t_bool true), (.rr t_int' true), (.rr t_int' true), (.rr t_impl_Msg true)]
def l46 (x : V) : List V := [(V.int .i64 (gi x 0)), (V.int .i64 (gi x 1)), (V.int .i64 (gi x 2)), (V.sl 1 t_impl_Item 0 none), (V.int .i64 (gi x 4)), (V.int .i64 (gi x 5)), (V.int .i64 (gi x 6)), (V.int .i64 (gi x 7)), (V.sl 2 t_bool 0 none), (V.sl 3 t_int' 0 none), (V.sl 4 t_int' 0 none), (V.sl 5 t_impl_Msg 0 none)]
def q47 : List S1 := [(.int .i64), (.int .i64), (.int .i64), (.sl 2 t_impl_Item), (.int .i64), (.int .i64), (.int .i64), (.int .i64), (.sl 3 t_bool), (.sl 4 t_int'), (.sl 1 t_int'), (.sl 5 t_impl_Msg)]
def q48 : List S1 := [(.int .i64), (.int .i64), (.int .i64), (.sl 1 t_impl_Item), (.int .i64), (.int .i64), (.int .i64), (.int .i64), (.sl 2 t_bool), (.sl 3 t_int'), (.sl 4 t_int'), (.sl 5 t_impl_Msg)]
def h49 (x : V) : V := V.agg [(V.int .i64 (gi x 0)), (V.int .i64 (gi x 1)), (V.int .i64 (gi x 2)), (V.int .i64 (gi x 3)), (V.int .i64 (gi x 4)), (V.int .i64 (gi x 5)), (V.rr t_impl_Item true (gl x 6)), (V.int .i64 (gi x 7)), (V.bool (gb x 8))]
def q50 : List S1 := [.dead, .dead, .dead, .dead, .dead, .dead, (.rr t_impl_Item true)]
def q51 : List S1 := [(.int .i64), (.int .i64), (.int .i64), (.sl 2 t_impl_Item), (.int .i64), (.int .i64), (.int .i64), (.int .i64), (.sl 3 t_bool), (.sl 4 t_int'), (.sl 5 t_int'), (.sl 6 t_impl_Msg)]
def q52 : List S1 := [(.int .i64), (.int .i64), (.int .i64), (.sl 2 t_impl_Item), (.int .i64), (.int .i64), (.int .i64), (.int .i64), (.sl 1 t_bool), (.sl 3 t_int'), (.sl 4 t_int'), (.sl 5 t_impl_Msg)]
def l53 (x : V) : List V := [(V.int .i64 (gi x 0)), (V.int .i64 (gi x 1)), (V.int .i64 (gi x 2)), (V.sl 2 t_impl_Item 0 none), (V.int .i64 (gi x 4)), (V.int .i64 (gi x 5)), (V.int .i64 (gi x 6)), (V.int .i64 (gi x 7)), (V.sl 3 t_bool 0 none), (V.sl 4 t_int' 0 none), (V.sl 5 t_int' 0 none), (V.sl 6 t_impl_Msg 0 none)]
end Go.Eng.R
