/- An own evaluator of the program's form, proved sound, and what it says of this law's functions: part 3. -/
import Derived.Test.YtkjlebfmaembiaaGreatE2
import Derived.Deep.RegionHeld3
import Derived.Ground.SlgcProg
import Derived.Ground.SlsfProg
import Derived.Handy
import Derived.Lib.SlBytesConst
import Derived.Lib.Walk
import Derived.Shelf.SlSortCmp.WholeK
import Derived.Shelf.SlicesG.Cmp
import Derived.Test.YtkjlebfmaembiaaGreatChecked
import Derived.Test.YtkjlebfmaembiaaGreatProg
import Derived.WalkKit
set_option linter.unusedVariables false
open Go Go.Eng
namespace Go.Eng.R
def chunks : List (List (Option Ty)) := [
  [none,
   some ⟨[.fn], false, none, [], 8⟩,
   some ⟨[.int .i64], false, none, [], 8⟩,
   some ⟨[.int .i64], false, none, [], 8⟩,
   some ⟨[.bool], false, none, [], 1⟩,
   some ⟨[.int .u8], false, none, [], 1⟩,
   some ⟨[.int .u8], false, none, [], 1⟩,
   some ⟨[.int .i64, .int .i64, .bool, .int .u8], true, none, [(0, 2), (1, 3), (2, 4), (3, 6)], 24⟩,
   some ⟨[.int .i64, .int .i64, .bool, .int .u8], true, none, [(0, 2), (1, 3), (2, 4), (3, 6)], 24⟩,
   some ⟨[.str], false, none, [], 16⟩,
   some ⟨[.str], false, none, [], 16⟩,
   some ⟨[.str], false, none, [], 16⟩,
   some ⟨[.int .u64], false, none, [], 8⟩,
   some ⟨[.str, .int .u64], true, none, [(0, 9), (1, 12)], 24⟩,
   some ⟨[.str, .int .u64], true, none, [(0, 9), (1, 12)], 24⟩,
   some ⟨[.ptr], false, none, [], 8⟩],
  [some ⟨[.ptr], false, none, [], 8⟩,
   some ⟨[.ptr], false, none, [], 8⟩,
   some ⟨[.ptr], true, none, [(0, 17)], 8⟩,
   some ⟨[.ptr], true, none, [(0, 17)], 8⟩,
   none,
   some ⟨[.int .i32], false, none, [], 4⟩,
   some ⟨[.sl 167], false, some 167, [], 24⟩,
   some ⟨[.sl 170], false, some 170, [], 24⟩,
   some ⟨[.sl 185], false, some 185, [], 24⟩,
   some ⟨[.sl 189], false, some 189, [], 24⟩,
   some ⟨[.int .i64, .sl 167, .sl 170, .int .i64, .sl 185, .sl 189], true, none, [(0, 3), (1, 22), (2, 23), (3, 3), (4, 24), (5, 25)], 112⟩,
   some ⟨[.int .i64, .sl 167, .sl 170, .int .i64, .sl 185, .sl 189], true, none, [(0, 3), (1, 22), (2, 23), (3, 3), (4, 24), (5, 25)], 112⟩,
   some ⟨[.sl 5], false, some 5, [], 24⟩,
   some ⟨[.int .i64, .sl 5, .sl 5, .int .i64], true, none, [(0, 3), (1, 28), (2, 28), (3, 3)], 64⟩,
   some ⟨[.int .i64, .sl 5, .sl 5, .int .i64], true, none, [(0, 3), (1, 28), (2, 28), (3, 3)], 64⟩,
   some ⟨[.int .i64, .int .i64, .int .i64, .sl 5, .sl 5, .int .i64], true, none, [(0, 3), (1, 3), (2, 30)], 80⟩],
  [some ⟨[.int .i64, .int .i64, .int .i64, .sl 5, .sl 5, .int .i64], true, none, [(0, 3), (1, 3), (2, 30)], 80⟩,
   some ⟨[.fn], false, none, [], 8⟩,
   some ⟨[.fn], false, none, [], 8⟩,
   some ⟨[.sl 172], false, some 172, [], 24⟩,
   some ⟨[.sl 174], false, some 174, [], 24⟩,
   some ⟨[.sl 177], false, some 177, [], 24⟩,
   some ⟨[.sl 179], false, some 179, [], 24⟩,
   some ⟨[.int .i64, .sl 172, .sl 174, .int .i64, .sl 177, .sl 179], true, none, [(0, 3), (1, 35), (2, 36), (3, 3), (4, 37), (5, 38)], 112⟩,
   some ⟨[.int .i64, .sl 172, .sl 174, .int .i64, .sl 177, .sl 179], true, none, [(0, 3), (1, 35), (2, 36), (3, 3), (4, 37), (5, 38)], 112⟩,
   some ⟨[.int .i64, .int .i64], true, none, [(0, 3), (1, 3)], 16⟩,
   some ⟨[.int .i64, .int .i64], true, none, [(0, 3), (1, 3)], 16⟩,
   none,
   some ⟨[.fn], false, none, [], 8⟩,
   some ⟨[.fn], false, none, [], 8⟩,
   some ⟨[.int .i64, .sl 5, .sl 5, .int .i64], true, none, [(0, 3), (1, 28), (2, 28), (3, 3)], 64⟩,
   some ⟨[.int .i64, .int .i64, .int .i64, .sl 5, .sl 5, .int .i64], true, none, [(0, 3), (1, 3), (2, 46)], 80⟩],
  [some ⟨[.int .i64, .int .i64, .int .i64, .sl 5, .sl 5, .int .i64], true, none, [(0, 3), (1, 3), (2, 46)], 80⟩,
   some ⟨[.fn], false, none, [], 8⟩,
   some ⟨[.fn], false, none, [], 8⟩,
   some ⟨[.fn], false, none, [], 8⟩,
   some ⟨[.fn], false, none, [], 8⟩,
   some ⟨[.fn], false, none, [], 8⟩,
   some ⟨[.fn], false, none, [], 8⟩,
   some ⟨[.fn], false, none, [], 8⟩,
   some ⟨[.sl 32], false, some 32, [], 24⟩,
   some ⟨[.int .i64, .sl 167, .sl 170, .int .i64, .sl 185, .sl 189, .sl 32], true, none, [(0, 27), (6, 56)], 136⟩,
   some ⟨[.int .i64, .sl 167, .sl 170, .int .i64, .sl 185, .sl 189, .sl 32], true, none, [(0, 27), (6, 56)], 136⟩,
   some ⟨[.fn], false, none, [], 8⟩,
   some ⟨[.sl 48], false, some 48, [], 24⟩,
   some ⟨[.int .i64, .sl 172, .sl 174, .int .i64, .sl 177, .sl 179, .sl 48], true, none, [(0, 40), (6, 60)], 136⟩,
   some ⟨[.int .i64, .sl 172, .sl 174, .int .i64, .sl 177, .sl 179, .sl 48], true, none, [(0, 40), (6, 60)], 136⟩,
   none],
  [some ⟨[.fn], false, none, [], 8⟩,
   some ⟨[.fn], false, none, [], 8⟩,
   some ⟨[.fn], false, none, [], 8⟩,
   some ⟨[.fn], false, none, [], 8⟩,
   some ⟨[.fn], false, none, [], 8⟩,
   some ⟨[.sl 142], false, some 142, [], 24⟩,
   some ⟨[.fn], false, none, [], 8⟩,
   some ⟨[.fn], false, none, [], 8⟩,
   some ⟨[.sl 144], false, some 144, [], 24⟩,
   some ⟨[.fn], false, none, [], 8⟩,
   some ⟨[.fn], false, none, [], 8⟩,
   some ⟨[.fn], false, none, [], 8⟩,
   some ⟨[.fn], false, none, [], 8⟩,
   none,
   some ⟨[.fn], false, none, [], 8⟩,
   some ⟨[.fn], false, none, [], 8⟩],
  [some ⟨[.sl 241], false, some 241, [], 24⟩,
   some ⟨[.int .i64, .sl 241], true, none, [(0, 3), (1, 80)], 32⟩,
   some ⟨[.int .i64, .sl 241], true, none, [(0, 3), (1, 80)], 32⟩,
   some ⟨[.int .i64, .int .i64, .sl 241], true, none, [(0, 3), (1, 82)], 40⟩,
   some ⟨[.int .i64, .int .i64, .sl 241], true, none, [(0, 3), (1, 82)], 40⟩,
   some ⟨[.fn], false, none, [], 8⟩,
   some ⟨[.sl 213], false, some 213, [], 24⟩,
   some ⟨[.int .i64, .sl 213], true, none, [(0, 3), (1, 86)], 32⟩,
   some ⟨[.int .i64, .sl 213], true, none, [(0, 3), (1, 86)], 32⟩,
   some ⟨[.int .i64, .int .i64, .sl 213], true, none, [(0, 3), (1, 88)], 40⟩,
   some ⟨[.int .i64, .int .i64, .sl 213], true, none, [(0, 3), (1, 88)], 40⟩,
   none,
   some ⟨[.fn], false, none, [], 8⟩,
   some ⟨[.fn], false, none, [], 8⟩,
   some ⟨[.fn], false, none, [], 8⟩,
   some ⟨[.fn], false, none, [], 8⟩],
  [some ⟨[.fn], false, none, [], 8⟩,
   some ⟨[.sl 46], false, some 46, [], 24⟩,
   none,
   some ⟨[.fn], false, none, [], 8⟩,
   some ⟨[.fn], false, none, [], 8⟩,
   some ⟨[.fn], false, none, [], 8⟩,
   some ⟨[.fn], false, none, [], 8⟩,
   some ⟨[.fn], false, none, [], 8⟩,
   some ⟨[.fn], false, none, [], 8⟩,
   some ⟨[.fn], false, none, [], 8⟩,
   some ⟨[.fn], false, none, [], 8⟩,
   some ⟨[.fn], false, none, [], 8⟩,
   some ⟨[.fn], false, none, [], 8⟩,
   some ⟨[.fn], false, none, [], 8⟩,
   some ⟨[.fn], false, none, [], 8⟩,
   some ⟨[.fn], false, none, [], 8⟩],
  [some ⟨[.ptr], false, none, [], 8⟩,
   some ⟨[.fn], false, none, [], 8⟩,
   some ⟨[.fn], false, none, [], 8⟩,
   some ⟨[.fn], false, none, [], 8⟩,
   some ⟨[.fn], false, none, [], 8⟩,
   some ⟨[.fn], false, none, [], 8⟩,
   some ⟨[.fn], false, none, [], 8⟩,
   some ⟨[.fn], false, none, [], 8⟩,
   some ⟨[.fn], false, none, [], 8⟩,
   some ⟨[.fn], false, none, [], 8⟩,
   some ⟨[.fn], false, none, [], 8⟩,
   some ⟨[.fn], false, none, [], 8⟩,
   some ⟨[.fn], false, none, [], 8⟩,
   some ⟨[.fn], false, none, [], 8⟩,
   some ⟨[.fn], false, none, [], 8⟩,
   some ⟨[.fn], false, none, [], 8⟩],
  [some ⟨[.fn], false, none, [], 8⟩,
   some ⟨[.fn], false, none, [], 8⟩,
   some ⟨[.fn], false, none, [], 8⟩,
   some ⟨[.fn], false, none, [], 8⟩,
   some ⟨[.fn], false, none, [], 8⟩,
   some ⟨[.int .i64, .int .i64, .int .i64, .int .i64, .sl 5, .sl 5, .int .i64], true, none, [(0, 3), (1, 48)], 88⟩,
   some ⟨[.int .i64, .int .i64, .int .i64, .int .i64, .sl 5, .sl 5, .int .i64], true, none, [(0, 3), (1, 48)], 88⟩,
   some ⟨[.fn], false, none, [], 8⟩,
   some ⟨[.fn], false, none, [], 8⟩,
   some ⟨[.fn], false, none, [], 8⟩,
   some ⟨[.fn], false, none, [], 8⟩,
   some ⟨[.fn], false, none, [], 8⟩,
   some ⟨[.fn], false, none, [], 8⟩,
   some ⟨[.int .i64, .int .i64, .int .i64, .int .i64, .sl 5, .sl 5, .int .i64], true, none, [(0, 3), (1, 32)], 88⟩,
   some ⟨[.int .i64, .int .i64, .int .i64, .int .i64, .sl 5, .sl 5, .int .i64], true, none, [(0, 3), (1, 32)], 88⟩,
   some ⟨[.int .i64, .int .i64, .int .i64, .int .i64, .sl 5, .sl 5, .int .i64], true, none, [(0, 3), (1, 48)], 88⟩],
  [some ⟨[.int .i64, .int .i64, .int .i64, .int .i64, .sl 5, .sl 5, .int .i64], true, none, [(0, 3), (1, 48)], 88⟩,
   some ⟨[.fn], false, none, [], 8⟩,
   some ⟨[.fn], false, none, [], 8⟩,
   some ⟨[.fn], false, none, [], 8⟩,
   some ⟨[.fn], false, none, [], 8⟩,
   some ⟨[.fn], false, none, [], 8⟩,
   some ⟨[.fn], false, none, [], 8⟩,
   some ⟨[.fn], false, none, [], 8⟩,
   some ⟨[.fn], false, none, [], 8⟩,
   some ⟨[.ptr], false, none, [], 8⟩,
   some ⟨[.fn], false, none, [], 8⟩,
   some ⟨[.fn], false, none, [], 8⟩,
   some ⟨[.fn], false, none, [], 8⟩,
   some ⟨[.fn], false, none, [], 8⟩,
   some ⟨[.sl 3], false, some 3, [], 24⟩,
   none],
  [some ⟨[.fn], false, none, [], 8⟩,
   some ⟨[.fn], false, none, [], 8⟩,
   some ⟨[.ptr], false, none, [], 8⟩,
   some ⟨[.fn], false, none, [], 8⟩,
   some ⟨[.fn], false, none, [], 8⟩,
   some ⟨[.fn], false, none, [], 8⟩,
   some ⟨[.sl 5, .sl 5, .int .i64, .int .i64], true, none, [(0, 28), (1, 28), (2, 3), (3, 3)], 64⟩,
   some ⟨[.sl 5, .sl 5, .int .i64, .int .i64], true, none, [(0, 28), (1, 28), (2, 3), (3, 3)], 64⟩,
   some ⟨[.fn], false, none, [], 8⟩,
   some ⟨[.sl 5, .int .i64], true, none, [(0, 28), (1, 3)], 32⟩,
   some ⟨[.sl 5, .int .i64], true, none, [(0, 28), (1, 3)], 32⟩,
   some ⟨[.fn], false, none, [], 8⟩,
   some ⟨[.sl 5, .sl 5, .int .i64, .int .i64], true, none, [(0, 28), (1, 28), (2, 3), (3, 3)], 64⟩,
   some ⟨[.fn], false, none, [], 8⟩,
   some ⟨[.sl 5, .int .i64], true, none, [(0, 28), (1, 3)], 32⟩,
   some ⟨[.fn], false, none, [], 8⟩],
  [some ⟨[.int .i64, .bool], true, none, [(0, 3), (1, 4)], 16⟩,
   some ⟨[.int .i64, .bool], true, none, [(0, 3), (1, 4)], 16⟩,
   some ⟨[.int .i64, .int .i64, .int .i64, .int .i64], true, none, [(0, 3), (1, 3), (2, 42)], 32⟩,
   some ⟨[.int .i64, .int .i64, .int .i64, .int .i64], true, none, [(0, 3), (1, 3), (2, 42)], 32⟩,
   some ⟨[.fn], false, none, [], 8⟩,
   some ⟨[.fn], false, none, [], 8⟩,
   some ⟨[.fn], false, none, [], 8⟩,
   some ⟨[.fn], false, none, [], 8⟩,
   some ⟨[.fn], false, none, [], 8⟩,
   some ⟨[.int .i64, .bool], true, none, [(0, 3), (1, 4)], 16⟩,
   some ⟨[.fn], false, none, [], 8⟩,
   some ⟨[.int .i64, .int .i64], true, none, [(0, 3), (1, 3)], 16⟩,
   some ⟨[.int .i64, .int .i64, .int .i64, .int .i64], true, none, [(0, 3), (1, 3), (2, 187)], 32⟩,
   some ⟨[.int .i64, .int .i64, .int .i64, .int .i64], true, none, [(0, 3), (1, 3), (2, 187)], 32⟩,
   some ⟨[.fn], false, none, [], 8⟩,
   some ⟨[.fn], false, none, [], 8⟩],
  [some ⟨[.fn], false, none, [], 8⟩,
   none,
   some ⟨[.fn], false, none, [], 8⟩,
   some ⟨[.fn], false, none, [], 8⟩,
   some ⟨[.fn], false, none, [], 8⟩,
   some ⟨[.fn], false, none, [], 8⟩,
   some ⟨[.fn], false, none, [], 8⟩,
   some ⟨[.fn], false, none, [], 8⟩,
   some ⟨[.fn], false, none, [], 8⟩,
   some ⟨[.fn], false, none, [], 8⟩,
   some ⟨[.fn], false, none, [], 8⟩,
   some ⟨[.fn], false, none, [], 8⟩,
   some ⟨[.fn], false, none, [], 8⟩,
   some ⟨[.fn], false, none, [], 8⟩,
   some ⟨[.fn], false, none, [], 8⟩,
   some ⟨[.fn], false, none, [], 8⟩],
  [some ⟨[.fn], false, none, [], 8⟩,
   some ⟨[.fn], false, none, [], 8⟩,
   some ⟨[.fn], false, none, [], 8⟩,
   some ⟨[.fn], false, none, [], 8⟩,
   some ⟨[.int .i64, .int .i64], true, none, [(0, 3), (1, 3)], 16⟩,
   some ⟨[.int .i64, .int .i64], true, none, [(0, 3), (1, 3)], 16⟩,
   some ⟨[.fn], false, none, [], 8⟩,
   some ⟨[.fn], false, none, [], 8⟩,
   some ⟨[.fn], false, none, [], 8⟩,
   some ⟨[.fn], false, none, [], 8⟩,
   some ⟨[.fn], false, none, [], 8⟩,
   some ⟨[.fn], false, none, [], 8⟩,
   some ⟨[.fn], false, none, [], 8⟩,
   some ⟨[.fn], false, none, [], 8⟩,
   some ⟨[.fn], false, none, [], 8⟩,
   some ⟨[.fn], false, none, [], 8⟩],
  [some ⟨[.fn], false, none, [], 8⟩,
   some ⟨[.fn], false, none, [], 8⟩,
   some ⟨[.fn], false, none, [], 8⟩,
   some ⟨[.fn], false, none, [], 8⟩,
   some ⟨[.fn], false, none, [], 8⟩,
   some ⟨[.fn], false, none, [], 8⟩,
   some ⟨[.fn], false, none, [], 8⟩,
   some ⟨[.fn], false, none, [], 8⟩,
   some ⟨[.fn], false, none, [], 8⟩,
   some ⟨[.fn], false, none, [], 8⟩,
   some ⟨[.fn], false, none, [], 8⟩,
   some ⟨[.fn], false, none, [], 8⟩,
   some ⟨[.fn], false, none, [], 8⟩,
   some ⟨[.fn], false, none, [], 8⟩,
   some ⟨[.fn], false, none, [], 8⟩,
   some ⟨[.fn], false, none, [], 8⟩],
  [some ⟨[.fn], false, none, [], 8⟩,
   some ⟨[.int .i64, .int .i64], true, none, [(0, 3), (1, 3)], 16⟩,
   some ⟨[.fn], false, none, [], 8⟩,
   some ⟨[.fn], false, none, [], 8⟩,
   some ⟨[.fn], false, none, [], 8⟩,
   some ⟨[.fn], false, none, [], 8⟩,
   some ⟨[.fn], false, none, [], 8⟩,
   some ⟨[.int .u64], false, none, [], 8⟩,
   some ⟨[.fn], false, none, [], 8⟩,
   some ⟨[.fn], false, none, [], 8⟩,
   some ⟨[.fn], false, none, [], 8⟩,
   some ⟨[.fn], false, none, [], 8⟩,
   some ⟨[.fn], false, none, [], 8⟩,
   some ⟨[.fn], false, none, [], 8⟩,
   some ⟨[.fn], false, none, [], 8⟩,
   some ⟨[.int .i64], false, none, [], 8⟩],
  [none,
   some ⟨[.fn], false, none, [], 8⟩,
   some ⟨[.fn], false, none, [], 8⟩,
   some ⟨[.fn], false, none, [], 8⟩,
   some ⟨[.fn], false, none, [], 8⟩,
   some ⟨[.fn], false, none, [], 8⟩,
   some ⟨[.int .u32], false, none, [], 4⟩,
   some ⟨[.fn], false, none, [], 8⟩,
   some ⟨[.int .u64], false, none, [], 8⟩,
   some ⟨[.fn], false, none, [], 8⟩,
   some ⟨[.fn], false, none, [], 8⟩,
   some ⟨[.int .u64], false, none, [], 8⟩,
   some ⟨[.fn], false, none, [], 8⟩,
   some ⟨[.fn], false, none, [], 8⟩,
   some ⟨[.fn], false, none, [], 8⟩,
   some ⟨[.ptr], false, none, [], 8⟩],
  [some ⟨[.fn], false, none, [], 8⟩,
   some ⟨[.ptr], false, none, [], 8⟩,
   none,
   some ⟨[.fn], false, none, [], 8⟩,
   some ⟨[.fn], false, none, [], 8⟩,
   some ⟨[.fn], false, none, [], 8⟩,
   some ⟨[.ptr, .ptr, .ptr, .str], true, none, [(0, 17), (1, 17), (2, 17), (3, 9)], 40⟩,
   some ⟨[.ptr, .ptr, .ptr, .str], true, none, [(0, 17), (1, 17), (2, 17), (3, 9)], 40⟩,
   none,
   none,
   none,
   some ⟨[.fn], false, none, [], 8⟩,
   some ⟨[.int .u8], false, none, [], 1⟩,
   some ⟨[.int .u8], false, none, [], 1⟩,
   some ⟨[.fn], false, none, [], 8⟩,
   some ⟨[.ptr], false, none, [], 8⟩],
  [some ⟨[.int .i32], false, none, [], 4⟩,
   some ⟨[.int .i32], false, none, [], 4⟩,
   some ⟨[.int .u64, .int .u64, .int .u32, .int .u8, .int .u8, .int .u8, .int .u8, .fn, .ptr, .int .i32, .int .i32], true, none, [(0, 12), (1, 12), (2, 262), (3, 284), (4, 5), (5, 5), (6, 285), (7, 286), (8, 287), (9, 288), (10, 289)], 48⟩,
   some ⟨[.int .u64, .int .u64, .int .u32, .int .u8, .int .u8, .int .u8, .int .u8, .fn, .ptr, .int .i32, .int .i32], true, none, [(0, 12), (1, 12), (2, 262), (3, 284), (4, 5), (5, 5), (6, 285), (7, 286), (8, 287), (9, 288), (10, 289)], 48⟩,
   none,
   none,
   none,
   none,
   none,
   none,
   none,
   none,
   none,
   none,
   none,
   none]]
def tab : Tab := tabOf chunks
abbrev t_tuple_0 : TypeId := 0
abbrev t_func_1 : TypeId := 1
abbrev t_int : TypeId := 2
abbrev t_int' : TypeId := 3
abbrev t_bool : TypeId := 4
abbrev t_byte : TypeId := 5
abbrev t_abi_BoundsErrorCode : TypeId := 6
abbrev t_st_7 : TypeId := 7
abbrev t_runtime_boundsError : TypeId := 8
abbrev t_string : TypeId := 9
abbrev t_runtime_errorString : TypeId := 10
abbrev t_runtime_plainError : TypeId := 11
abbrev t_u64 : TypeId := 12
abbrev t_st_13 : TypeId := 13
abbrev t_runtime_errorAddressString : TypeId := 14
abbrev t_ptr_runtime_TypeAssertionError : TypeId := 15
abbrev t_ptr_runtime_PanicNilError : TypeId := 16
abbrev t_ptr_abi_Type : TypeId := 17
abbrev t_st_18 : TypeId := 18
abbrev t_maps_unhashableTypeError : TypeId := 19
abbrev t_interface_20 : TypeId := 20
abbrev t_i32 : TypeId := 21
abbrev t_sl_laws_Row : TypeId := 22
abbrev t_sl_laws_Tomb : TypeId := 23
abbrev t_sl_laws_Session : TypeId := 24
abbrev t_sl_laws_Last : TypeId := 25
abbrev t_st_26 : TypeId := 26
abbrev t_laws_State : TypeId := 27
abbrev t_sl_byte : TypeId := 28
abbrev t_st_29 : TypeId := 29
abbrev t_laws_Op : TypeId := 30
abbrev t_st_31 : TypeId := 31
abbrev t_laws_Cmd : TypeId := 32
abbrev t_func_33 : TypeId := 33
abbrev t_func_34 : TypeId := 34
abbrev t_sl_impl_Row : TypeId := 35
abbrev t_sl_impl_Tomb : TypeId := 36
abbrev t_sl_impl_Session : TypeId := 37
abbrev t_sl_impl_Last : TypeId := 38
abbrev t_st_39 : TypeId := 39
abbrev t_impl_State : TypeId := 40
abbrev t_st_41 : TypeId := 41
abbrev t_impl_Reply : TypeId := 42
abbrev t_tuple_43 : TypeId := 43
abbrev t_func_44 : TypeId := 44
abbrev t_func_45 : TypeId := 45
abbrev t_impl_Op : TypeId := 46
abbrev t_st_47 : TypeId := 47
abbrev t_impl_Cmd : TypeId := 48
abbrev t_func_49 : TypeId := 49
abbrev t_func_50 : TypeId := 50
abbrev t_func_51 : TypeId := 51
abbrev t_func_52 : TypeId := 52
abbrev t_func_53 : TypeId := 53
abbrev t_func_54 : TypeId := 54
abbrev t_func_55 : TypeId := 55
abbrev t_sl_laws_Cmd : TypeId := 56
abbrev t_st_57 : TypeId := 57
abbrev t_laws_Snap : TypeId := 58
abbrev t_func_59 : TypeId := 59
abbrev t_sl_impl_Cmd : TypeId := 60
abbrev t_st_61 : TypeId := 61
abbrev t_impl_Snap : TypeId := 62
abbrev t_tuple_63 : TypeId := 63
abbrev t_func_64 : TypeId := 64
abbrev t_func_65 : TypeId := 65
abbrev t_func_66 : TypeId := 66
abbrev t_func_67 : TypeId := 67
abbrev t_func_68 : TypeId := 68
abbrev t_sl_laws_Fact : TypeId := 69
abbrev t_func_70 : TypeId := 70
abbrev t_func_71 : TypeId := 71
abbrev t_sl_impl_Fact : TypeId := 72
abbrev t_func_73 : TypeId := 73
abbrev t_func_74 : TypeId := 74
abbrev t_func_75 : TypeId := 75
abbrev t_func_76 : TypeId := 76
abbrev t_tuple_77 : TypeId := 77
abbrev t_func_78 : TypeId := 78
abbrev t_func_79 : TypeId := 79
abbrev t_sl_laws_Timer : TypeId := 80
abbrev t_st_81 : TypeId := 81
abbrev t_laws_Wheel : TypeId := 82
abbrev t_st_83 : TypeId := 83
abbrev t_laws_Duty : TypeId := 84
abbrev t_func_85 : TypeId := 85
abbrev t_sl_impl_Timer : TypeId := 86
abbrev t_st_87 : TypeId := 87
abbrev t_impl_Wheel : TypeId := 88
abbrev t_st_89 : TypeId := 89
abbrev t_impl_Duty : TypeId := 90
abbrev t_tuple_91 : TypeId := 91
abbrev t_func_92 : TypeId := 92
abbrev t_func_93 : TypeId := 93
abbrev t_func_94 : TypeId := 94
abbrev t_func_95 : TypeId := 95
abbrev t_func_96 : TypeId := 96
abbrev t_sl_impl_Op : TypeId := 97
abbrev t_tuple_98 : TypeId := 98
abbrev t_func_99 : TypeId := 99
abbrev t_func_100 : TypeId := 100
abbrev t_func_101 : TypeId := 101
abbrev t_func_102 : TypeId := 102
abbrev t_func_103 : TypeId := 103
abbrev t_func_104 : TypeId := 104
abbrev t_func_105 : TypeId := 105
abbrev t_func_106 : TypeId := 106
abbrev t_func_107 : TypeId := 107
abbrev t_func_108 : TypeId := 108
abbrev t_func_109 : TypeId := 109
abbrev t_func_110 : TypeId := 110
abbrev t_func_111 : TypeId := 111
abbrev t_ptr_impl_State : TypeId := 112
abbrev t_func_113 : TypeId := 113
abbrev t_func_114 : TypeId := 114
abbrev t_func_115 : TypeId := 115
abbrev t_func_116 : TypeId := 116
abbrev t_func_117 : TypeId := 117
abbrev t_func_118 : TypeId := 118
abbrev t_func_119 : TypeId := 119
abbrev t_func_120 : TypeId := 120
abbrev t_func_121 : TypeId := 121
abbrev t_func_122 : TypeId := 122
abbrev t_func_123 : TypeId := 123
abbrev t_func_124 : TypeId := 124
abbrev t_func_125 : TypeId := 125
abbrev t_func_126 : TypeId := 126
abbrev t_func_127 : TypeId := 127
abbrev t_func_128 : TypeId := 128
abbrev t_func_129 : TypeId := 129
abbrev t_func_130 : TypeId := 130
abbrev t_func_131 : TypeId := 131
abbrev t_func_132 : TypeId := 132
abbrev t_st_133 : TypeId := 133
abbrev t_impl_Item : TypeId := 134
abbrev t_func_135 : TypeId := 135
abbrev t_func_136 : TypeId := 136
abbrev t_func_137 : TypeId := 137
abbrev t_func_138 : TypeId := 138
abbrev t_func_139 : TypeId := 139
abbrev t_func_140 : TypeId := 140
abbrev t_st_141 : TypeId := 141
abbrev t_laws_Fact : TypeId := 142
abbrev t_st_143 : TypeId := 143
abbrev t_impl_Fact : TypeId := 144
abbrev t_func_145 : TypeId := 145
abbrev t_func_146 : TypeId := 146
abbrev t_func_147 : TypeId := 147
abbrev t_func_148 : TypeId := 148
abbrev t_func_149 : TypeId := 149
abbrev t_func_150 : TypeId := 150
abbrev t_func_151 : TypeId := 151
abbrev t_func_152 : TypeId := 152
abbrev t_ptr_impl_Duty : TypeId := 153
abbrev t_func_154 : TypeId := 154
abbrev t_func_155 : TypeId := 155
abbrev t_func_156 : TypeId := 156
abbrev t_func_157 : TypeId := 157
abbrev t_sl_int : TypeId := 158
abbrev t_tuple_159 : TypeId := 159
abbrev t_func_160 : TypeId := 160
abbrev t_func_161 : TypeId := 161
abbrev t_ptr_impl_Wheel : TypeId := 162
abbrev t_func_163 : TypeId := 163
abbrev t_func_164 : TypeId := 164
abbrev t_func_165 : TypeId := 165
abbrev t_st_166 : TypeId := 166
abbrev t_laws_Row : TypeId := 167
abbrev t_func_168 : TypeId := 168
abbrev t_st_169 : TypeId := 169
abbrev t_laws_Tomb : TypeId := 170
abbrev t_func_171 : TypeId := 171
abbrev t_impl_Row : TypeId := 172
abbrev t_func_173 : TypeId := 173
abbrev t_impl_Tomb : TypeId := 174
abbrev t_func_175 : TypeId := 175
abbrev t_st_176 : TypeId := 176
abbrev t_impl_Session : TypeId := 177
abbrev t_st_178 : TypeId := 178
abbrev t_impl_Last : TypeId := 179
abbrev t_func_180 : TypeId := 180
abbrev t_func_181 : TypeId := 181
abbrev t_func_182 : TypeId := 182
abbrev t_func_183 : TypeId := 183
abbrev t_func_184 : TypeId := 184
abbrev t_laws_Session : TypeId := 185
abbrev t_func_186 : TypeId := 186
abbrev t_laws_Reply : TypeId := 187
abbrev t_st_188 : TypeId := 188
abbrev t_laws_Last : TypeId := 189
abbrev t_func_190 : TypeId := 190
abbrev t_func_191 : TypeId := 191
abbrev t_func_192 : TypeId := 192
abbrev t_tuple_193 : TypeId := 193
abbrev t_func_194 : TypeId := 194
abbrev t_func_195 : TypeId := 195
abbrev t_func_196 : TypeId := 196
abbrev t_func_197 : TypeId := 197
abbrev t_func_198 : TypeId := 198
abbrev t_func_199 : TypeId := 199
abbrev t_func_200 : TypeId := 200
abbrev t_func_201 : TypeId := 201
abbrev t_func_202 : TypeId := 202
abbrev t_func_203 : TypeId := 203
abbrev t_func_204 : TypeId := 204
abbrev t_func_205 : TypeId := 205
abbrev t_func_206 : TypeId := 206
abbrev t_func_207 : TypeId := 207
abbrev t_func_208 : TypeId := 208
abbrev t_func_209 : TypeId := 209
abbrev t_func_210 : TypeId := 210
abbrev t_func_211 : TypeId := 211
abbrev t_st_212 : TypeId := 212
abbrev t_impl_Timer : TypeId := 213
abbrev t_func_214 : TypeId := 214
abbrev t_func_215 : TypeId := 215
abbrev t_func_216 : TypeId := 216
abbrev t_func_217 : TypeId := 217
abbrev t_func_218 : TypeId := 218
abbrev t_func_219 : TypeId := 219
abbrev t_func_220 : TypeId := 220
abbrev t_func_221 : TypeId := 221
abbrev t_func_222 : TypeId := 222
abbrev t_func_223 : TypeId := 223
abbrev t_func_224 : TypeId := 224
abbrev t_func_225 : TypeId := 225
abbrev t_func_226 : TypeId := 226
abbrev t_func_227 : TypeId := 227
abbrev t_func_228 : TypeId := 228
abbrev t_func_229 : TypeId := 229
abbrev t_func_230 : TypeId := 230
abbrev t_func_231 : TypeId := 231
abbrev t_func_232 : TypeId := 232
abbrev t_func_233 : TypeId := 233
abbrev t_func_234 : TypeId := 234
abbrev t_func_235 : TypeId := 235
abbrev t_func_236 : TypeId := 236
abbrev t_func_237 : TypeId := 237
abbrev t_func_238 : TypeId := 238
abbrev t_func_239 : TypeId := 239
abbrev t_func_240 : TypeId := 240
abbrev t_laws_Timer : TypeId := 241
abbrev t_func_242 : TypeId := 242
abbrev t_func_243 : TypeId := 243
abbrev t_func_244 : TypeId := 244
abbrev t_func_245 : TypeId := 245
abbrev t_func_246 : TypeId := 246
abbrev t_u64' : TypeId := 247
abbrev t_func_248 : TypeId := 248
abbrev t_func_249 : TypeId := 249
abbrev t_func_250 : TypeId := 250
abbrev t_func_251 : TypeId := 251
abbrev t_func_252 : TypeId := 252
abbrev t_func_253 : TypeId := 253
abbrev t_func_254 : TypeId := 254
abbrev t_slices_sortedHint : TypeId := 255
abbrev t_tuple_256 : TypeId := 256
abbrev t_func_257 : TypeId := 257
abbrev t_func_258 : TypeId := 258
abbrev t_func_259 : TypeId := 259
abbrev t_func_260 : TypeId := 260
abbrev t_func_261 : TypeId := 261
abbrev t_u32 : TypeId := 262
abbrev t_func_263 : TypeId := 263
abbrev t_u64'' : TypeId := 264
abbrev t_func_265 : TypeId := 265
abbrev t_func_266 : TypeId := 266
abbrev t_slices_xorshift : TypeId := 267
abbrev t_func_268 : TypeId := 268
abbrev t_func_269 : TypeId := 269
abbrev t_func_270 : TypeId := 270
abbrev t_ptr_int : TypeId := 271
abbrev t_func_272 : TypeId := 272
abbrev t_ptr_slices_xorshift : TypeId := 273
abbrev t_tuple_274 : TypeId := 274
abbrev t_func_275 : TypeId := 275
abbrev t_func_276 : TypeId := 276
abbrev t_func_277 : TypeId := 277
abbrev t_st_278 : TypeId := 278
abbrev t_runtime_TypeAssertionError : TypeId := 279
abbrev t_array_280 : TypeId := 280
abbrev t_st_281 : TypeId := 281
abbrev t_runtime_PanicNilError : TypeId := 282
abbrev t_func_283 : TypeId := 283
abbrev t_abi_TFlag : TypeId := 284
abbrev t_abi_Kind : TypeId := 285
abbrev t_func_286 : TypeId := 286
abbrev t_ptr_byte : TypeId := 287
abbrev t_abi_NameOff : TypeId := 288
abbrev t_abi_TypeOff : TypeId := 289
abbrev t_st_290 : TypeId := 290
abbrev t_abi_Type : TypeId := 291
abbrev t_other_292 : TypeId := 292
def n_runtime_boundsError (x : V) : V := .agg [.int .i64 (gi x 0), .int .i64 (gi x 1), .bool (gb x 2), .int .u8 (gi x 3)]
def n_runtime_errorAddressString (x : V) : V := .agg [.str (gs x 0), .int .u64 (gi x 1)]
def n_laws_State (x : V) : V := .agg [.int .i64 (gi x 0), .inl t_laws_Row (gl x 1), .inl t_laws_Tomb (gl x 2), .int .i64 (gi x 3), .inl t_laws_Session (gl x 4), .inl t_laws_Last (gl x 5)]
def n_laws_Op (x : V) : V := .agg [.int .i64 (gi x 0), .inl t_byte (gl x 1), .inl t_byte (gl x 2), .int .i64 (gi x 3)]
def n_laws_Cmd (x : V) : V := .agg [.int .i64 (gi x 0), .int .i64 (gi x 1), .int .i64 (gi x 2), .inl t_byte (gl x 3), .inl t_byte (gl x 4), .int .i64 (gi x 5)]
def n_impl_State (x : V) : V := .agg [.int .i64 (gi x 0), .inl t_impl_Row (gl x 1), .inl t_impl_Tomb (gl x 2), .int .i64 (gi x 3), .inl t_impl_Session (gl x 4), .inl t_impl_Last (gl x 5)]
def n_impl_Reply (x : V) : V := .agg [.int .i64 (gi x 0), .int .i64 (gi x 1)]
def n_laws_Snap (x : V) : V := .agg [.int .i64 (gi x 0), .inl t_laws_Row (gl x 1), .inl t_laws_Tomb (gl x 2), .int .i64 (gi x 3), .inl t_laws_Session (gl x 4), .inl t_laws_Last (gl x 5), .inl t_laws_Cmd (gl x 6)]
def n_impl_Snap (x : V) : V := .agg [.int .i64 (gi x 0), .inl t_impl_Row (gl x 1), .inl t_impl_Tomb (gl x 2), .int .i64 (gi x 3), .inl t_impl_Session (gl x 4), .inl t_impl_Last (gl x 5), .inl t_impl_Cmd (gl x 6)]
def n_laws_Wheel (x : V) : V := .agg [.int .i64 (gi x 0), .inl t_laws_Timer (gl x 1)]
def n_laws_Duty (x : V) : V := .agg [.int .i64 (gi x 0), .int .i64 (gi x 1), .inl t_laws_Timer (gl x 2)]
def n_impl_Wheel (x : V) : V := .agg [.int .i64 (gi x 0), .inl t_impl_Timer (gl x 1)]
def n_impl_Duty (x : V) : V := .agg [.int .i64 (gi x 0), .int .i64 (gi x 1), .inl t_impl_Timer (gl x 2)]
def n_impl_Item (x : V) : V := .agg [.int .i64 (gi x 0), .int .i64 (gi x 1), .int .i64 (gi x 2), .int .i64 (gi x 3), .inl t_byte (gl x 4), .inl t_byte (gl x 5), .int .i64 (gi x 6)]
def n_laws_Row (x : V) : V := .agg [.inl t_byte (gl x 0), .inl t_byte (gl x 1), .int .i64 (gi x 2), .int .i64 (gi x 3)]
def n_laws_Tomb (x : V) : V := .agg [.inl t_byte (gl x 0), .int .i64 (gi x 1)]
def n_impl_Session (x : V) : V := .agg [.int .i64 (gi x 0), .bool (gb x 1)]
def n_impl_Last (x : V) : V := .agg [.int .i64 (gi x 0), .int .i64 (gi x 1), .int .i64 (gi x 2), .int .i64 (gi x 3)]
abbrev vi (n : Int) : V := .int .i64 n
abbrev w6 (n : Int) : Int := IntKind.i64.wrap n
abbrev vs (k : Nat) (T : TypeId) : V := .sl k T 0 none
abbrev ln (l : List V) : Int := ((l.length : Nat) : Int)
def noL : Loops := ⟨fun _ => [], fun _ => [], fun _ => [], runL [], []⟩
theorem noLo {cfg : Cfg} {fn : Func} : LoopsOk cfg noL (bodyOf fn) := GoodAll.ok (l := []) GoodAll.nil rfl
end Go.Eng.R
open Go Go.Eng
namespace Go.Eng.R
def laws_szTimerS (a : List V) (left : Int) : Int :=
  bif (decide ((IntKind.i64.wrap (left - ((a.length : Nat) : Int))) < 0)) then
    (-1)
  else (IntKind.i64.wrap (left - ((a.length : Nat) : Int)))
def laws_szWheel (a : V) (left : Int) : Int :=
  bif (decide ((laws_szTimerS (gl a 1) left) < 0)) then
    (-1)
  else (laws_szTimerS (gl a 1) left)
def laws_szDuty (a : V) (left : Int) : Int :=
  bif (decide ((laws_szWheel (V.agg [(V.int .i64 (gi a 1)), (V.inl t_laws_Timer (gl a 2))]) left) < 0)) then
    (-1)
  else (laws_szWheel (V.agg [(V.int .i64 (gi a 1)), (V.inl t_laws_Timer (gl a 2))]) left)
def laws_szByteS (a : List V) (left : Int) : Int :=
  bif (decide ((IntKind.i64.wrap (left - ((a.length : Nat) : Int))) < 0)) then
    (-1)
  else (IntKind.i64.wrap (left - ((a.length : Nat) : Int)))
def laws_szRow (a : V) (left : Int) : Int :=
  bif (decide ((laws_szByteS (gl a 0) left) < 0)) then
    (-1)
  else bif (decide ((laws_szByteS (gl a 1) (laws_szByteS (gl a 0) left)) < 0)) then
    (-1)
  else (laws_szByteS (gl a 1) (laws_szByteS (gl a 0) left))
def laws_szRowS_l5 : Nat → List V → Int → Int → Option (Nat × Int × Int)
  | 0, _, _, _ => none
  | k_ + 1, a0, left1, i5 =>
    bif (decide (i5 < ((a0.length : Nat) : Int))) then
      bif (idxOk i5 a0.length) then
        bif (decide ((laws_szRow (n_laws_Row (rd a0 i5.toNat)) left1) < 0)) then
          some (0, laws_szRow (n_laws_Row (rd a0 i5.toNat)) left1, -1)
        else laws_szRowS_l5 k_ a0 (laws_szRow (n_laws_Row (rd a0 i5.toNat)) left1) (IntKind.i64.wrap (i5 + 1))
      else none
    else some (1, left1, 0)
def laws_szRowS (a : List V) (left : Int) : Option (Int) :=
  bif (decide ((IntKind.i64.wrap (left - ((a.length : Nat) : Int))) < 0)) then
    some (-1)
  else Option.bind (laws_szRowS_l5 ((((a.length : Nat) : Int) - 0).toNat + 1) a (IntKind.i64.wrap (left - ((a.length : Nat) : Int))) 0) fun r1 =>
  bif (Nat.beq r1.1 0) then
    some r1.2.2
  else some r1.2.1
def laws_szTomb (a : V) (left : Int) : Int :=
  bif (decide ((laws_szByteS (gl a 0) left) < 0)) then
    (-1)
  else (laws_szByteS (gl a 0) left)
def laws_szTombS_l5 : Nat → List V → Int → Int → Option (Nat × Int × Int)
  | 0, _, _, _ => none
  | k_ + 1, a0, left1, i5 =>
    bif (decide (i5 < ((a0.length : Nat) : Int))) then
      bif (idxOk i5 a0.length) then
        bif (decide ((laws_szTomb (n_laws_Tomb (rd a0 i5.toNat)) left1) < 0)) then
          some (0, laws_szTomb (n_laws_Tomb (rd a0 i5.toNat)) left1, -1)
        else laws_szTombS_l5 k_ a0 (laws_szTomb (n_laws_Tomb (rd a0 i5.toNat)) left1) (IntKind.i64.wrap (i5 + 1))
      else none
    else some (1, left1, 0)
def laws_szTombS (a : List V) (left : Int) : Option (Int) :=
  bif (decide ((IntKind.i64.wrap (left - ((a.length : Nat) : Int))) < 0)) then
    some (-1)
  else Option.bind (laws_szTombS_l5 ((((a.length : Nat) : Int) - 0).toNat + 1) a (IntKind.i64.wrap (left - ((a.length : Nat) : Int))) 0) fun r3 =>
  bif (Nat.beq r3.1 0) then
    some r3.2.2
  else some r3.2.1
def laws_szSessionS (a : List V) (left : Int) : Int :=
  bif (decide ((IntKind.i64.wrap (left - ((a.length : Nat) : Int))) < 0)) then
    (-1)
  else (IntKind.i64.wrap (left - ((a.length : Nat) : Int)))
def laws_szLastS (a : List V) (left : Int) : Int :=
  bif (decide ((IntKind.i64.wrap (left - ((a.length : Nat) : Int))) < 0)) then
    (-1)
  else (IntKind.i64.wrap (left - ((a.length : Nat) : Int)))
def laws_szState (a : V) (left : Int) : Option (Int) :=
  Option.bind (laws_szRowS (gl a 1) left) fun r2 =>
  bif (decide (r2 < 0)) then
    some (-1)
  else Option.bind (laws_szTombS (gl a 2) r2) fun r4 =>
  bif (decide (r4 < 0)) then
    some (-1)
  else bif (decide ((laws_szSessionS (gl a 4) r4) < 0)) then
    some (-1)
  else bif (decide ((laws_szLastS (gl a 5) (laws_szSessionS (gl a 4) r4)) < 0)) then
    some (-1)
  else some (laws_szLastS (gl a 5) (laws_szSessionS (gl a 4) r4))
def laws_toTimer (a : V) : V :=
  (n_impl_Reply a)
def laws_toTimerS_l3 : Nat → List V → Int → List V → Option (List V)
  | 0, _, _, _ => none
  | k_ + 1, a0, i4, r0 =>
    bif (decide (i4 < ((a0.length : Nat) : Int))) then
      bif (idxOk i4 a0.length) then
        bif (idxOk i4 r0.length) then
          laws_toTimerS_l3 k_ a0 (IntKind.i64.wrap (i4 + 1)) (r0.set (0 + i4.toNat) (n_impl_Reply (laws_toTimer (n_impl_Reply (rd a0 i4.toNat)))))
        else none
      else none
    else some r0
def laws_toTimerS (a : List V) : Option (List V) :=
  bif (((decide ((0 : Int) ≤ ((a.length : Nat) : Int))) && decide (((a.length : Nat) : Int) = ((a.length : Nat) : Int))) && (roomy (((a.length : Nat) : Int).toNat) 16)) then
    Option.bind (laws_toTimerS_l3 ((((a.length : Nat) : Int) - 0).toNat + 1) a 0 (List.replicate (((a.length : Nat) : Int).toNat) (V.agg [(V.int .i64 0), (V.int .i64 0)]))) fun r6 =>
    some r6
  else none
def laws_toWheel (a : V) : Option (V) :=
  Option.bind (laws_toTimerS (gl a 1)) fun r7 =>
  some (V.agg [(V.int .i64 (gi a 0)), (V.inl t_impl_Timer r7)])
def laws_toDuty (a : V) : Option (V) :=
  Option.bind (laws_toWheel (V.agg [(V.int .i64 (gi a 1)), (V.inl t_laws_Timer (gl a 2))])) fun r8 =>
  some (V.agg [(V.int .i64 (gi a 0)), (V.int .i64 (gi r8 0)), (V.inl t_impl_Timer (gl r8 1))])
def laws_toByteS_l3 : Nat → List V → Int → List V → Option (List V)
  | 0, _, _, _ => none
  | k_ + 1, a0, i4, r0 =>
    bif (decide (i4 < ((a0.length : Nat) : Int))) then
      bif (idxOk i4 a0.length) then
        bif (idxOk i4 r0.length) then
          laws_toByteS_l3 k_ a0 (IntKind.i64.wrap (i4 + 1)) (r0.set (0 + i4.toNat) (V.int .u8 (gi (rd a0 i4.toNat) 0)))
        else none
      else none
    else some r0
def laws_toByteS (a : List V) : Option (List V) :=
  bif (((decide ((0 : Int) ≤ ((a.length : Nat) : Int))) && decide (((a.length : Nat) : Int) = ((a.length : Nat) : Int))) && (roomy (((a.length : Nat) : Int).toNat) 1)) then
    Option.bind (laws_toByteS_l3 ((((a.length : Nat) : Int) - 0).toNat + 1) a 0 (List.replicate (((a.length : Nat) : Int).toNat) (V.int .u8 0))) fun r10 =>
    some r10
  else none
def laws_toRow (a : V) : Option (V) :=
  Option.bind (laws_toByteS (gl a 0)) fun r11 =>
  Option.bind (laws_toByteS (gl a 1)) fun r12 =>
  some (V.agg [(V.inl t_byte r11), (V.inl t_byte r12), (V.int .i64 (gi a 2)), (V.int .i64 (gi a 3))])
def laws_toRowS_l3 : Nat → List V → Int → List V → Option (List V)
  | 0, _, _, _ => none
  | k_ + 1, a0, i4, r0 =>
    bif (decide (i4 < ((a0.length : Nat) : Int))) then
      bif (idxOk i4 a0.length) then
        Option.bind (laws_toRow (n_laws_Row (rd a0 i4.toNat))) fun r13 =>
        bif (idxOk i4 r0.length) then
          laws_toRowS_l3 k_ a0 (IntKind.i64.wrap (i4 + 1)) (r0.set (0 + i4.toNat) (n_laws_Row r13))
        else none
      else none
    else some r0
def laws_toRowS (a : List V) : Option (List V) :=
  bif (((decide ((0 : Int) ≤ ((a.length : Nat) : Int))) && decide (((a.length : Nat) : Int) = ((a.length : Nat) : Int))) && (roomy (((a.length : Nat) : Int).toNat) 64)) then
    Option.bind (laws_toRowS_l3 ((((a.length : Nat) : Int) - 0).toNat + 1) a 0 (List.replicate (((a.length : Nat) : Int).toNat) (V.agg [(V.inl t_byte []), (V.inl t_byte []), (V.int .i64 0), (V.int .i64 0)]))) fun r14 =>
    some r14
  else none
def laws_toTomb (a : V) : Option (V) :=
  Option.bind (laws_toByteS (gl a 0)) fun r16 =>
  some (V.agg [(V.inl t_byte r16), (V.int .i64 (gi a 1))])
def laws_toTombS_l3 : Nat → List V → Int → List V → Option (List V)
  | 0, _, _, _ => none
  | k_ + 1, a0, i4, r0 =>
    bif (decide (i4 < ((a0.length : Nat) : Int))) then
      bif (idxOk i4 a0.length) then
        Option.bind (laws_toTomb (n_laws_Tomb (rd a0 i4.toNat))) fun r17 =>
        bif (idxOk i4 r0.length) then
          laws_toTombS_l3 k_ a0 (IntKind.i64.wrap (i4 + 1)) (r0.set (0 + i4.toNat) (n_laws_Tomb r17))
        else none
      else none
    else some r0
def laws_toTombS (a : List V) : Option (List V) :=
  bif (((decide ((0 : Int) ≤ ((a.length : Nat) : Int))) && decide (((a.length : Nat) : Int) = ((a.length : Nat) : Int))) && (roomy (((a.length : Nat) : Int).toNat) 32)) then
    Option.bind (laws_toTombS_l3 ((((a.length : Nat) : Int) - 0).toNat + 1) a 0 (List.replicate (((a.length : Nat) : Int).toNat) (V.agg [(V.inl t_byte []), (V.int .i64 0)]))) fun r18 =>
    some r18
  else none
def laws_toSession (a : V) : V :=
  (n_impl_Session a)
def laws_toSessionS_l3 : Nat → List V → Int → List V → Option (List V)
  | 0, _, _, _ => none
  | k_ + 1, a0, i4, r0 =>
    bif (decide (i4 < ((a0.length : Nat) : Int))) then
      bif (idxOk i4 a0.length) then
        bif (idxOk i4 r0.length) then
          laws_toSessionS_l3 k_ a0 (IntKind.i64.wrap (i4 + 1)) (r0.set (0 + i4.toNat) (n_impl_Session (laws_toSession (n_impl_Session (rd a0 i4.toNat)))))
        else none
      else none
    else some r0
def laws_toSessionS (a : List V) : Option (List V) :=
  bif (((decide ((0 : Int) ≤ ((a.length : Nat) : Int))) && decide (((a.length : Nat) : Int) = ((a.length : Nat) : Int))) && (roomy (((a.length : Nat) : Int).toNat) 16)) then
    Option.bind (laws_toSessionS_l3 ((((a.length : Nat) : Int) - 0).toNat + 1) a 0 (List.replicate (((a.length : Nat) : Int).toNat) (V.agg [(V.int .i64 0), (V.bool false)]))) fun r20 =>
    some r20
  else none
def laws_toReply (a : V) : V :=
  (n_impl_Reply a)
def laws_toLast (a : V) : V :=
  (V.agg [(V.int .i64 (gi a 0)), (V.int .i64 (gi a 1)), (V.int .i64 (gi (laws_toReply (V.agg [(V.int .i64 (gi a 2)), (V.int .i64 (gi a 3))])) 0)), (V.int .i64 (gi (laws_toReply (V.agg [(V.int .i64 (gi a 2)), (V.int .i64 (gi a 3))])) 1))])
def laws_toLastS_l3 : Nat → List V → Int → List V → Option (List V)
  | 0, _, _, _ => none
  | k_ + 1, a0, i4, r0 =>
    bif (decide (i4 < ((a0.length : Nat) : Int))) then
      bif (idxOk i4 a0.length) then
        bif (idxOk i4 r0.length) then
          laws_toLastS_l3 k_ a0 (IntKind.i64.wrap (i4 + 1)) (r0.set (0 + i4.toNat) (n_impl_Last (laws_toLast (n_impl_Last (rd a0 i4.toNat)))))
        else none
      else none
    else some r0
def laws_toLastS (a : List V) : Option (List V) :=
  bif (((decide ((0 : Int) ≤ ((a.length : Nat) : Int))) && decide (((a.length : Nat) : Int) = ((a.length : Nat) : Int))) && (roomy (((a.length : Nat) : Int).toNat) 32)) then
    Option.bind (laws_toLastS_l3 ((((a.length : Nat) : Int) - 0).toNat + 1) a 0 (List.replicate (((a.length : Nat) : Int).toNat) (V.agg [(V.int .i64 0), (V.int .i64 0), (V.int .i64 0), (V.int .i64 0)]))) fun r22 =>
    some r22
  else none
def laws_toState (a : V) : Option (V) :=
  Option.bind (laws_toRowS (gl a 1)) fun r15 =>
  Option.bind (laws_toTombS (gl a 2)) fun r19 =>
  Option.bind (laws_toSessionS (gl a 4)) fun r21 =>
  Option.bind (laws_toLastS (gl a 5)) fun r23 =>
  some (V.agg [(V.int .i64 (gi a 0)), (V.inl t_impl_Row r15), (V.inl t_impl_Tomb r19), (V.int .i64 (gi a 3)), (V.inl t_impl_Session r21), (V.inl t_impl_Last r23)])
def spec_l7ahead (a : V) (b : V) : Bool :=
  bif (decide ((gi a 1) < (gi b 1))) then
    true
  else bif (decide ((gi a 1) = (gi b 1))) then
    (decide ((gi a 0) < (gi b 0)))
  else false
def spec_l7find_l2 : Nat → List V → Int → Int → Option (Nat × Int)
  | 0, _, _, _ => none
  | k_ + 1, l0, id1, i5 =>
    bif (decide (i5 < ((l0.length : Nat) : Int))) then
      bif (idxOk i5 l0.length) then
        bif (decide ((gi (rd l0 i5.toNat) 0) = id1)) then
          some (0, i5)
        else spec_l7find_l2 k_ l0 id1 (IntKind.i64.wrap (i5 + 1))
      else none
    else some (1, 0)
def spec_l7find (l : List V) (id : Int) : Option (Int) :=
  Option.bind (spec_l7find_l2 ((((l.length : Nat) : Int) - 0).toNat + 1) l id 0) fun r25 =>
  bif (Nat.beq r25.1 0) then
    some r25.2
  else some (-1)
def spec_WheelOk_l4 : Nat → Int → V → Option (Nat × Bool)
  | 0, _, _ => none
  | k_ + 1, i3, b0 =>
    bif (decide (i3 < (((gl b0 1).length : Nat) : Int))) then
      bif (idxOk i3 ((gl b0 1).length)) then
        bif (decide ((gi (rd (gl b0 1) i3.toNat) 0) < 0)) then
          some (0, false)
        else bif (decide ((2147483647 : Int) < (gi (rd (gl b0 1) i3.toNat) 0))) then
          some (0, false)
        else bif (decide ((gi (rd (gl b0 1) i3.toNat) 1) ≤ (gi b0 0))) then
          some (0, false)
        else bif (decide ((2000000 : Int) < (gi (rd (gl b0 1) i3.toNat) 1))) then
          some (0, false)
        else bif (decide ((0 : Int) < i3)) then
          bif (idxOk (IntKind.i64.wrap (i3 - 1)) ((gl b0 1).length)) then
            bif (!(spec_l7ahead (n_impl_Reply (rd (gl b0 1) ((IntKind.i64.wrap (i3 - 1)).toNat))) (n_impl_Reply (rd (gl b0 1) i3.toNat)))) then
              some (0, false)
            else bif ((decide ((0 : Int) ≤ i3)) && (decide (i3 ≤ (((gl b0 1).length : Nat) : Int)))) then
              Option.bind (spec_l7find ((gl b0 1).take i3.toNat) (gi (rd (gl b0 1) i3.toNat) 0)) fun r26 =>
              bif (decide ((0 : Int) ≤ r26)) then
                some (0, false)
              else spec_WheelOk_l4 k_ (IntKind.i64.wrap (i3 + 1)) (n_impl_Wheel b0)
            else none
          else none
        else bif ((decide ((0 : Int) ≤ i3)) && (decide (i3 ≤ (((gl b0 1).length : Nat) : Int)))) then
          Option.bind (spec_l7find ((gl b0 1).take i3.toNat) (gi (rd (gl b0 1) i3.toNat) 0)) fun r27 =>
          bif (decide ((0 : Int) ≤ r27)) then
            some (0, false)
          else spec_WheelOk_l4 k_ (IntKind.i64.wrap (i3 + 1)) (n_impl_Wheel b0)
        else none
      else none
    else some (1, false)
def spec_WheelOk (w : V) : Option (Bool) :=
  bif (decide ((gi w 0) < 0)) then
    some false
  else bif (decide ((1000000 : Int) < (gi w 0))) then
    some false
  else bif (decide ((40 : Int) < (((gl w 1).length : Nat) : Int))) then
    some false
  else Option.bind (spec_WheelOk_l4 (((((gl (n_impl_Wheel w) 1).length : Nat) : Int) - 0).toNat + 1) 0 (n_impl_Wheel w)) fun r28 =>
  bif (Nat.beq r28.1 0) then
    some r28.2
  else some true
def spec_DutyOk_l4 : Nat → Int → V → Option (Nat × Bool)
  | 0, _, _ => none
  | k_ + 1, i3, b0 =>
    bif (decide (i3 < (((gl b0 2).length : Nat) : Int))) then
      bif (idxOk i3 ((gl b0 2).length)) then
        bif (decide ((gi b0 0) < (IntKind.i64.wrap ((gi (rd (gl b0 2) i3.toNat) 1) - (gi b0 1))))) then
          some (0, false)
        else spec_DutyOk_l4 k_ (IntKind.i64.wrap (i3 + 1)) (n_impl_Duty b0)
      else none
    else some (1, false)
def spec_DutyOk (d : V) : Option (Bool) :=
  bif (decide ((gi d 0) < 1)) then
    some false
  else bif (decide ((1000 : Int) < (gi d 0))) then
    some false
  else Option.bind (spec_WheelOk (V.agg [(V.int .i64 (gi d 1)), (V.inl t_impl_Timer (gl d 2))])) fun r29 =>
  bif (!r29) then
    some false
  else bif (decide ((8 : Int) < (((gl d 2).length : Nat) : Int))) then
    some false
  else Option.bind (spec_DutyOk_l4 (((((gl (n_impl_Duty d) 2).length : Nat) : Int) - 0).toNat + 1) 0 (n_impl_Duty d)) fun r30 =>
  bif (Nat.beq r30.1 0) then
    some r30.2
  else some true
def spec_l2index (n : Int) : Bool :=
  bif (decide ((0 : Int) ≤ n)) then
    (decide (n ≤ 1000000))
  else false
def spec_l2key_l4 : Nat → List V → Int → Option (Nat × Bool)
  | 0, _, _ => none
  | k_ + 1, b0, i3 =>
    bif (decide (i3 < ((b0.length : Nat) : Int))) then
      bif (idxOk i3 b0.length) then
        bif (decide ((gi (rd b0 i3.toNat) 0) < 97)) then
          bif (idxOk i3 b0.length) then
            bif (!(decide ((gi (rd b0 i3.toNat) 0) = 47))) then
              some (0, false)
            else spec_l2key_l4 k_ b0 (IntKind.i64.wrap (i3 + 1))
          else none
        else bif (idxOk i3 b0.length) then
          bif (decide ((122 : Int) < (gi (rd b0 i3.toNat) 0))) then
            bif (idxOk i3 b0.length) then
              bif (!(decide ((gi (rd b0 i3.toNat) 0) = 47))) then
                some (0, false)
              else spec_l2key_l4 k_ b0 (IntKind.i64.wrap (i3 + 1))
            else none
          else spec_l2key_l4 k_ b0 (IntKind.i64.wrap (i3 + 1))
        else none
      else none
    else some (1, false)
def spec_l2key (b : List V) : Option (Bool) :=
  bif (decide (((b.length : Nat) : Int) < 1)) then
    some false
  else bif (decide ((20 : Int) < ((b.length : Nat) : Int))) then
    some false
  else Option.bind (spec_l2key_l4 ((((b.length : Nat) : Int) - 0).toNat + 1) b 0) fun r32 =>
  bif (Nat.beq r32.1 0) then
    some r32.2
  else some true
def spec_l2val (b : List V) : Bool :=
  (decide (((b.length : Nat) : Int) ≤ 20))
def spec_l2sess_l2 : Nat → Int → Int → V → Option (Nat × Int)
  | 0, _, _, _ => none
  | k_ + 1, id1, i5, b0 =>
    bif (decide (i5 < (((gl b0 4).length : Nat) : Int))) then
      bif (idxOk i5 ((gl b0 4).length)) then
        bif (decide ((gi (rd (gl b0 4) i5.toNat) 0) = id1)) then
          some (0, i5)
        else spec_l2sess_l2 k_ id1 (IntKind.i64.wrap (i5 + 1)) (n_impl_State b0)
      else none
    else some (1, 0)
def spec_l2sess (s : V) (id : Int) : Option (Int) :=
  Option.bind (spec_l2sess_l2 (((((gl (n_impl_State s) 4).length : Nat) : Int) - 0).toNat + 1) id 0 (n_impl_State s)) fun r34 =>
  bif (Nat.beq r34.1 0) then
    some r34.2
  else some (-1)
def spec_l2row_l2 : Nat → List V → Int → V → Option (Nat × Int)
  | 0, _, _, _ => none
  | k_ + 1, key1, i5, b0 =>
    bif (decide (i5 < (((gl b0 1).length : Nat) : Int))) then
      bif (idxOk i5 ((gl b0 1).length)) then
        bif (eqList ((gl (rd (gl b0 1) i5.toNat) 0).map normB) (key1.map normB)) then
          some (0, i5)
        else spec_l2row_l2 k_ key1 (IntKind.i64.wrap (i5 + 1)) (n_impl_State b0)
      else none
    else some (1, 0)
def spec_l2row (s : V) (key : List V) : Option (Int) :=
  Option.bind (spec_l2row_l2 (((((gl (n_impl_State s) 1).length : Nat) : Int) - 0).toNat + 1) key 0 (n_impl_State s)) fun r38 =>
  bif (Nat.beq r38.1 0) then
    some r38.2
  else some (-1)
def spec_l2tomb_l2 : Nat → List V → Int → V → Option (Nat × Int)
  | 0, _, _, _ => none
  | k_ + 1, key1, i5, b0 =>
    bif (decide (i5 < (((gl b0 2).length : Nat) : Int))) then
      bif (idxOk i5 ((gl b0 2).length)) then
        bif (eqList ((gl (rd (gl b0 2) i5.toNat) 0).map normB) (key1.map normB)) then
          some (0, i5)
        else spec_l2tomb_l2 k_ key1 (IntKind.i64.wrap (i5 + 1)) (n_impl_State b0)
      else none
    else some (1, 0)
def spec_l2tomb (s : V) (key : List V) : Option (Int) :=
  Option.bind (spec_l2tomb_l2 (((((gl (n_impl_State s) 2).length : Nat) : Int) - 0).toNat + 1) key 0 (n_impl_State s)) fun r40 =>
  bif (Nat.beq r40.1 0) then
    some r40.2
  else some (-1)
def spec_StateOk_l4 : Nat → Int → V → Option (Nat × Bool × V)
  | 0, _, _ => none
  | k_ + 1, i3, b0 =>
    bif (decide (i3 < (((gl b0 1).length : Nat) : Int))) then
      bif (idxOk i3 ((gl b0 1).length)) then
        Option.bind (spec_l2key (gl (rd (gl b0 1) i3.toNat) 0)) fun r33 =>
        bif (!r33) then
          some (0, false, (n_impl_State b0))
        else bif (!(spec_l2val (gl (rd (gl b0 1) i3.toNat) 1))) then
          some (0, false, (n_impl_State b0))
        else bif (decide ((gi (rd (gl b0 1) i3.toNat) 2) < 1)) then
          some (0, false, (n_impl_State b0))
        else bif (decide ((gi b0 0) < (gi (rd (gl b0 1) i3.toNat) 2))) then
          some (0, false, (n_impl_State b0))
        else bif (!(decide ((gi (rd (gl b0 1) i3.toNat) 3) = 0))) then
          Option.bind (spec_l2sess (n_impl_State b0) (gi (rd (gl b0 1) i3.toNat) 3)) fun r35 =>
          bif (decide (r35 < 0)) then
            some (0, false, (n_impl_State b0))
          else bif (decide ((0 : Int) < i3)) then
            bif (idxOk (IntKind.i64.wrap (i3 - 1)) ((gl b0 1).length)) then
              bif (!(ltList ((gl (rd (gl b0 1) ((IntKind.i64.wrap (i3 - 1)).toNat)) 0).map normB) ((gl (rd (gl b0 1) i3.toNat) 0).map normB))) then
                some (0, false, (n_impl_State b0))
              else spec_StateOk_l4 k_ (IntKind.i64.wrap (i3 + 1)) (n_impl_State b0)
            else none
          else spec_StateOk_l4 k_ (IntKind.i64.wrap (i3 + 1)) (n_impl_State b0)
        else bif (decide ((0 : Int) < i3)) then
          bif (idxOk (IntKind.i64.wrap (i3 - 1)) ((gl b0 1).length)) then
            bif (!(ltList ((gl (rd (gl b0 1) ((IntKind.i64.wrap (i3 - 1)).toNat)) 0).map normB) ((gl (rd (gl b0 1) i3.toNat) 0).map normB))) then
              some (0, false, (n_impl_State b0))
            else spec_StateOk_l4 k_ (IntKind.i64.wrap (i3 + 1)) (n_impl_State b0)
          else none
        else spec_StateOk_l4 k_ (IntKind.i64.wrap (i3 + 1)) (n_impl_State b0)
      else none
    else some (1, false, (n_impl_State b0))
def spec_StateOk_l10 : Nat → Int → V → Option (Nat × Bool × V)
  | 0, _, _ => none
  | k_ + 1, i5, b0 =>
    bif (decide (i5 < (((gl b0 2).length : Nat) : Int))) then
      bif (idxOk i5 ((gl b0 2).length)) then
        Option.bind (spec_l2key (gl (rd (gl b0 2) i5.toNat) 0)) fun r37 =>
        bif (!r37) then
          some (0, false, (n_impl_State b0))
        else Option.bind (spec_l2row (n_impl_State b0) (gl (rd (gl b0 2) i5.toNat) 0)) fun r39 =>
        bif (decide ((0 : Int) ≤ r39)) then
          some (0, false, (n_impl_State b0))
        else Option.bind (spec_l2tomb (n_impl_State b0) (gl (rd (gl b0 2) i5.toNat) 0)) fun r41 =>
        bif (!(decide (r41 = i5))) then
          some (0, false, (n_impl_State b0))
        else bif (decide ((gi (rd (gl b0 2) i5.toNat) 1) < 1)) then
          some (0, false, (n_impl_State b0))
        else bif (decide ((gi b0 0) < (gi (rd (gl b0 2) i5.toNat) 1))) then
          some (0, false, (n_impl_State b0))
        else bif (decide ((gi (rd (gl b0 2) i5.toNat) 1) < (gi b0 3))) then
          some (0, false, (n_impl_State b0))
        else bif (decide ((0 : Int) < i5)) then
          bif (idxOk (IntKind.i64.wrap (i5 - 1)) ((gl b0 2).length)) then
            bif (decide ((gi (rd (gl b0 2) i5.toNat) 1) < (gi (rd (gl b0 2) ((IntKind.i64.wrap (i5 - 1)).toNat)) 1))) then
              some (0, false, (n_impl_State b0))
            else spec_StateOk_l10 k_ (IntKind.i64.wrap (i5 + 1)) (n_impl_State b0)
          else none
        else spec_StateOk_l10 k_ (IntKind.i64.wrap (i5 + 1)) (n_impl_State b0)
      else none
    else some (1, false, (n_impl_State b0))
def spec_StateOk_l16 : Nat → Int → V → Option (Nat × Bool × V)
  | 0, _, _ => none
  | k_ + 1, i7, b0 =>
    bif (decide (i7 < (((gl b0 4).length : Nat) : Int))) then
      bif (idxOk i7 ((gl b0 4).length)) then
        bif (decide ((gi (rd (gl b0 4) i7.toNat) 0) < 1)) then
          some (0, false, (n_impl_State b0))
        else bif (idxOk i7 ((gl b0 4).length)) then
          bif (decide ((gi b0 0) < (gi (rd (gl b0 4) i7.toNat) 0))) then
            some (0, false, (n_impl_State b0))
          else bif (decide ((0 : Int) < i7)) then
            bif (idxOk (IntKind.i64.wrap (i7 - 1)) ((gl b0 4).length)) then
              bif (idxOk i7 ((gl b0 4).length)) then
                bif (decide ((gi (rd (gl b0 4) i7.toNat) 0) ≤ (gi (rd (gl b0 4) ((IntKind.i64.wrap (i7 - 1)).toNat)) 0))) then
                  some (0, false, (n_impl_State b0))
                else spec_StateOk_l16 k_ (IntKind.i64.wrap (i7 + 1)) (n_impl_State b0)
              else none
            else none
          else spec_StateOk_l16 k_ (IntKind.i64.wrap (i7 + 1)) (n_impl_State b0)
        else none
      else none
    else some (1, false, (n_impl_State b0))
def spec_StateOk_l21 : Nat → Int → V → Option (Nat × Bool)
  | 0, _, _ => none
  | k_ + 1, i8, b0 =>
    bif (decide (i8 < (((gl b0 5).length : Nat) : Int))) then
      bif (idxOk i8 ((gl b0 5).length)) then
        bif (decide ((gi (rd (gl b0 5) i8.toNat) 0) < 0)) then
          some (0, false)
        else bif (decide ((4 : Int) ≤ (gi (rd (gl b0 5) i8.toNat) 0))) then
          some (0, false)
        else bif (decide ((gi (rd (gl b0 5) i8.toNat) 1) < 1)) then
          some (0, false)
        else bif (decide ((1000000 : Int) < (gi (rd (gl b0 5) i8.toNat) 1))) then
          some (0, false)
        else bif (decide ((gi (rd (gl b0 5) i8.toNat) 2) < 0)) then
          some (0, false)
        else bif (decide ((5 : Int) < (gi (rd (gl b0 5) i8.toNat) 2))) then
          some (0, false)
        else bif (decide ((gi (rd (gl b0 5) i8.toNat) 3) < 1)) then
          some (0, false)
        else bif (decide ((gi b0 0) < (gi (rd (gl b0 5) i8.toNat) 3))) then
          some (0, false)
        else bif (decide ((0 : Int) < i8)) then
          bif (idxOk (IntKind.i64.wrap (i8 - 1)) ((gl b0 5).length)) then
            bif (decide ((gi (rd (gl b0 5) i8.toNat) 0) ≤ (gi (rd (gl b0 5) ((IntKind.i64.wrap (i8 - 1)).toNat)) 0))) then
              some (0, false)
            else spec_StateOk_l21 k_ (IntKind.i64.wrap (i8 + 1)) (n_impl_State b0)
          else none
        else spec_StateOk_l21 k_ (IntKind.i64.wrap (i8 + 1)) (n_impl_State b0)
      else none
    else some (1, false)
def spec_StateOk (s : V) : Option (Bool) :=
  bif (!(spec_l2index (gi s 0))) then
    some false
  else bif (decide ((20 : Int) < (((gl s 1).length : Nat) : Int))) then
    some false
  else bif (decide ((10 : Int) < (((gl s 2).length : Nat) : Int))) then
    some false
  else bif (decide ((gi s 3) < 0)) then
    some false
  else bif (decide ((gi s 0) < (gi s 3))) then
    some false
  else bif (decide ((8 : Int) < (((gl s 4).length : Nat) : Int))) then
    some false
  else bif (decide ((4 : Int) < (((gl s 5).length : Nat) : Int))) then
    some false
  else Option.bind (spec_StateOk_l4 (((((gl (n_impl_State s) 1).length : Nat) : Int) - 0).toNat + 1) 0 (n_impl_State s)) fun r36 =>
  bif (Nat.beq r36.1 0) then
    some r36.2.1
  else Option.bind (spec_StateOk_l10 (((((gl (n_impl_State r36.2.2) 2).length : Nat) : Int) - 0).toNat + 1) 0 (n_impl_State r36.2.2)) fun r42 =>
  bif (Nat.beq r42.1 0) then
    some r42.2.1
  else Option.bind (spec_StateOk_l16 (((((gl (n_impl_State r42.2.2) 4).length : Nat) : Int) - 0).toNat + 1) 0 (n_impl_State r42.2.2)) fun r43 =>
  bif (Nat.beq r43.1 0) then
    some r43.2.1
  else Option.bind (spec_StateOk_l21 (((((gl (n_impl_State r43.2.2) 5).length : Nat) : Int) - 0).toNat + 1) 0 (n_impl_State r43.2.2)) fun r44 =>
  bif (Nat.beq r44.1 0) then
    some r44.2
  else some true
def spec_l7own (w : V) : Option (V) :=
  bif ((roomy (0 + ((gl w 1).length)) 16) && true) then
    some (n_impl_Wheel w)
  else none
def spec_l15own (d : V) : Option (V) :=
  Option.bind (spec_l7own (V.agg [(V.int .i64 (gi d 1)), (V.inl t_impl_Timer (gl d 2))])) fun r46 =>
  some (V.agg [(V.int .i64 (gi d 0)), (V.int .i64 (gi r46 0)), (V.inl t_impl_Timer (gl r46 1))])
def spec_l7stop (w : V) (id : Int) : Option (Bool × V) :=
  Option.bind (spec_l7find (gl w 2) id) fun r49 =>
  bif (decide (r49 < 0)) then
    some (false, (n_impl_Duty w))
  else bif ((decide ((0 : Int) ≤ r49)) && (decide (r49 ≤ (((gl w 2).length : Nat) : Int)))) then
    bif ((roomy (0 + (((gl w 2).take r49.toNat).length)) 16) && true) then
      bif ((decide ((0 : Int) ≤ (IntKind.i64.wrap (r49 + 1)))) && (decide ((IntKind.i64.wrap (r49 + 1)) ≤ (((gl w 2).length : Nat) : Int)))) then
        bif ((roomy ((((gl w 2).take r49.toNat).length) + (((gl w 2).drop (0 + ((IntKind.i64.wrap (r49 + 1)).toNat))).length)) 16) && true) then
          some (true, (V.agg [(V.int .i64 (gi w 0)), (V.int .i64 (gi w 1)), (V.inl t_impl_Timer (((gl w 2).take r49.toNat) ++ ((gl w 2).drop (0 + ((IntKind.i64.wrap (r49 + 1)).toNat)))))]))
        else none
      else none
    else none
  else none
def spec_l7set_l6 : Nat → Int → V → V → List V → Option (Int × V × V × List V)
  | 0, _, _, _, _ => none
  | k_ + 1, i8, b0, b1, r2 =>
    bif (decide (i8 < ((r2.length : Nat) : Int))) then
      bif (idxOk i8 r2.length) then
        bif spec_l7ahead (n_impl_Reply (rd r2 (0 + i8.toNat))) (n_impl_Reply b1) then
          spec_l7set_l6 k_ (IntKind.i64.wrap (i8 + 1)) (V.agg [(V.int .i64 (gi b0 0)), (V.int .i64 (gi b0 1)), (V.sl 2 t_impl_Timer 0 none)]) (n_impl_Reply b1) r2
        else some (i8, (V.agg [(V.int .i64 (gi b0 0)), (V.int .i64 (gi b0 1)), (V.sl 2 t_impl_Timer 0 none)]), (n_impl_Reply b1), r2)
      else none
    else some (i8, (V.agg [(V.int .i64 (gi b0 0)), (V.int .i64 (gi b0 1)), (V.sl 2 t_impl_Timer 0 none)]), (n_impl_Reply b1), r2)
def spec_l7set (w : V) (id : Int) (after : Int) : Option (Bool × V) :=
  bif (decide (id < 0)) then
    some (false, (n_impl_Duty w))
  else bif (decide ((2147483647 : Int) < id)) then
    some (false, (n_impl_Duty w))
  else bif (decide (after < 1)) then
    some (false, (n_impl_Duty w))
  else bif (decide ((1000000 : Int) < after)) then
    some (false, (n_impl_Duty w))
  else Option.bind (spec_l7find (gl w 2) id) fun r53 =>
  bif (decide (r53 < 0)) then
    bif (decide ((40 : Int) ≤ (((gl w 2).length : Nat) : Int))) then
      some (false, (n_impl_Duty w))
    else Option.bind (spec_l7stop (n_impl_Duty w) id) fun r54 =>
    Option.bind (spec_l7set_l6 (((((gl r54.2 2).length : Nat) : Int) - 0).toNat + 1) 0 (V.agg [(V.int .i64 (gi r54.2 0)), (V.int .i64 (gi r54.2 1)), (V.sl 2 t_impl_Timer 0 none)]) (V.agg [(V.int .i64 id), (V.int .i64 (IntKind.i64.wrap ((gi r54.2 1) + after)))]) (gl r54.2 2)) fun r55 =>
    bif ((decide ((0 : Int) ≤ r55.1)) && (decide (r55.1 ≤ ((r55.2.2.2.length : Nat) : Int)))) then
      bif ((roomy (0 + ((r55.2.2.2.take r55.1.toNat).length)) 16) && true) then
        bif ((roomy (((r55.2.2.2.take r55.1.toNat).length) + 1) 16) && true) then
          bif ((decide ((0 : Int) ≤ r55.1)) && (decide (r55.1 ≤ ((r55.2.2.2.length : Nat) : Int)))) then
            bif ((roomy ((((r55.2.2.2.take r55.1.toNat) ++ [(n_impl_Reply r55.2.2.1)]).length) + ((r55.2.2.2.drop (0 + r55.1.toNat)).length)) 16) && true) then
              some (true, (V.agg [(V.int .i64 (gi r55.2.1 0)), (V.int .i64 (gi r55.2.1 1)), (V.inl t_impl_Timer (((r55.2.2.2.take r55.1.toNat) ++ [(n_impl_Reply r55.2.2.1)]) ++ (r55.2.2.2.drop (0 + r55.1.toNat))))]))
            else none
          else none
        else none
      else none
    else none
  else Option.bind (spec_l7stop (n_impl_Duty w) id) fun r56 =>
  Option.bind (spec_l7set_l6 (((((gl r56.2 2).length : Nat) : Int) - 0).toNat + 1) 0 (V.agg [(V.int .i64 (gi r56.2 0)), (V.int .i64 (gi r56.2 1)), (V.sl 2 t_impl_Timer 0 none)]) (V.agg [(V.int .i64 id), (V.int .i64 (IntKind.i64.wrap ((gi r56.2 1) + after)))]) (gl r56.2 2)) fun r57 =>
  bif ((decide ((0 : Int) ≤ r57.1)) && (decide (r57.1 ≤ ((r57.2.2.2.length : Nat) : Int)))) then
    bif ((roomy (0 + ((r57.2.2.2.take r57.1.toNat).length)) 16) && true) then
      bif ((roomy (((r57.2.2.2.take r57.1.toNat).length) + 1) 16) && true) then
        bif ((decide ((0 : Int) ≤ r57.1)) && (decide (r57.1 ≤ ((r57.2.2.2.length : Nat) : Int)))) then
          bif ((roomy ((((r57.2.2.2.take r57.1.toNat) ++ [(n_impl_Reply r57.2.2.1)]).length) + ((r57.2.2.2.drop (0 + r57.1.toNat)).length)) 16) && true) then
            some (true, (V.agg [(V.int .i64 (gi r57.2.1 0)), (V.int .i64 (gi r57.2.1 1)), (V.inl t_impl_Timer (((r57.2.2.2.take r57.1.toNat) ++ [(n_impl_Reply r57.2.2.1)]) ++ (r57.2.2.2.drop (0 + r57.1.toNat))))]))
          else none
        else none
      else none
    else none
  else none
def spec_l15sync_l3 : Nat → Bool → Int → V → V → List V → Option (Bool × V × V × List V)
  | 0, _, _, _, _, _ => none
  | k_ + 1, any5, i6, b0, b1, r2 =>
    bif (decide (i6 < ((r2.length : Nat) : Int))) then
      bif (idxOk i6 r2.length) then
        Option.bind (spec_l2sess (n_impl_State b1) (gi (rd r2 (0 + i6.toNat)) 0)) fun r48 =>
        bif (decide (r48 < 0)) then
          bif (idxOk i6 r2.length) then
            Option.bind (spec_l7stop (V.agg [(V.int .i64 (gi b0 0)), (V.int .i64 (gi b0 1)), (V.inl t_impl_Timer r2)]) (gi (rd r2 (0 + i6.toNat)) 0)) fun r50 =>
            spec_l15sync_l3 k_ true (IntKind.i64.wrap ((IntKind.i64.wrap (i6 - 1)) + 1)) (V.agg [(V.int .i64 (gi r50.2 0)), (V.int .i64 (gi r50.2 1)), (V.sl 2 t_impl_Timer 0 none)]) (n_impl_State b1) (gl r50.2 2)
          else none
        else spec_l15sync_l3 k_ any5 (IntKind.i64.wrap (i6 + 1)) (V.agg [(V.int .i64 (gi b0 0)), (V.int .i64 (gi b0 1)), (V.sl 2 t_impl_Timer 0 none)]) (n_impl_State b1) r2
      else none
    else some (any5, (V.agg [(V.int .i64 (gi b0 0)), (V.int .i64 (gi b0 1)), (V.sl 2 t_impl_Timer 0 none)]), (n_impl_State b1), r2)
def spec_l15sync_l10 : Nat → Bool → Int → V → V → List V → Option (Bool × V × List V)
  | 0, _, _, _, _, _ => none
  | k_ + 1, any5, i7, b0, b1, r2 =>
    bif (decide (i7 < (((gl b1 4).length : Nat) : Int))) then
      bif (idxOk i7 ((gl b1 4).length)) then
        Option.bind (spec_l7find r2 (gi (rd (gl b1 4) i7.toNat) 0)) fun r52 =>
        bif (decide (r52 < 0)) then
          bif (idxOk i7 ((gl b1 4).length)) then
            Option.bind (spec_l7set (V.agg [(V.int .i64 (gi b0 0)), (V.int .i64 (gi b0 1)), (V.inl t_impl_Timer r2)]) (gi (rd (gl b1 4) i7.toNat) 0) (gi b0 0)) fun r58 =>
            spec_l15sync_l10 k_ true (IntKind.i64.wrap (i7 + 1)) (V.agg [(V.int .i64 (gi r58.2 0)), (V.int .i64 (gi r58.2 1)), (V.sl 2 t_impl_Timer 0 none)]) (n_impl_State b1) (gl r58.2 2)
          else none
        else spec_l15sync_l10 k_ any5 (IntKind.i64.wrap (i7 + 1)) (V.agg [(V.int .i64 (gi b0 0)), (V.int .i64 (gi b0 1)), (V.sl 2 t_impl_Timer 0 none)]) (n_impl_State b1) r2
      else none
    else some (any5, (V.agg [(V.int .i64 (gi b0 0)), (V.int .i64 (gi b0 1)), (V.sl 1 t_impl_Timer 0 none)]), r2)
def spec_l15sync (d : V) (s : V) : Option (Bool × V) :=
  Option.bind (spec_l15sync_l3 (((((gl d 2).length : Nat) : Int) - 0).toNat + 1) false 0 (V.agg [(V.int .i64 (gi d 0)), (V.int .i64 (gi d 1)), (V.sl 2 t_impl_Timer 0 none)]) (n_impl_State s) (gl d 2)) fun r51 =>
  Option.bind (spec_l15sync_l10 (((((gl (n_impl_State r51.2.2.1) 4).length : Nat) : Int) - 0).toNat + 1) r51.1 0 (V.agg [(V.int .i64 (gi r51.2.1 0)), (V.int .i64 (gi r51.2.1 1)), (V.sl 2 t_impl_Timer 0 none)]) (n_impl_State r51.2.2.1) r51.2.2.2) fun r59 =>
  some (r59.1, (V.agg [(V.int .i64 (gi r59.2.1 0)), (V.int .i64 (gi r59.2.1 1)), (V.inl t_impl_Timer r59.2.2)]))
def spec_DutySync (d : V) (s : V) : Option (V × Bool) :=
  Option.bind (spec_DutyOk (n_impl_Duty d)) fun r31 =>
  bif (!r31) then
    some ((V.agg [(V.int .i64 0), (V.int .i64 0), (V.inl t_impl_Timer [])]), false)
  else Option.bind (spec_StateOk (n_impl_State s)) fun r45 =>
  bif (!r45) then
    some ((V.agg [(V.int .i64 0), (V.int .i64 0), (V.inl t_impl_Timer [])]), false)
  else Option.bind (spec_l15own (n_impl_Duty d)) fun r47 =>
  Option.bind (spec_l15sync (n_impl_Duty r47) (n_impl_State s)) fun r60 =>
  some ((n_impl_Duty r60.2), r60.1)
def impl_within (n : Int) (low : Int) (high : Int) : Bool :=
  bif (decide (low ≤ n)) then
    (decide (n ≤ high))
  else false
def impl_isId (id : Int) : Bool :=
  (impl_within id 0 2147483647)
def impl_Wheel_timer_1 (t : V) (a1 : V) : Bool :=
  (decide ((gi t 0) = (gi a1 0)))
def slices_IndexFunc_Timer_l2 : Nat → List V → V → Int → Int → Option (Nat × Int)
  | 0, _, _, _, _ => none
  | k_ + 1, s0, f1_0, v7, v8 =>
    bif (decide (v8 < v7)) then
      bif (idxOk v8 s0.length) then
        bif impl_Wheel_timer_1 (n_impl_Reply (rd s0 v8.toNat)) (V.agg [(V.int .i64 (gi f1_0 0))]) then
          some (0, v8)
        else slices_IndexFunc_Timer_l2 k_ s0 (V.agg [(V.int .i64 (gi f1_0 0))]) v7 (IntKind.i64.wrap (v8 + 1))
      else none
    else some (1, 0)
def slices_IndexFunc_Timer (s : List V) (f_0 : V) : Option (Int) :=
  Option.bind (slices_IndexFunc_Timer_l2 ((((s.length : Nat) : Int) - 0).toNat + 1) s (V.agg [(V.int .i64 (gi f_0 0))]) ((s.length : Nat) : Int) 0) fun r64 =>
  bif (Nat.beq r64.1 0) then
    some r64.2
  else some (-1)
def impl_Wheel_timer (w : V) (id : Int) : Option (Int) :=
  Option.bind (slices_IndexFunc_Timer (gl w 1) (V.agg [(V.int .i64 id)])) fun r65 =>
  some r65
def cmp_isNaN_int (x : Int) : Bool :=
  (!(decide (x = x)))
def cmp_Compare_int (x : Int) (y : Int) : Int :=
  bif cmp_isNaN_int x then
    bif cmp_isNaN_int y then
      0
    else (-1)
  else bif cmp_isNaN_int y then
    1
  else bif (decide (x < y)) then
    (-1)
  else bif (decide (y < x)) then
    1
  else 0
def cmp_Or_int_l3 : Nat → Int → List V → Int → Int → Option (Nat × Int × Int)
  | 0, _, _, _, _ => none
  | k_ + 1, zero3, v6, v7, v8 =>
    bif (decide (v8 < v7)) then
      bif (idxOk v8 v6.length) then
        bif (!(decide ((gi (rd v6 v8.toNat) 0) = zero3))) then
          some (0, (gi (rd v6 v8.toNat) 0), zero3)
        else cmp_Or_int_l3 k_ zero3 v6 v7 (IntKind.i64.wrap (v8 + 1))
      else none
    else some (1, 0, zero3)
def cmp_Or_int (vals : List V) : Option (Int) :=
  Option.bind (cmp_Or_int_l3 ((((vals.length : Nat) : Int) - 0).toNat + 1) 0 vals ((vals.length : Nat) : Int) 0) fun r67 =>
  bif (Nat.beq r67.1 0) then
    some r67.2.1
  else some r67.2.2
def impl_compareTimers (a : V) (b : V) : Option (Int) :=
  Option.bind (cmp_Or_int [(V.int .i64 (cmp_Compare_int (gi a 1) (gi b 1))), (V.int .i64 (cmp_Compare_int (gi a 0) (gi b 0)))]) fun r68 =>
  some r68
def impl_WheelOk_l4 : Nat → List V → Int → Int → V → Option (Nat × Bool)
  | 0, _, _, _, _ => none
  | k_ + 1, v16, v17, v18, b0 =>
    bif (decide (v18 < v17)) then
      bif (idxOk v18 v16.length) then
        bif (!(impl_isId (gi (rd v16 v18.toNat) 0))) then
          some (0, false)
        else Option.bind (impl_Wheel_timer (n_impl_Wheel b0) (gi (rd v16 v18.toNat) 0)) fun r66 =>
        bif (!(decide (r66 = v18))) then
          some (0, false)
        else bif (!(impl_within (gi (rd v16 v18.toNat) 1) (IntKind.i64.wrap ((gi b0 0) + 1)) 2000000)) then
          some (0, false)
        else bif (decide ((0 : Int) < v18)) then
          bif (idxOk (IntKind.i64.wrap (v18 - 1)) ((gl b0 1).length)) then
            Option.bind (impl_compareTimers (n_impl_Reply (rd (gl b0 1) ((IntKind.i64.wrap (v18 - 1)).toNat))) (n_impl_Reply (rd v16 v18.toNat))) fun r69 =>
            bif (decide ((0 : Int) ≤ r69)) then
              some (0, false)
            else impl_WheelOk_l4 k_ v16 v17 (IntKind.i64.wrap (v18 + 1)) (n_impl_Wheel b0)
          else none
        else impl_WheelOk_l4 k_ v16 v17 (IntKind.i64.wrap (v18 + 1)) (n_impl_Wheel b0)
      else none
    else some (1, false)
def impl_WheelOk (w : V) : Option (Bool) :=
  bif (!(impl_within (gi w 0) 0 1000000)) then
    some false
  else bif (decide ((40 : Int) < (((gl w 1).length : Nat) : Int))) then
    some false
  else Option.bind (impl_WheelOk_l4 (((((gl w 1).length : Nat) : Int) - 0).toNat + 1) (gl w 1) (((gl w 1).length : Nat) : Int) 0 (n_impl_Wheel w)) fun r70 =>
  bif (Nat.beq r70.1 0) then
    some r70.2
  else some true
def impl_DutyOk_1 (t : V) (a1 : V) : Bool :=
  (decide ((gi a1 0) < (IntKind.i64.wrap ((gi t 1) - (gi a1 1)))))
def slices_IndexFunc_Timer_v1_l2 : Nat → List V → V → Int → Int → Option (Nat × Int)
  | 0, _, _, _, _ => none
  | k_ + 1, s0, f1_0, v7, v8 =>
    bif (decide (v8 < v7)) then
      bif (idxOk v8 s0.length) then
        bif impl_DutyOk_1 (n_impl_Reply (rd s0 v8.toNat)) (n_impl_Duty f1_0) then
          some (0, v8)
        else slices_IndexFunc_Timer_v1_l2 k_ s0 (n_impl_Duty f1_0) v7 (IntKind.i64.wrap (v8 + 1))
      else none
    else some (1, 0)
def slices_IndexFunc_Timer_v1 (s : List V) (f_0 : V) : Option (Int) :=
  Option.bind (slices_IndexFunc_Timer_v1_l2 ((((s.length : Nat) : Int) - 0).toNat + 1) s (n_impl_Duty f_0) ((s.length : Nat) : Int) 0) fun r72 =>
  bif (Nat.beq r72.1 0) then
    some r72.2
  else some (-1)
def slices_ContainsFunc_Timer (s : List V) (f_0 : V) : Option (Bool) :=
  Option.bind (slices_IndexFunc_Timer_v1 s (n_impl_Duty f_0)) fun r73 =>
  some (decide ((0 : Int) ≤ r73))
def impl_DutyOk (d : V) : Option (Bool) :=
  bif (!(impl_within (gi d 0) 1 1000)) then
    some false
  else Option.bind (impl_WheelOk (V.agg [(V.int .i64 (gi d 1)), (V.inl t_impl_Timer (gl d 2))])) fun r71 =>
  bif (!r71) then
    some false
  else bif (decide ((8 : Int) < (((gl d 2).length : Nat) : Int))) then
    some false
  else Option.bind (slices_ContainsFunc_Timer (gl d 2) (n_impl_Duty d)) fun r74 =>
  some (!r74)
def impl_KeyOk_l2 : Nat → List V → List V → Int → Int → Option (Nat × List V × Bool)
  | 0, _, _, _, _ => none
  | k_ + 1, b0, v5, v6, v7 =>
    bif (decide (v7 < v6)) then
      bif (idxOk v7 v5.length) then
        bif (decide ((gi (rd v5 v7.toNat) 0) < 97)) then
          bif (!(decide ((gi (rd v5 v7.toNat) 0) = 47))) then
            some (0, b0, false)
          else impl_KeyOk_l2 k_ b0 v5 v6 (IntKind.i64.wrap (v7 + 1))
        else bif (decide ((122 : Int) < (gi (rd v5 v7.toNat) 0))) then
          bif (!(decide ((gi (rd v5 v7.toNat) 0) = 47))) then
            some (0, b0, false)
          else impl_KeyOk_l2 k_ b0 v5 v6 (IntKind.i64.wrap (v7 + 1))
        else impl_KeyOk_l2 k_ b0 v5 v6 (IntKind.i64.wrap (v7 + 1))
      else none
    else some (1, b0, false)
def impl_KeyOk (b : List V) : Option (Bool) :=
  Option.bind (impl_KeyOk_l2 ((((b.length : Nat) : Int) - 0).toNat + 1) b b ((b.length : Nat) : Int) 0) fun r76 =>
  bif (Nat.beq r76.1 0) then
    some r76.2.2
  else some (impl_within ((r76.2.1.length : Nat) : Int) 1 20)
def impl_isValue (b : List V) : Bool :=
  (decide (((b.length : Nat) : Int) ≤ 20))
def impl_State_session_1 (x : V) (a1 : V) : Bool :=
  (decide ((gi x 0) = (gi a1 0)))
def slices_IndexFunc_Session_l2 : Nat → List V → V → Int → Int → Option (Nat × Int)
  | 0, _, _, _, _ => none
  | k_ + 1, s0, f1_0, v7, v8 =>
    bif (decide (v8 < v7)) then
      bif (idxOk v8 s0.length) then
        bif impl_State_session_1 (n_impl_Session (rd s0 v8.toNat)) (V.agg [(V.int .i64 (gi f1_0 0))]) then
          some (0, v8)
        else slices_IndexFunc_Session_l2 k_ s0 (V.agg [(V.int .i64 (gi f1_0 0))]) v7 (IntKind.i64.wrap (v8 + 1))
      else none
    else some (1, 0)
def slices_IndexFunc_Session (s : List V) (f_0 : V) : Option (Int) :=
  Option.bind (slices_IndexFunc_Session_l2 ((((s.length : Nat) : Int) - 0).toNat + 1) s (V.agg [(V.int .i64 (gi f_0 0))]) ((s.length : Nat) : Int) 0) fun r78 =>
  bif (Nat.beq r78.1 0) then
    some r78.2
  else some (-1)
def impl_State_session (s : V) (id : Int) : Option (Int) :=
  Option.bind (slices_IndexFunc_Session (gl s 4) (V.agg [(V.int .i64 id)])) fun r79 =>
  some r79
def impl_State_row_1 (r : V) (key : List V) : Int :=
  (cmpV (gl r 0) key)
def slices_BinarySearchFunc_byte_l3 : Nat → List V → List V → Int → Int → Int → Option (List V × List V × Int × Int)
  | 0, _, _, _, _, _ => none
  | k_ + 1, x0, target1, n8, i9, j10 =>
    bif (decide (i9 < j10)) then
      bif (idxOk (IntKind.i64.wrap (sShr .u64 (IntKind.u64.wrap (IntKind.i64.wrap (i9 + j10))) 1)) x0.length) then
        bif (decide ((impl_State_row_1 (n_laws_Row (rd x0 ((IntKind.i64.wrap (sShr .u64 (IntKind.u64.wrap (IntKind.i64.wrap (i9 + j10))) 1)).toNat))) target1) < 0)) then
          slices_BinarySearchFunc_byte_l3 k_ x0 target1 n8 (IntKind.i64.wrap ((IntKind.i64.wrap (sShr .u64 (IntKind.u64.wrap (IntKind.i64.wrap (i9 + j10))) 1)) + 1)) j10
        else slices_BinarySearchFunc_byte_l3 k_ x0 target1 n8 i9 (IntKind.i64.wrap (sShr .u64 (IntKind.u64.wrap (IntKind.i64.wrap (i9 + j10))) 1))
      else none
    else some (x0, target1, n8, i9)
def slices_BinarySearchFunc_byte (x : List V) (target : List V) : Option (Int × Bool) :=
  Option.bind (slices_BinarySearchFunc_byte_l3 ((((x.length : Nat) : Int) - 0).toNat + 1) x target ((x.length : Nat) : Int) 0 ((x.length : Nat) : Int)) fun r82 =>
  bif (decide (r82.2.2.2 < r82.2.2.1)) then
    bif (idxOk r82.2.2.2 r82.1.length) then
      some (r82.2.2.2, (decide ((impl_State_row_1 (n_laws_Row (rd r82.1 r82.2.2.2.toNat)) r82.2.1) = 0)))
    else none
  else some (r82.2.2.2, false)
def impl_State_row (s : V) (key : List V) : Option (Int × Bool) :=
  Option.bind (slices_BinarySearchFunc_byte (gl s 1) key) fun r83 =>
  some (r83.1, r83.2)
def bytes_Equal (a : List V) (b : List V) : Bool :=
  (eqList (a.map normB) (b.map normB))
def impl_State_tomb_1 (t : V) (a1 : V) : Bool :=
  (bytes_Equal (gl t 0) (gl a1 0))
def slices_IndexFunc_Tomb_l2 : Nat → List V → V → Int → Int → Option (Nat × Int)
  | 0, _, _, _, _ => none
  | k_ + 1, s0, f1_0, v7, v8 =>
    bif (decide (v8 < v7)) then
      bif (idxOk v8 s0.length) then
        bif impl_State_tomb_1 (n_laws_Tomb (rd s0 v8.toNat)) (V.agg [(V.inl t_byte (gl f1_0 0))]) then
          some (0, v8)
        else slices_IndexFunc_Tomb_l2 k_ s0 (V.agg [(V.inl t_byte (gl f1_0 0))]) v7 (IntKind.i64.wrap (v8 + 1))
      else none
    else some (1, 0)
def slices_IndexFunc_Tomb (s : List V) (f_0 : V) : Option (Int) :=
  Option.bind (slices_IndexFunc_Tomb_l2 ((((s.length : Nat) : Int) - 0).toNat + 1) s (V.agg [(V.inl t_byte (gl f_0 0))]) ((s.length : Nat) : Int) 0) fun r86 =>
  bif (Nat.beq r86.1 0) then
    some r86.2
  else some (-1)
def impl_State_tomb (s : V) (key : List V) : Option (Int) :=
  Option.bind (slices_IndexFunc_Tomb (gl s 2) (V.agg [(V.inl t_byte key)])) fun r87 =>
  some r87
def impl_StateOk_l4 : Nat → List V → Int → Int → V → Option (Nat × Bool × V)
  | 0, _, _, _, _ => none
  | k_ + 1, v51, v52, v53, b0 =>
    bif (decide (v53 < v52)) then
      bif (idxOk v53 v51.length) then
        Option.bind (impl_KeyOk (gl (rd v51 v53.toNat) 0)) fun r77 =>
        bif (!r77) then
          some (0, false, (n_impl_State b0))
        else bif (!(impl_isValue (gl (rd v51 v53.toNat) 1))) then
          some (0, false, (n_impl_State b0))
        else bif (!(impl_within (gi (rd v51 v53.toNat) 2) 1 (gi b0 0))) then
          some (0, false, (n_impl_State b0))
        else bif (!(decide ((gi (rd v51 v53.toNat) 3) = 0))) then
          Option.bind (impl_State_session (n_impl_State b0) (gi (rd v51 v53.toNat) 3)) fun r80 =>
          bif (decide (r80 < 0)) then
            some (0, false, (n_impl_State b0))
          else bif (decide ((0 : Int) < v53)) then
            bif (idxOk (IntKind.i64.wrap (v53 - 1)) ((gl b0 1).length)) then
              bif (decide ((0 : Int) ≤ (cmpV (gl (rd (gl b0 1) ((IntKind.i64.wrap (v53 - 1)).toNat)) 0) (gl (rd v51 v53.toNat) 0)))) then
                some (0, false, (n_impl_State b0))
              else impl_StateOk_l4 k_ v51 v52 (IntKind.i64.wrap (v53 + 1)) (n_impl_State b0)
            else none
          else impl_StateOk_l4 k_ v51 v52 (IntKind.i64.wrap (v53 + 1)) (n_impl_State b0)
        else bif (decide ((0 : Int) < v53)) then
          bif (idxOk (IntKind.i64.wrap (v53 - 1)) ((gl b0 1).length)) then
            bif (decide ((0 : Int) ≤ (cmpV (gl (rd (gl b0 1) ((IntKind.i64.wrap (v53 - 1)).toNat)) 0) (gl (rd v51 v53.toNat) 0)))) then
              some (0, false, (n_impl_State b0))
            else impl_StateOk_l4 k_ v51 v52 (IntKind.i64.wrap (v53 + 1)) (n_impl_State b0)
          else none
        else impl_StateOk_l4 k_ v51 v52 (IntKind.i64.wrap (v53 + 1)) (n_impl_State b0)
      else none
    else some (1, false, (n_impl_State b0))
def impl_StateOk_l11 : Nat → Int → List V → Int → Int → V → Option (Nat × Bool × V)
  | 0, _, _, _, _, _ => none
  | k_ + 1, before5, v110, v111, v112, b0 =>
    bif (decide (v112 < v111)) then
      bif (idxOk v112 v110.length) then
        Option.bind (impl_State_row (n_impl_State b0) (gl (rd v110 v112.toNat) 0)) fun r84 =>
        bif r84.2 then
          some (0, false, (n_impl_State b0))
        else Option.bind (impl_KeyOk (gl (rd v110 v112.toNat) 0)) fun r85 =>
        bif (!r85) then
          some (0, false, (n_impl_State b0))
        else Option.bind (impl_State_tomb (n_impl_State b0) (gl (rd v110 v112.toNat) 0)) fun r88 =>
        bif (!(decide (r88 = v112))) then
          some (0, false, (n_impl_State b0))
        else bif (!(impl_within (gi (rd v110 v112.toNat) 1) before5 (gi b0 0))) then
          some (0, false, (n_impl_State b0))
        else impl_StateOk_l11 k_ (gi (rd v110 v112.toNat) 1) v110 v111 (IntKind.i64.wrap (v112 + 1)) (n_impl_State b0)
      else none
    else some (1, false, (n_impl_State b0))
def impl_StateOk_l19 : Nat → List V → Int → Int → V → Option (Nat × Bool × V)
  | 0, _, _, _, _ => none
  | k_ + 1, v152, v153, v154, b0 =>
    bif (decide (v154 < v153)) then
      bif (idxOk v154 v152.length) then
        bif (!(impl_within (gi (rd v152 v154.toNat) 0) 1 (gi b0 0))) then
          some (0, false, (n_impl_State b0))
        else bif (decide ((0 : Int) < v154)) then
          bif (idxOk (IntKind.i64.wrap (v154 - 1)) ((gl b0 4).length)) then
            bif (decide ((gi (rd v152 v154.toNat) 0) ≤ (gi (rd (gl b0 4) ((IntKind.i64.wrap (v154 - 1)).toNat)) 0))) then
              some (0, false, (n_impl_State b0))
            else impl_StateOk_l19 k_ v152 v153 (IntKind.i64.wrap (v154 + 1)) (n_impl_State b0)
          else none
        else impl_StateOk_l19 k_ v152 v153 (IntKind.i64.wrap (v154 + 1)) (n_impl_State b0)
      else none
    else some (1, false, (n_impl_State b0))
def impl_StateOk_l25 : Nat → List V → Int → Int → V → Option (Nat × Bool)
  | 0, _, _, _, _ => none
  | k_ + 1, v183, v184, v185, b0 =>
    bif (decide (v185 < v184)) then
      bif (idxOk v185 v183.length) then
        bif (!(impl_within (gi (rd v183 v185.toNat) 0) 0 3)) then
          some (0, false)
        else bif (!(impl_within (gi (rd v183 v185.toNat) 1) 1 1000000)) then
          some (0, false)
        else bif (!(impl_within (gi (rd v183 v185.toNat) 2) 0 5)) then
          some (0, false)
        else bif (!(impl_within (gi (rd v183 v185.toNat) 3) 1 (gi b0 0))) then
          some (0, false)
        else bif (decide ((0 : Int) < v185)) then
          bif (idxOk (IntKind.i64.wrap (v185 - 1)) ((gl b0 5).length)) then
            bif (decide ((gi (rd v183 v185.toNat) 0) ≤ (gi (rd (gl b0 5) ((IntKind.i64.wrap (v185 - 1)).toNat)) 0))) then
              some (0, false)
            else impl_StateOk_l25 k_ v183 v184 (IntKind.i64.wrap (v185 + 1)) (n_impl_State b0)
          else none
        else impl_StateOk_l25 k_ v183 v184 (IntKind.i64.wrap (v185 + 1)) (n_impl_State b0)
      else none
    else some (1, false)
def impl_StateOk (s : V) : Option (Bool) :=
  bif (!(impl_within (gi s 0) 0 1000000)) then
    some false
  else bif (!(impl_within (gi s 3) 0 (gi s 0))) then
    some false
  else bif (decide ((20 : Int) < (((gl s 1).length : Nat) : Int))) then
    some false
  else bif (decide ((10 : Int) < (((gl s 2).length : Nat) : Int))) then
    some false
  else bif (decide ((8 : Int) < (((gl s 4).length : Nat) : Int))) then
    some false
  else bif (decide ((4 : Int) < (((gl s 5).length : Nat) : Int))) then
    some false
  else Option.bind (impl_StateOk_l4 (((((gl s 1).length : Nat) : Int) - 0).toNat + 1) (gl s 1) (((gl s 1).length : Nat) : Int) 0 (n_impl_State s)) fun r81 =>
  bif (Nat.beq r81.1 0) then
    some r81.2.1
  else Option.bind (impl_StateOk_l11 (((((gl r81.2.2 2).length : Nat) : Int) - 0).toNat + 1) (mxI 1 (gi r81.2.2 3)) (gl r81.2.2 2) (((gl r81.2.2 2).length : Nat) : Int) 0 (n_impl_State r81.2.2)) fun r89 =>
  bif (Nat.beq r89.1 0) then
    some r89.2.1
  else Option.bind (impl_StateOk_l19 (((((gl r89.2.2 4).length : Nat) : Int) - 0).toNat + 1) (gl r89.2.2 4) (((gl r89.2.2 4).length : Nat) : Int) 0 (n_impl_State r89.2.2)) fun r90 =>
  bif (Nat.beq r90.1 0) then
    some r90.2.1
  else Option.bind (impl_StateOk_l25 (((((gl r90.2.2 5).length : Nat) : Int) - 0).toNat + 1) (gl r90.2.2 5) (((gl r90.2.2 5).length : Nat) : Int) 0 (n_impl_State r90.2.2)) fun r91 =>
  bif (Nat.beq r91.1 0) then
    some r91.2
  else some true
def slices_Clone_Timer (s : List V) : Option (List V) :=
  bif ((roomy (0 + s.length) 16) && true) then
    some s
  else none
def impl_Wheel_own (w : V) : Option (V) :=
  Option.bind (slices_Clone_Timer (gl w 1)) fun r93 =>
  some (V.agg [(V.int .i64 (gi w 0)), (V.inl t_impl_Timer r93)])
def impl_Duty_own (d : V) : Option (V) :=
  Option.bind (impl_Wheel_own (V.agg [(V.int .i64 (gi d 1)), (V.inl t_impl_Timer (gl d 2))])) fun r94 =>
  some (V.agg [(V.int .i64 (gi d 0)), (V.int .i64 (gi r94 0)), (V.inl t_impl_Timer (gl r94 1))])
def impl_Duty_sync_1 (t : V) (a1 : V) : Option (Bool) :=
  Option.bind (impl_State_session (n_impl_State a1) (gi t 0)) fun r96 =>
  some (decide (r96 < 0))
def slices_IndexFunc_Timer_v2_l2 : Nat → List V → V → Int → Int → Option (Nat × Int)
  | 0, _, _, _, _ => none
  | k_ + 1, s0, f1_0, v7, v8 =>
    bif (decide (v8 < v7)) then
      bif (idxOk v8 s0.length) then
        Option.bind (impl_Duty_sync_1 (n_impl_Reply (rd s0 v8.toNat)) (n_impl_State f1_0)) fun r97 =>
        bif r97 then
          some (0, v8)
        else slices_IndexFunc_Timer_v2_l2 k_ s0 (n_impl_State f1_0) v7 (IntKind.i64.wrap (v8 + 1))
      else none
    else some (1, 0)
def slices_IndexFunc_Timer_v2 (s : List V) (f_0 : V) : Option (Int) :=
  Option.bind (slices_IndexFunc_Timer_v2_l2 ((((s.length : Nat) : Int) - 0).toNat + 1) s (n_impl_State f_0) ((s.length : Nat) : Int) 0) fun r98 =>
  bif (Nat.beq r98.1 0) then
    some r98.2
  else some (-1)
def slices_DeleteFunc_Timer_l5 : Nat → V → Int → Int → List V → Option (Int × List V)
  | 0, _, _, _, _ => none
  | k_ + 1, del1_0, i5, j6, r0 =>
    bif (decide (j6 < ((r0.length : Nat) : Int))) then
      bif (idxOk j6 r0.length) then
        Option.bind (impl_Duty_sync_1 (n_impl_Reply (rd r0 (0 + j6.toNat))) (n_impl_State del1_0)) fun r100 =>
        bif (!r100) then
          bif (idxOk i5 r0.length) then
            slices_DeleteFunc_Timer_l5 k_ (n_impl_State del1_0) (IntKind.i64.wrap (i5 + 1)) (IntKind.i64.wrap (j6 + 1)) (r0.set (0 + i5.toNat) (n_impl_Reply (rd r0 (0 + j6.toNat))))
          else none
        else slices_DeleteFunc_Timer_l5 k_ (n_impl_State del1_0) i5 (IntKind.i64.wrap (j6 + 1)) r0
      else none
    else some (i5, r0)
def slices_DeleteFunc_Timer (s : List V) (del_0 : V) : Option (List V) :=
  Option.bind (slices_IndexFunc_Timer_v2 s (n_impl_State del_0)) fun r99 =>
  bif (decide (r99 = (-1))) then
    some s
  else Option.bind (slices_DeleteFunc_Timer_l5 ((((s.length : Nat) : Int) - (IntKind.i64.wrap (r99 + 1))).toNat + 1) (n_impl_State del_0) r99 (IntKind.i64.wrap (r99 + 1)) s) fun r101 =>
  bif ((decide ((0 : Int) ≤ r101.1)) && (decide (r101.1 ≤ ((r101.2.length : Nat) : Int)))) then
    bif ((decide ((0 : Int) ≤ r101.1)) && (decide (r101.1 ≤ (((((r101.2.take (0 + r101.1.toNat)) ++ (List.replicate ((r101.2.drop (0 + r101.1.toNat)).length) (V.agg [(V.int .i64 0), (V.int .i64 0)]))) ++ (r101.2.drop ((0 + r101.1.toNat) + ((r101.2.drop (0 + r101.1.toNat)).length)))).length : Nat) : Int)))) then
      some ((((r101.2.take (0 + r101.1.toNat)) ++ (List.replicate ((r101.2.drop (0 + r101.1.toNat)).length) (V.agg [(V.int .i64 0), (V.int .i64 0)]))) ++ (r101.2.drop ((0 + r101.1.toNat) + ((r101.2.drop (0 + r101.1.toNat)).length)))).take r101.1.toNat)
    else none
  else none
def impl_Wheel_stop (w : V) (id : Int) : Option (Bool × V) :=
  Option.bind (impl_Wheel_timer (V.agg [(V.int .i64 (gi w 1)), (V.inl t_impl_Timer (gl w 2))]) id) fun r104 =>
  bif (decide ((0 : Int) ≤ r104)) then
    Option.bind (delV (gl w 2) r104 (IntKind.i64.wrap (r104 + 1))) fun r105 =>
    some ((decide ((0 : Int) ≤ r104)), (V.agg [(V.int .i64 (gi w 0)), (V.int .i64 (gi w 1)), (V.inl t_impl_Timer r105)]))
  else some ((decide ((0 : Int) ≤ r104)), (n_impl_Duty w))
def impl_Wheel_set (w : V) (id : Int) (after : Int) : Option (V) :=
  Option.bind (impl_Wheel_stop (n_impl_Duty w) id) fun r106 =>
  bif ((roomy (((gl r106.2 2).length) + 1) 16) && true) then
    Option.bind (srtO cfT ((gl r106.2 2) ++ [(V.agg [(V.int .i64 id), (V.int .i64 (IntKind.i64.wrap ((gi r106.2 1) + after)))])])) fun r107 =>
    some (V.agg [(V.int .i64 (gi r106.2 0)), (V.int .i64 (gi r106.2 1)), (V.inl t_impl_Timer r107)])
  else none
def impl_Duty_sync_l5 : Nat → Bool → List V → Int → Int → V → List V → Option (Bool × V × List V)
  | 0, _, _, _, _, _, _ => none
  | k_ + 1, changed6, v35, v36, v37, b0, r1 =>
    bif (decide (v37 < v36)) then
      bif (idxOk v37 v35.length) then
        Option.bind (impl_Wheel_timer (V.agg [(V.int .i64 (gi b0 1)), (V.inl t_impl_Timer r1)]) (gi (rd v35 v37.toNat) 0)) fun r103 =>
        bif (decide (r103 < 0)) then
          Option.bind (impl_Wheel_set (V.agg [(V.int .i64 (gi b0 0)), (V.int .i64 (gi b0 1)), (V.inl t_impl_Timer r1)]) (gi (rd v35 v37.toNat) 0) (gi b0 0)) fun r108 =>
          impl_Duty_sync_l5 k_ true v35 v36 (IntKind.i64.wrap (v37 + 1)) (V.agg [(V.int .i64 (gi r108 0)), (V.int .i64 (gi r108 1)), (V.sl 1 t_impl_Timer 0 none)]) (gl r108 2)
        else impl_Duty_sync_l5 k_ changed6 v35 v36 (IntKind.i64.wrap (v37 + 1)) (V.agg [(V.int .i64 (gi b0 0)), (V.int .i64 (gi b0 1)), (V.sl 1 t_impl_Timer 0 none)]) r1
      else none
    else some (changed6, (V.agg [(V.int .i64 (gi b0 0)), (V.int .i64 (gi b0 1)), (V.sl 1 t_impl_Timer 0 none)]), r1)
def impl_Duty_sync (d : V) (s : V) : Option (Bool × V) :=
  Option.bind (slices_DeleteFunc_Timer (gl d 2) (n_impl_State s)) fun r102 =>
  Option.bind (impl_Duty_sync_l5 (((((gl s 4).length : Nat) : Int) - 0).toNat + 1) (!(decide (((r102.length : Nat) : Int) = (((gl d 2).length : Nat) : Int)))) (gl s 4) (((gl s 4).length : Nat) : Int) 0 (V.agg [(V.int .i64 (gi d 0)), (V.int .i64 (gi d 1)), (V.sl 1 t_impl_Timer 0 none)]) r102) fun r109 =>
  some (r109.1, (V.agg [(V.int .i64 (gi r109.2.1 0)), (V.int .i64 (gi r109.2.1 1)), (V.inl t_impl_Timer r109.2.2)]))
def impl_DutySync (d : V) (s : V) : Option (V × Bool) :=
  Option.bind (impl_DutyOk (n_impl_Duty d)) fun r75 =>
  bif (!r75) then
    some ((V.agg [(V.int .i64 0), (V.int .i64 0), (V.inl t_impl_Timer [])]), false)
  else Option.bind (impl_StateOk (n_impl_State s)) fun r92 =>
  bif (!r92) then
    some ((V.agg [(V.int .i64 0), (V.int .i64 0), (V.inl t_impl_Timer [])]), false)
  else Option.bind (impl_Duty_own (n_impl_Duty d)) fun r95 =>
  Option.bind (impl_Duty_sync (n_impl_Duty r95) (n_impl_State s)) fun r110 =>
  some ((n_impl_Duty r110.2), r110.1)
def laws_eqTimer (a : V) (b : V) : Bool :=
  bif (!(decide ((gi a 0) = (gi b 0)))) then
    false
  else bif (!(decide ((gi a 1) = (gi b 1)))) then
    false
  else true
def laws_eqTimerS_l4 : Nat → List V → List V → Int → Option (Nat × Bool)
  | 0, _, _, _ => none
  | k_ + 1, a0, b1, i5 =>
    bif (decide (i5 < ((a0.length : Nat) : Int))) then
      bif (idxOk i5 a0.length) then
        bif (idxOk i5 b1.length) then
          bif (!(laws_eqTimer (n_impl_Reply (rd a0 i5.toNat)) (n_impl_Reply (rd b1 i5.toNat)))) then
            some (0, false)
          else laws_eqTimerS_l4 k_ a0 b1 (IntKind.i64.wrap (i5 + 1))
        else none
      else none
    else some (1, false)
def laws_eqTimerS (a : List V) (b : List V) : Option (Bool) :=
  bif (!(decide (((a.length : Nat) : Int) = ((b.length : Nat) : Int)))) then
    some false
  else Option.bind (laws_eqTimerS_l4 ((((a.length : Nat) : Int) - 0).toNat + 1) a b 0) fun r112 =>
  bif (Nat.beq r112.1 0) then
    some r112.2
  else some true
def laws_eqWheel (a : V) (b : V) : Option (Bool) :=
  bif (!(decide ((gi a 0) = (gi b 0)))) then
    some false
  else Option.bind (laws_eqTimerS (gl a 1) (gl b 1)) fun r113 =>
  bif (!r113) then
    some false
  else some true
def laws_eqDuty (a : V) (b : V) : Option (Bool) :=
  bif (!(decide ((gi a 0) = (gi b 0)))) then
    some false
  else Option.bind (laws_eqWheel (V.agg [(V.int .i64 (gi a 1)), (V.inl t_impl_Timer (gl a 2))]) (V.agg [(V.int .i64 (gi b 1)), (V.inl t_impl_Timer (gl b 2))])) fun r114 =>
  bif (!r114) then
    some false
  else some true
def laws_eqByteS_l4 : Nat → List V → List V → Int → Option (Nat × Bool)
  | 0, _, _, _ => none
  | k_ + 1, a0, b1, i5 =>
    bif (decide (i5 < ((a0.length : Nat) : Int))) then
      bif (idxOk i5 a0.length) then
        bif (idxOk i5 b1.length) then
          bif (!(decide ((gi (rd a0 i5.toNat) 0) = (gi (rd b1 i5.toNat) 0)))) then
            some (0, false)
          else laws_eqByteS_l4 k_ a0 b1 (IntKind.i64.wrap (i5 + 1))
        else none
      else none
    else some (1, false)
def laws_eqByteS (a : List V) (b : List V) : Option (Bool) :=
  bif (!(decide (((a.length : Nat) : Int) = ((b.length : Nat) : Int)))) then
    some false
  else Option.bind (laws_eqByteS_l4 ((((a.length : Nat) : Int) - 0).toNat + 1) a b 0) fun r119 =>
  bif (Nat.beq r119.1 0) then
    some r119.2
  else some true
def laws_eqRow (a : V) (b : V) : Option (Bool) :=
  Option.bind (laws_eqByteS (gl a 0) (gl b 0)) fun r120 =>
  bif (!r120) then
    some false
  else Option.bind (laws_eqByteS (gl a 1) (gl b 1)) fun r121 =>
  bif (!r121) then
    some false
  else bif (!(decide ((gi a 2) = (gi b 2)))) then
    some false
  else bif (!(decide ((gi a 3) = (gi b 3)))) then
    some false
  else some true
def laws_eqRowS_l4 : Nat → List V → List V → Int → Option (Nat × Bool)
  | 0, _, _, _ => none
  | k_ + 1, a0, b1, i5 =>
    bif (decide (i5 < ((a0.length : Nat) : Int))) then
      bif (idxOk i5 a0.length) then
        bif (idxOk i5 b1.length) then
          Option.bind (laws_eqRow (n_laws_Row (rd a0 i5.toNat)) (n_laws_Row (rd b1 i5.toNat))) fun r122 =>
          bif (!r122) then
            some (0, false)
          else laws_eqRowS_l4 k_ a0 b1 (IntKind.i64.wrap (i5 + 1))
        else none
      else none
    else some (1, false)
def laws_eqRowS (a : List V) (b : List V) : Option (Bool) :=
  bif (!(decide (((a.length : Nat) : Int) = ((b.length : Nat) : Int)))) then
    some false
  else Option.bind (laws_eqRowS_l4 ((((a.length : Nat) : Int) - 0).toNat + 1) a b 0) fun r123 =>
  bif (Nat.beq r123.1 0) then
    some r123.2
  else some true
def laws_eqTomb (a : V) (b : V) : Option (Bool) :=
  Option.bind (laws_eqByteS (gl a 0) (gl b 0)) fun r125 =>
  bif (!r125) then
    some false
  else bif (!(decide ((gi a 1) = (gi b 1)))) then
    some false
  else some true
def laws_eqTombS_l4 : Nat → List V → List V → Int → Option (Nat × Bool)
  | 0, _, _, _ => none
  | k_ + 1, a0, b1, i5 =>
    bif (decide (i5 < ((a0.length : Nat) : Int))) then
      bif (idxOk i5 a0.length) then
        bif (idxOk i5 b1.length) then
          Option.bind (laws_eqTomb (n_laws_Tomb (rd a0 i5.toNat)) (n_laws_Tomb (rd b1 i5.toNat))) fun r126 =>
          bif (!r126) then
            some (0, false)
          else laws_eqTombS_l4 k_ a0 b1 (IntKind.i64.wrap (i5 + 1))
        else none
      else none
    else some (1, false)
def laws_eqTombS (a : List V) (b : List V) : Option (Bool) :=
  bif (!(decide (((a.length : Nat) : Int) = ((b.length : Nat) : Int)))) then
    some false
  else Option.bind (laws_eqTombS_l4 ((((a.length : Nat) : Int) - 0).toNat + 1) a b 0) fun r127 =>
  bif (Nat.beq r127.1 0) then
    some r127.2
  else some true
def laws_eqSession (a : V) (b : V) : Bool :=
  bif (!(decide ((gi a 0) = (gi b 0)))) then
    false
  else bif (!((gb a 1) == (gb b 1))) then
    false
  else true
def laws_eqSessionS_l4 : Nat → List V → List V → Int → Option (Nat × Bool)
  | 0, _, _, _ => none
  | k_ + 1, a0, b1, i5 =>
    bif (decide (i5 < ((a0.length : Nat) : Int))) then
      bif (idxOk i5 a0.length) then
        bif (idxOk i5 b1.length) then
          bif (!(laws_eqSession (n_impl_Session (rd a0 i5.toNat)) (n_impl_Session (rd b1 i5.toNat)))) then
            some (0, false)
          else laws_eqSessionS_l4 k_ a0 b1 (IntKind.i64.wrap (i5 + 1))
        else none
      else none
    else some (1, false)
def laws_eqSessionS (a : List V) (b : List V) : Option (Bool) :=
  bif (!(decide (((a.length : Nat) : Int) = ((b.length : Nat) : Int)))) then
    some false
  else Option.bind (laws_eqSessionS_l4 ((((a.length : Nat) : Int) - 0).toNat + 1) a b 0) fun r129 =>
  bif (Nat.beq r129.1 0) then
    some r129.2
  else some true
def laws_eqReply (a : V) (b : V) : Bool :=
  bif (!(decide ((gi a 0) = (gi b 0)))) then
    false
  else bif (!(decide ((gi a 1) = (gi b 1)))) then
    false
  else true
def laws_eqLast (a : V) (b : V) : Bool :=
  bif (!(decide ((gi a 0) = (gi b 0)))) then
    false
  else bif (!(decide ((gi a 1) = (gi b 1)))) then
    false
  else bif (!(laws_eqReply (V.agg [(V.int .i64 (gi a 2)), (V.int .i64 (gi a 3))]) (V.agg [(V.int .i64 (gi b 2)), (V.int .i64 (gi b 3))]))) then
    false
  else true
def laws_eqLastS_l4 : Nat → List V → List V → Int → Option (Nat × Bool)
  | 0, _, _, _ => none
  | k_ + 1, a0, b1, i5 =>
    bif (decide (i5 < ((a0.length : Nat) : Int))) then
      bif (idxOk i5 a0.length) then
        bif (idxOk i5 b1.length) then
          bif (!(laws_eqLast (n_impl_Last (rd a0 i5.toNat)) (n_impl_Last (rd b1 i5.toNat)))) then
            some (0, false)
          else laws_eqLastS_l4 k_ a0 b1 (IntKind.i64.wrap (i5 + 1))
        else none
      else none
    else some (1, false)
def laws_eqLastS (a : List V) (b : List V) : Option (Bool) :=
  bif (!(decide (((a.length : Nat) : Int) = ((b.length : Nat) : Int)))) then
    some false
  else Option.bind (laws_eqLastS_l4 ((((a.length : Nat) : Int) - 0).toNat + 1) a b 0) fun r131 =>
  bif (Nat.beq r131.1 0) then
    some r131.2
  else some true
def laws_eqState (a : V) (b : V) : Option (Bool) :=
  bif (!(decide ((gi a 0) = (gi b 0)))) then
    some false
  else Option.bind (laws_eqRowS (gl a 1) (gl b 1)) fun r124 =>
  bif (!r124) then
    some false
  else Option.bind (laws_eqTombS (gl a 2) (gl b 2)) fun r128 =>
  bif (!r128) then
    some false
  else bif (!(decide ((gi a 3) = (gi b 3)))) then
    some false
  else Option.bind (laws_eqSessionS (gl a 4) (gl b 4)) fun r130 =>
  bif (!r130) then
    some false
  else Option.bind (laws_eqLastS (gl a 5) (gl b 5)) fun r132 =>
  bif (!r132) then
    some false
  else some true
def laws_markTimerS_l2 : Nat → Int → Int → List V → Option (Int × List V)
  | 0, _, _, _ => none
  | k_ + 1, k1, i5, r0 =>
    bif (decide (i5 < ((r0.length : Nat) : Int))) then
      bif (idxOk i5 r0.length) then
        bif (idxOk i5 ((r0.set (0 + i5.toNat) (V.agg [(V.int .i64 k1), (V.int .i64 (gi (rd r0 (0 + i5.toNat)) 1))])).length)) then
          rlet (((r0.set (0 + i5.toNat) (V.agg [(V.int .i64 k1), (V.int .i64 (gi (rd r0 (0 + i5.toNat)) 1))])).set (0 + i5.toNat) (V.agg [(V.int .i64 (gi (rd (r0.set (0 + i5.toNat) (V.agg [(V.int .i64 k1), (V.int .i64 (gi (rd r0 (0 + i5.toNat)) 1))])) (0 + i5.toNat)) 0)), (V.int .i64 (IntKind.i64.wrap (k1 + 1)))]))) fun u134 =>
          laws_markTimerS_l2 k_ (IntKind.i64.wrap ((IntKind.i64.wrap (k1 + 1)) + 1)) (IntKind.i64.wrap (i5 + 1)) u134
        else none
      else none
    else some (k1, r0)
def laws_markTimerS (a : List V) (k : Int) : Option (Int × List V) :=
  Option.bind (laws_markTimerS_l2 ((((a.length : Nat) : Int) - 0).toNat + 1) k 0 a) fun r135 =>
  some (r135.1, r135.2)
def laws_markWheel (a : V) (k : Int) : Option (Int × List V) :=
  Option.bind (laws_markTimerS (gl a 1) k) fun r136 =>
  some (r136.1, r136.2)
def laws_markDuty (a : V) (k : Int) : Option (Int × List V) :=
  Option.bind (laws_markWheel (V.agg [(V.int .i64 (gi a 1)), (V.inl t_impl_Timer (gl a 2))]) k) fun r137 =>
  some (r137.1, r137.2)
def laws_markByteS_l2 : Nat → Int → Int → List V → Option (Int × List V)
  | 0, _, _, _ => none
  | k_ + 1, k1, i5, r0 =>
    bif (decide (i5 < ((r0.length : Nat) : Int))) then
      bif (idxOk i5 r0.length) then
        laws_markByteS_l2 k_ (IntKind.i64.wrap (k1 + 1)) (IntKind.i64.wrap (i5 + 1)) (r0.set (0 + i5.toNat) (V.int .u8 (IntKind.u8.wrap k1)))
      else none
    else some (k1, r0)
def laws_markByteS (a : List V) (k : Int) : Option (Int × List V) :=
  Option.bind (laws_markByteS_l2 ((((a.length : Nat) : Int) - 0).toNat + 1) k 0 a) fun r139 =>
  some (r139.1, r139.2)
def laws_markRowS_l2 : Nat → Int → Int → List V → Option (Int × List V)
  | 0, _, _, _ => none
  | k_ + 1, k1, i5, r0 =>
    bif (decide (i5 < ((r0.length : Nat) : Int))) then
      bif (idxOk i5 r0.length) then
        Option.bind (laws_markByteS (gl (rd r0 (0 + i5.toNat)) 0) k1) fun r140 =>
        bif (idxOk i5 r0.length) then
          Option.bind (laws_markByteS (gl (rd (r0.set (0 + i5.toNat) (V.agg [(V.inl t_byte r140.2), (V.inl t_byte (gl (rd r0 (0 + i5.toNat)) 1)), (V.int .i64 (gi (rd r0 (0 + i5.toNat)) 2)), (V.int .i64 (gi (rd r0 (0 + i5.toNat)) 3))])) (0 + i5.toNat)) 1) r140.1) fun r141 =>
          bif (idxOk i5 ((r0.set (0 + i5.toNat) (V.agg [(V.inl t_byte r140.2), (V.inl t_byte (gl (rd r0 (0 + i5.toNat)) 1)), (V.int .i64 (gi (rd r0 (0 + i5.toNat)) 2)), (V.int .i64 (gi (rd r0 (0 + i5.toNat)) 3))])).length)) then
            rlet (((r0.set (0 + i5.toNat) (V.agg [(V.inl t_byte r140.2), (V.inl t_byte (gl (rd r0 (0 + i5.toNat)) 1)), (V.int .i64 (gi (rd r0 (0 + i5.toNat)) 2)), (V.int .i64 (gi (rd r0 (0 + i5.toNat)) 3))])).set (0 + i5.toNat) (V.agg [(V.inl t_byte (gl (rd (r0.set (0 + i5.toNat) (V.agg [(V.inl t_byte r140.2), (V.inl t_byte (gl (rd r0 (0 + i5.toNat)) 1)), (V.int .i64 (gi (rd r0 (0 + i5.toNat)) 2)), (V.int .i64 (gi (rd r0 (0 + i5.toNat)) 3))])) (0 + i5.toNat)) 0)), (V.inl t_byte r141.2), (V.int .i64 (gi (rd (r0.set (0 + i5.toNat) (V.agg [(V.inl t_byte r140.2), (V.inl t_byte (gl (rd r0 (0 + i5.toNat)) 1)), (V.int .i64 (gi (rd r0 (0 + i5.toNat)) 2)), (V.int .i64 (gi (rd r0 (0 + i5.toNat)) 3))])) (0 + i5.toNat)) 2)), (V.int .i64 (gi (rd (r0.set (0 + i5.toNat) (V.agg [(V.inl t_byte r140.2), (V.inl t_byte (gl (rd r0 (0 + i5.toNat)) 1)), (V.int .i64 (gi (rd r0 (0 + i5.toNat)) 2)), (V.int .i64 (gi (rd r0 (0 + i5.toNat)) 3))])) (0 + i5.toNat)) 3))]))) fun u142 =>
            bif (idxOk i5 ((u142.set (0 + i5.toNat) (V.agg [(V.inl t_byte (gl (rd u142 (0 + i5.toNat)) 0)), (V.inl t_byte (gl (rd u142 (0 + i5.toNat)) 1)), (V.int .i64 r141.1), (V.int .i64 (gi (rd u142 (0 + i5.toNat)) 3))])).length)) then
              rlet (((u142.set (0 + i5.toNat) (V.agg [(V.inl t_byte (gl (rd u142 (0 + i5.toNat)) 0)), (V.inl t_byte (gl (rd u142 (0 + i5.toNat)) 1)), (V.int .i64 r141.1), (V.int .i64 (gi (rd u142 (0 + i5.toNat)) 3))])).set (0 + i5.toNat) (V.agg [(V.inl t_byte (gl (rd (u142.set (0 + i5.toNat) (V.agg [(V.inl t_byte (gl (rd u142 (0 + i5.toNat)) 0)), (V.inl t_byte (gl (rd u142 (0 + i5.toNat)) 1)), (V.int .i64 r141.1), (V.int .i64 (gi (rd u142 (0 + i5.toNat)) 3))])) (0 + i5.toNat)) 0)), (V.inl t_byte (gl (rd (u142.set (0 + i5.toNat) (V.agg [(V.inl t_byte (gl (rd u142 (0 + i5.toNat)) 0)), (V.inl t_byte (gl (rd u142 (0 + i5.toNat)) 1)), (V.int .i64 r141.1), (V.int .i64 (gi (rd u142 (0 + i5.toNat)) 3))])) (0 + i5.toNat)) 1)), (V.int .i64 (gi (rd (u142.set (0 + i5.toNat) (V.agg [(V.inl t_byte (gl (rd u142 (0 + i5.toNat)) 0)), (V.inl t_byte (gl (rd u142 (0 + i5.toNat)) 1)), (V.int .i64 r141.1), (V.int .i64 (gi (rd u142 (0 + i5.toNat)) 3))])) (0 + i5.toNat)) 2)), (V.int .i64 (IntKind.i64.wrap (r141.1 + 1)))]))) fun u143 =>
              laws_markRowS_l2 k_ (IntKind.i64.wrap ((IntKind.i64.wrap (r141.1 + 1)) + 1)) (IntKind.i64.wrap (i5 + 1)) u143
            else none
          else none
        else none
      else none
    else some (k1, r0)
def laws_markRowS (a : List V) (k : Int) : Option (Int × List V) :=
  Option.bind (laws_markRowS_l2 ((((a.length : Nat) : Int) - 0).toNat + 1) k 0 a) fun r144 =>
  some (r144.1, r144.2)
def laws_markTombS_l2 : Nat → Int → Int → List V → Option (Int × List V)
  | 0, _, _, _ => none
  | k_ + 1, k1, i5, r0 =>
    bif (decide (i5 < ((r0.length : Nat) : Int))) then
      bif (idxOk i5 r0.length) then
        Option.bind (laws_markByteS (gl (rd r0 (0 + i5.toNat)) 0) k1) fun r146 =>
        bif (idxOk i5 r0.length) then
          rlet (((r0.set (0 + i5.toNat) (V.agg [(V.inl t_byte r146.2), (V.int .i64 (gi (rd r0 (0 + i5.toNat)) 1))])).set (0 + i5.toNat) (V.agg [(V.inl t_byte (gl (rd (r0.set (0 + i5.toNat) (V.agg [(V.inl t_byte r146.2), (V.int .i64 (gi (rd r0 (0 + i5.toNat)) 1))])) (0 + i5.toNat)) 0)), (V.int .i64 r146.1)]))) fun u147 =>
          laws_markTombS_l2 k_ (IntKind.i64.wrap (r146.1 + 1)) (IntKind.i64.wrap (i5 + 1)) u147
        else none
      else none
    else some (k1, r0)
def laws_markTombS (a : List V) (k : Int) : Option (Int × List V) :=
  Option.bind (laws_markTombS_l2 ((((a.length : Nat) : Int) - 0).toNat + 1) k 0 a) fun r148 =>
  some (r148.1, r148.2)
def laws_markSessionS_l2 : Nat → Int → Int → List V → Option (Int × List V)
  | 0, _, _, _ => none
  | k_ + 1, k1, i5, r0 =>
    bif (decide (i5 < ((r0.length : Nat) : Int))) then
      bif (idxOk i5 r0.length) then
        bif (idxOk i5 ((r0.set (0 + i5.toNat) (V.agg [(V.int .i64 k1), (V.bool (gb (rd r0 (0 + i5.toNat)) 1))])).length)) then
          rlet (((r0.set (0 + i5.toNat) (V.agg [(V.int .i64 k1), (V.bool (gb (rd r0 (0 + i5.toNat)) 1))])).set (0 + i5.toNat) (V.agg [(V.int .i64 (gi (rd (r0.set (0 + i5.toNat) (V.agg [(V.int .i64 k1), (V.bool (gb (rd r0 (0 + i5.toNat)) 1))])) (0 + i5.toNat)) 0)), (V.bool (decide (((IntKind.i64.wrap (k1 + 1)).tmod 3) = 0)))]))) fun u150 =>
          laws_markSessionS_l2 k_ (IntKind.i64.wrap ((IntKind.i64.wrap (k1 + 1)) + 1)) (IntKind.i64.wrap (i5 + 1)) u150
        else none
      else none
    else some (k1, r0)
def laws_markSessionS (a : List V) (k : Int) : Option (Int × List V) :=
  Option.bind (laws_markSessionS_l2 ((((a.length : Nat) : Int) - 0).toNat + 1) k 0 a) fun r151 =>
  some (r151.1, r151.2)
def laws_markLastS_l2 : Nat → Int → Int → List V → Option (Int × List V)
  | 0, _, _, _ => none
  | k_ + 1, k1, i5, r0 =>
    bif (decide (i5 < ((r0.length : Nat) : Int))) then
      bif (idxOk i5 r0.length) then
        bif (idxOk i5 ((r0.set (0 + i5.toNat) (V.agg [(V.int .i64 k1), (V.int .i64 (gi (rd r0 (0 + i5.toNat)) 1)), (V.int .i64 (gi (rd r0 (0 + i5.toNat)) 2)), (V.int .i64 (gi (rd r0 (0 + i5.toNat)) 3))])).length)) then
          rlet (((r0.set (0 + i5.toNat) (V.agg [(V.int .i64 k1), (V.int .i64 (gi (rd r0 (0 + i5.toNat)) 1)), (V.int .i64 (gi (rd r0 (0 + i5.toNat)) 2)), (V.int .i64 (gi (rd r0 (0 + i5.toNat)) 3))])).set (0 + i5.toNat) (V.agg [(V.int .i64 (gi (rd (r0.set (0 + i5.toNat) (V.agg [(V.int .i64 k1), (V.int .i64 (gi (rd r0 (0 + i5.toNat)) 1)), (V.int .i64 (gi (rd r0 (0 + i5.toNat)) 2)), (V.int .i64 (gi (rd r0 (0 + i5.toNat)) 3))])) (0 + i5.toNat)) 0)), (V.int .i64 (IntKind.i64.wrap (k1 + 1))), (V.int .i64 (gi (rd (r0.set (0 + i5.toNat) (V.agg [(V.int .i64 k1), (V.int .i64 (gi (rd r0 (0 + i5.toNat)) 1)), (V.int .i64 (gi (rd r0 (0 + i5.toNat)) 2)), (V.int .i64 (gi (rd r0 (0 + i5.toNat)) 3))])) (0 + i5.toNat)) 2)), (V.int .i64 (gi (rd (r0.set (0 + i5.toNat) (V.agg [(V.int .i64 k1), (V.int .i64 (gi (rd r0 (0 + i5.toNat)) 1)), (V.int .i64 (gi (rd r0 (0 + i5.toNat)) 2)), (V.int .i64 (gi (rd r0 (0 + i5.toNat)) 3))])) (0 + i5.toNat)) 3))]))) fun u153 =>
          bif (idxOk i5 u153.length) then
            rlet ((u153.set (0 + i5.toNat) (V.agg [(V.int .i64 (gi (rd u153 (0 + i5.toNat)) 0)), (V.int .i64 (gi (rd u153 (0 + i5.toNat)) 1)), (V.int .i64 (IntKind.i64.wrap ((IntKind.i64.wrap (k1 + 1)) + 1))), (V.int .i64 (gi (rd u153 (0 + i5.toNat)) 3))]))) fun u154 =>
            bif (idxOk i5 u154.length) then
              rlet ((u154.set (0 + i5.toNat) (V.agg [(V.int .i64 (gi (rd u154 (0 + i5.toNat)) 0)), (V.int .i64 (gi (rd u154 (0 + i5.toNat)) 1)), (V.int .i64 (gi (rd u154 (0 + i5.toNat)) 2)), (V.int .i64 (IntKind.i64.wrap ((IntKind.i64.wrap ((IntKind.i64.wrap (k1 + 1)) + 1)) + 1)))]))) fun u155 =>
              laws_markLastS_l2 k_ (IntKind.i64.wrap ((IntKind.i64.wrap ((IntKind.i64.wrap ((IntKind.i64.wrap (k1 + 1)) + 1)) + 1)) + 1)) (IntKind.i64.wrap (i5 + 1)) u155
            else none
          else none
        else none
      else none
    else some (k1, r0)
def laws_markLastS (a : List V) (k : Int) : Option (Int × List V) :=
  Option.bind (laws_markLastS_l2 ((((a.length : Nat) : Int) - 0).toNat + 1) k 0 a) fun r156 =>
  some (r156.1, r156.2)
def laws_markState (a : V) (k : Int) : Option (Int × List V × List V × List V × List V) :=
  Option.bind (laws_markRowS (gl a 1) k) fun r145 =>
  Option.bind (laws_markTombS (gl a 2) r145.1) fun r149 =>
  Option.bind (laws_markSessionS (gl a 4) r149.1) fun r152 =>
  Option.bind (laws_markLastS (gl a 5) r152.1) fun r157 =>
  some (r157.1, r145.2, r149.2, r152.2, r157.2)
def laws_heldTimerS_l2 : Nat → List V → Int → Int → Option (Nat × Int × Int)
  | 0, _, _, _ => none
  | k_ + 1, a0, k1, i5 =>
    bif (decide (i5 < ((a0.length : Nat) : Int))) then
      bif (idxOk i5 a0.length) then
        bif (!(decide ((gi (rd a0 i5.toNat) 0) = k1))) then
          some (0, k1, -1)
        else bif (idxOk i5 a0.length) then
          bif (!(decide ((gi (rd a0 i5.toNat) 1) = (IntKind.i64.wrap (k1 + 1))))) then
            some (0, (IntKind.i64.wrap (k1 + 1)), -1)
          else laws_heldTimerS_l2 k_ a0 (IntKind.i64.wrap ((IntKind.i64.wrap (k1 + 1)) + 1)) (IntKind.i64.wrap (i5 + 1))
        else none
      else none
    else some (1, k1, 0)
def laws_heldTimerS (a : List V) (k : Int) : Option (Int) :=
  Option.bind (laws_heldTimerS_l2 ((((a.length : Nat) : Int) - 0).toNat + 1) a k 0) fun r161 =>
  bif (Nat.beq r161.1 0) then
    some r161.2.2
  else some r161.2.1
def laws_heldWheel (a : V) (k : Int) : Option (Int) :=
  Option.bind (laws_heldTimerS (gl a 1) k) fun r162 =>
  bif (decide (r162 < 0)) then
    some (-1)
  else some r162
def laws_heldDuty (a : V) (k : Int) : Option (Int) :=
  Option.bind (laws_heldWheel (V.agg [(V.int .i64 (gi a 1)), (V.inl t_impl_Timer (gl a 2))]) k) fun r163 =>
  bif (decide (r163 < 0)) then
    some (-1)
  else some r163
def laws_FnExactDutySync (aD : V) (aS : V) : Option (Bool) :=
  bif (decide ((laws_szDuty (n_laws_Duty aD) 1048576) < 0)) then
    some true
  else Option.bind (laws_szState (n_laws_State aS) (laws_szDuty (n_laws_Duty aD) 1048576)) fun r5 =>
  bif (decide (r5 < 0)) then
    some true
  else Option.bind (laws_toDuty (n_laws_Duty aD)) fun r9 =>
  Option.bind (laws_toState (n_laws_State aS)) fun r24 =>
  Option.bind (spec_DutySync (n_impl_Duty r9) (n_impl_State r24)) fun r61 =>
  Option.bind (laws_toDuty (n_laws_Duty aD)) fun r62 =>
  Option.bind (laws_toState (n_laws_State aS)) fun r63 =>
  Option.bind (impl_DutySync (n_impl_Duty r62) (n_impl_State r63)) fun r111 =>
  Option.bind (laws_eqDuty (n_impl_Duty r111.1) (n_impl_Duty r61.1)) fun r115 =>
  bif (!r115) then
    some false
  else bif (!(r111.2 == r61.2)) then
    some false
  else Option.bind (laws_toDuty (n_laws_Duty aD)) fun r116 =>
  Option.bind (laws_eqDuty (n_impl_Duty r62) (n_impl_Duty r116)) fun r117 =>
  bif (!r117) then
    some false
  else Option.bind (laws_toState (n_laws_State aS)) fun r118 =>
  Option.bind (laws_eqState (n_impl_State r63) (n_impl_State r118)) fun r133 =>
  bif (!r133) then
    some false
  else Option.bind (laws_markDuty (n_impl_Duty r62) 1) fun r138 =>
  Option.bind (laws_markState (n_impl_State r63) r138.1) fun r158 =>
  bif (decide (r158.1 < 0)) then
    some false
  else Option.bind (laws_eqDuty (n_impl_Duty r111.1) (n_impl_Duty r61.1)) fun r159 =>
  bif (!r159) then
    some false
  else bif (!(r111.2 == r61.2)) then
    some false
  else Option.bind (laws_markDuty (n_impl_Duty r111.1) 1) fun r160 =>
  Option.bind (laws_heldDuty (V.agg [(V.int .i64 (gi r111.1 0)), (V.int .i64 (gi r111.1 1)), (V.inl t_impl_Timer r160.2)]) 1) fun r164 =>
  bif (decide (r164 < 0)) then
    some false
  else bif (!(decide (r164 = r160.1))) then
    some false
  else Option.bind (laws_toDuty (n_laws_Duty aD)) fun r165 =>
  Option.bind (laws_toState (n_laws_State aS)) fun r166 =>
  Option.bind (impl_DutySync (n_impl_Duty r165) (n_impl_State r166)) fun r167 =>
  Option.bind (laws_eqDuty (n_impl_Duty r167.1) (n_impl_Duty r61.1)) fun r168 =>
  bif (!r168) then
    some false
  else bif (!(r167.2 == r61.2)) then
    some false
  else Option.bind (laws_heldDuty (V.agg [(V.int .i64 (gi r111.1 0)), (V.int .i64 (gi r111.1 1)), (V.inl t_impl_Timer r160.2)]) 1) fun r169 =>
  bif (decide (r169 < 0)) then
    some false
  else bif (!(decide (r169 = r160.1))) then
    some false
  else some true
end Go.Eng.R
open Go Go.Eng Go.Proofs
namespace Go.Eng.R
theorem tab_ok : TabOk Tryz.prog tab := tabB_spec (by kernel_rfl)
theorem mixed : Tryz.prog.follows .mixedOrders = true := by kernel_rfl
theorem base : Base Tryz.prog tab := ⟨tab_ok, mixed⟩
def q0 : List S1 := [(.int .i64), (.int .i64), (.inl t_laws_Timer)]
def q1 : List S1 := [(.inl t_byte), (.inl t_byte), (.int .i64), (.int .i64)]
def q2 : List S1 := [(.int .i64), (.inl t_laws_Row), (.inl t_laws_Tomb), (.int .i64), (.inl t_laws_Session), (.inl t_laws_Last)]
def h3 (x : V) : V := V.agg [(V.int .i64 (gi x 0)), (V.rr t_impl_Timer true (gl x 1))]
def h4 (x : V) : V := V.agg [(V.int .i64 (gi x 0)), (V.int .i64 (gi x 1)), (V.rr t_impl_Timer true (gl x 2))]
def h5 (x : V) : V := V.agg [(V.rr t_byte true (gl x 0)), (V.rr t_byte true (gl x 1)), (V.int .i64 (gi x 2)), (V.int .i64 (gi x 3))]
def h6 (x : V) : V := V.agg [(V.rr t_byte true (gl x 0)), (V.int .i64 (gi x 1))]
def q7 : List S1 := [(.int .i64), (.int .i64), (.int .i64), (.int .i64)]
def h8 (x : V) : V := V.agg [(V.int .i64 (gi x 0)), (V.rr t_impl_Row true (gl x 1)), (V.rr t_impl_Tomb true (gl x 2)), (V.int .i64 (gi x 3)), (V.rr t_impl_Session true (gl x 4)), (V.rr t_impl_Last true (gl x 5))]
def q9 : List S1 := [.dead, (.rr t_impl_Row true), (.rr t_impl_Tomb true), .dead, (.rr t_impl_Session true), (.rr t_impl_Last true)]
def q10 : List S1 := [(.int .i64), (.int .i64), (.inl t_impl_Timer)]
def q11 : List S1 := [(.int .i64), (.inl t_impl_Row), (.inl t_impl_Tomb), (.int .i64), (.inl t_impl_Session), (.inl t_impl_Last)]
def l12 (x : V) : List V := [(V.int .i64 (gi x 0)), (V.inl t_impl_Row (gl x 1)), (V.inl t_impl_Tomb (gl x 2)), (V.int .i64 (gi x 3)), (V.inl t_impl_Session (gl x 4)), (V.inl t_impl_Last (gl x 5))]
def q13 : List S1 := [(.int .i64), (.int .i64), (.rr t_impl_Timer true)]
def l14 (x : V) : List V := [(V.int .i64 (gi x 0)), (V.int .i64 (gi x 1)), (V.rr t_impl_Timer true (gl x 2))]
def l15 (x : V) : List V := [(V.int .i64 (gi x 0)), (V.int .i64 (gi x 1)), (V.sl 2 t_impl_Timer 0 none)]
def l16 (x : V) : List V := [(V.int .i64 (gi x 0)), (V.int .i64 (gi x 1))]
def q17 : List S1 := [(.int .i64), (.int .i64), (.sl 2 t_impl_Timer)]
def l18 (x : V) : List V := [(V.int .i64 (gi x 0)), (V.int .i64 (gi x 1)), (V.sl 1 t_impl_Timer 0 none)]
def q19 : List S1 := [(.int .i64), (.int .i64), (.sl 1 t_impl_Timer)]
def q20 : List S1 := [(.int .i64), (.int .i64), (.dr t_impl_Timer)]
def q21 : List S1 := [(.int .i64), (.dr t_impl_Row), (.dr t_impl_Tomb), (.int .i64), (.dr t_impl_Session), (.dr t_impl_Last)]
end Go.Eng.R
open Go Go.Eng Go.Proofs
namespace Go.Eng.R
theorem inf5 : (Tryz.prog.info? 5).map (·.size) = some 1 := by kernel_rfl
theorem sz5 : ∀ w, (Go.sizeOf 5).run Tryz.prog w = .ok 1 w := fun w => by kernel_rfl
theorem zv5 : ∀ w, (zeroValue 5).run Tryz.prog w = .ok (Value.int .u8 0) w := fun w => by kernel_rfl
theorem info5 : (Tryz.prog.info? 5).map (fun i => (i.zero, i.size, i.bytes)) = some (some (Value.int .u8 0), 1, 1) := by kernel_rfl
set_option maxHeartbeats 4000000 in
set_option maxRecDepth 1000000 in
theorem cmp130 : CmpOk Tryz.prog 130 := by
  intro v1 v2 c w h
  have hcall : (callFunc 178 #[v1, v2]).run Tryz.prog w = .ok (.value (.int .i64 c)) w := by
    rw [run_callFunc_extern Tryz.func178 (by kernel_rfl) (by kernel_rfl) (by kernel_rfl) (e := Extern.BytealgCompare.compare) (by kernel_rfl), h]
    rfl
  clear h
  go_enter Tryz.func130, Tryz.ntmps130
  go_wp2_with (simp only [hcall])
  all_goals (go_ret; exact ⟨rfl, .refl _ _⟩)
theorem inf213 : (Tryz.prog.info? 213).map (·.size) = some 2 := by kernel_rfl
theorem sz213 : ∀ w, (Go.sizeOf 213).run Tryz.prog w = .ok 2 w := fun w => by kernel_rfl
theorem zv213 : ∀ w, (zeroValue 213).run Tryz.prog w = .ok (Value.agg #[.int .i64 0, .int .i64 0]) w := fun w => by kernel_rfl
theorem info213 : (Tryz.prog.info? 213).map (fun i => (i.zero, i.size, i.bytes)) = some (some (Value.agg #[.int .i64 0, .int .i64 0]), 2, 16) := by kernel_rfl
set_option maxHeartbeats 4000000 in
set_option maxRecDepth 1000000 in
theorem delSame199 : DelSame Tryz.prog 199 := by
  intro a n cap i w hin hn hcm
  go_enter Tryz.func199, Tryz.ntmps199
  go_wp2
  all_goals (go_ret; exact ⟨rfl, .refl _ _⟩)
set_option maxHeartbeats 4000000 in
set_option maxRecDepth 1000000 in
theorem del199 : DelOk Tryz.prog 199 213 2 := by
  intro g n cap i j cur w hg hs hn hcm h1 hij hj
  have hne : ¬ ((i : Int) = (j : Int)) := by omega
  have hb1 : (i : Int) ≤ (j : Int) := by omega
  have hb2 : (j : Int) ≤ (n : Int) := by omega
  have hb3 : (i : Int) ≤ (n : Int) := by omega
  have hb4 : i ≤ cap := by omega
  have hb5 : j ≤ cap := by omega
  obtain ⟨news, hnews⟩ : ∃ news, news = (cur.toList.drop (j * 2)).take ((n - j) * 2) := ⟨_, rfl⟩
  have hnl : news.length = (n - j) * 2 := by rw [hnews]; simp; omega
  have hsrc : ∀ k v, news[k]? = some v → w.cell? ((⟨g, j * 2, none⟩ : Addr).add k) = some v := by
    rw [hnews]; exact src_cells hg (by omega)
  have hone : ∀ v ∈ news, v.oneCell' = true := fun v hv => h1 v (by
    rw [hnews] at hv
    have : (cur.toList.drop (j * 2)).take ((n - j) * 2) = (cur.toList.take (n * 2)).drop (j * 2) := by
      rw [List.drop_take]; congr 1; omega
    rw [this] at hv
    exact List.mem_of_mem_drop hv)
  obtain ⟨c1, hc1⟩ : ∃ c1, c1 = (cur.toList.take (i * 2) ++ news ++ cur.toList.drop (i * 2 + news.length)).toArray := ⟨_, rfl⟩
  have hap : ∀ (W : World) (a : Addr) (m sc : Nat) (ty : TypeId), W.heap[g]? = w.heap[g]? → m = n - j → (m = 0 ∨ a = ⟨g, j * 2, none⟩) →
      (Builtin.append_ #[86, 86] ty #[.slice (some ⟨g, 0, none⟩) i cap, .slice (some a) m sc]).run Tryz.prog W = .ok (.slice (some ⟨g, 0, none⟩) (i + m) cap) (W.setRow g c1) := by
    intro W a m sc ty hW hm ha
    rw [hm] at ha ⊢
    have hst := run_storeCells_at Tryz.prog g (i * 2) 213 news 0 cur W (hW.trans hg) (by rw [hnl]; omega) hone
    simp only [Nat.add_zero] at hst
    rw [← hc1] at hst
    have hfc : (Builtin.firstCells 2 (n - j) (.slice (some a) (n - j) sc)).run Tryz.prog W = .ok news.toArray W := by
      refine run_firstCells_some (P := Tryz.prog) W 2 (n - j) a (n - j) sc news hnl fun k v hk => ?_
      rcases ha with h | rfl
      · have := (List.getElem?_eq_some_iff.1 hk).1
        rw [hnl] at this; omega
      · have := hsrc k v hk
        rw [← this]
        simp [World.cell?, hW, Addr.add_none]
    have hr : i + (n - j) ≤ cap := by omega
    cases hq : Tryz.prog.info? 213 with
    | none => have := inf213; rw [hq] at this; simp at this
    | some i0 =>
      have hi : i0.size = 2 := by have := inf213; rw [hq] at this; simpa using this
      simp [Builtin.append_, run_underlying Tryz.underlying86, sizeOf, typeInfo, hq, hi, Builtin.lenOf, hr, hfc, Addr.add_none, hst]
  have hc1s : c1.size = cap * 2 := by rw [hc1]; simp; omega
  have hc1t : c1.toList.take ((i + (n - j)) * 2) = (cur.toList.take (n * 2)).take (i * 2) ++ (cur.toList.take (n * 2)).drop (j * 2) := by
    rw [hc1]
    simp only [List.append_assoc]
    rw [← List.append_assoc, show (i + (n - j)) * 2 = (cur.toList.take (i * 2) ++ news).length from by simp [hnl]; omega, List.take_left, hnews, List.take_take, Nat.min_eq_left (by omega), List.drop_take]
    congr 2
    omega
  have hsub : n - (j - i) = i + (n - j) := by omega
  have hz : (Value.agg #[.int .i64 0, .int .i64 0]).cells.size = 2 := rfl
  have hz1 : ∀ v ∈ (Value.agg #[.int .i64 0, .int .i64 0]).cells, v.oneCell' = true := by decide
  rw [hsub]
  have hcn : ¬ (cap = i + (n - j)) := by omega
  have hlt : ((i + (n - j) : Nat) : Int) ≤ (n : Int) := by omega
  have hfin : ∀ (W1 : World) (d : Array Value), W1.heap[g]? = some (.cells d 213 (0, 0)) → d.size = cap * 2 → d.toList.take ((i + (n - j)) * 2) = (cur.toList.take (n * 2)).take (i * 2) ++ (cur.toList.take (n * 2)).drop (j * 2) → KeptBut [g] w W1 →
      ∃ W2, (∀ sc, (Builtin.clear_ #[86] 0 #[.slice (some ⟨g, (i + (n - j)) * 2, none⟩) (n - (i + (n - j))) sc]).run Tryz.prog W1 = .ok (.tuple #[]) W2) ∧
        ∃ cur' : Array Value, W2.heap[g]? = some (.cells cur' 213 (0, 0)) ∧ cur'.size = cap * 2 ∧ cur'.toList.take ((i + (n - j)) * 2) = (cur.toList.take (n * 2)).take (i * 2) ++ (cur.toList.take (n * 2)).drop (j * 2) ∧ KeptBut [g] w W2 := by
    intro W1 d e1 e2 e3 e4
    obtain ⟨tl, t1, t2⟩ := run_clear_k (P := Tryz.prog) W1 86 213 0 _ 2 Tryz.underlying86 zv213 hz hz1 (by omega) g ((i + (n - j)) * 2) (n - (i + (n - j))) (by omega) d 213 e1 (by omega)
    refine ⟨W1.setRow g (d.toList.take ((i + (n - j)) * 2) ++ tl ++ d.toList.drop ((i + (n - j)) * 2 + tl.length)).toArray, t2, (d.toList.take ((i + (n - j)) * 2) ++ tl ++ d.toList.drop ((i + (n - j)) * 2 + tl.length)).toArray, setRow_heap W1 g d _ 213 _ e1, ?_, ?_, e4.trans (KeptBut.setRow (by simp) _)⟩
    · simp; omega
    · rw [← e3, List.append_assoc]
      simp only
      rw [show (i + (n - j)) * 2 = (d.toList.take ((i + (n - j)) * 2)).length from by simp; omega]
      simp
  clear hc1 hnews hz hz1 hnl hsrc hone h1
  by_cases hjn : j = n
  · have hk : cur.toList.take ((i + (n - j)) * 2) = (cur.toList.take (n * 2)).take (i * 2) ++ (cur.toList.take (n * 2)).drop (j * 2) := by
      subst hjn
      rw [Nat.sub_self, Nat.add_zero, List.take_take, Nat.min_eq_left (by omega), List.drop_of_length_le (by simp; omega), List.append_nil]
    obtain ⟨W2, hcl, hpost⟩ := hfin w.drew cur hg hs hk (KeptBut.refl _ w).drew
    have e0 : i + (n - j) = i := by omega
    rw [e0] at hcl hpost hcn ⊢
    clear hfin hc1t hap hk hsub hlt e0
    subst hjn
    by_cases hcj : cap = j
    · subst hcj
      go_enter Tryz.func199, Tryz.ntmps199
      go_wp2
      go_region
      go_wp2_with (at_builtin; refine wpList_clear_k rfl _ 86 rfl _ rfl (hcl _) ?_)
      go_ret
      exact ⟨rfl, hpost⟩
    · go_enter Tryz.func199, Tryz.ntmps199
      go_wp2
      go_region
      go_wp2_with (at_builtin; refine wpList_clear_k rfl _ 86 rfl _ rfl (hcl _) ?_)
      go_ret
      exact ⟨rfl, hpost⟩
  · have hcj : ¬ (cap = j) := by omega
    obtain ⟨W2, hcl, hpost⟩ := hfin (w.drew.setRow g c1) c1 (setRow_heap _ g cur _ 213 _ hg) hc1s hc1t ((KeptBut.refl _ w).drew.trans (KeptBut.setRow (by simp) _))
    clear hfin hc1t
    go_enter Tryz.func199, Tryz.ntmps199
    go_wp2
    go_region_law (refine step_append_k rfl _ _ 86 86 rfl _ _ (by simp [Act.eval, Act.put]) (by simp [Act.eval, Act.put]) (hap w.drew ⟨g, j * 2, none⟩ (n - j) (cap - j) 86 rfl rfl (Or.inr rfl)) ?_)
    go_wp2_with (at_builtin; refine wpList_clear_k rfl _ 86 rfl _ rfl (hcl _) ?_)
    go_ret
    exact ⟨rfl, hpost⟩
section
open Go.Shelf Go.RowKit Go.Lib Go.Sort
theorem third_block {W : World} {o1 o2 o3 : Obj} {g : Nat} (hg : g = W.heap.size + 1 + 1) : (((W.alloc o1).alloc o2).alloc o3).drew.heap[g]? = some o3 := by
  subst hg
  have e : (((W.alloc o1).alloc o2).alloc o3).drew.heap = ((W.heap.push o1).push o2).push o3 := rfl
  rw [e, Array.getElem?_push, if_pos (by simp)]
set_option maxHeartbeats 4000000 in
set_option maxRecDepth 1000000 in
theorem or202 (x y r : Int) (h0 : x = 0 → r = y) (h1 : x ≠ 0 → r = x) (W : World) (g : Nat) (hg : W.heap[g]? = some (.cells #[.int .i64 x, .int .i64 y] 3 (0, 0))) :
    Calls Tryz.prog 202 #[.slice (some ⟨g, 0, none⟩) 2 2] W fun e w' => e = .returned (.int .i64 r) ∧ w' = W := by
  have c0 : W.cell? ⟨g, 0, none⟩ = some (.int .i64 x) := by simp [World.cell?, hg]
  have c1 : W.cell? ⟨g, 1, none⟩ = some (.int .i64 y) := by simp [World.cell?, hg]
  go_enter Tryz.func202, Tryz.ntmps202
  go_wp2
  go_rounds 3
  all_goals go_ret
  · have hx : (x != 0) = true := by assumption
    rw [h1 (by simpa using hx)]; exact ⟨rfl, rfl⟩
  · have hx : (x != 0) = false := by assumption
    rw [h0 (by simpa using hx)]; exact ⟨rfl, rfl⟩
  · have hx : (x != 0) = false := by assumption
    have hy : (y != 0) = false := by assumption
    rw [h0 (by simpa using hx), show y = 0 by simpa using hy]; exact ⟨rfl, rfl⟩
def sortL170_ren : Go.Shelf.Ren := ⟨fun | 6 => 170 | 15 => 201 | 14 => 200 | 28 => 217 | 29 => 218 | 20 => 209 | 21 => 210 | 22 => 211 | 23 => 212 | 24 => 213 | 25 => 214 | 26 => 215 | 27 => 216 | 46 => 223 | 47 => 224 | 48 => 225 | 49 => 226 | 50 => 227 | 57 => 229 | n => n, fun | 22 => 86 | 24 => 213 | 25 => 225 | 3 => 3 | 39 => 247 | 0 => 0 | 53 => 262 | 55 => 264 | 4 => 4 | 46 => 256 | 45 => 255 | 50 => 193 | 5 => 5 | 9 => 9 | 66 => 267 | 70 => 271 | 76 => 273 | 77 => 274 | n => n, fun | n => n⟩
theorem sortL170 : Go.Proofs.SlLaysF0.n6 Tryz.prog sortL170_ren where
  mixed := by kernel_rfl
  f6 := ⟨Tryz.f170.name, by decide, Tryz.func170.trans (congrArg some (by kernel_rfl))⟩
  f14 := ⟨Tryz.f200.name, by decide, Tryz.func200.trans (congrArg some (by kernel_rfl))⟩
  f15 := Tryz.func201.trans (congrArg some (by kernel_rfl))
  f20 := ⟨Tryz.f209.name, by decide, Tryz.func209.trans (congrArg some (by kernel_rfl))⟩
  f21 := ⟨Tryz.f210.name, by decide, Tryz.func210.trans (congrArg some (by kernel_rfl))⟩
  f22 := ⟨Tryz.f211.name, by decide, Tryz.func211.trans (congrArg some (by kernel_rfl))⟩
  f23 := ⟨Tryz.f212.name, by decide, Tryz.func212.trans (congrArg some (by kernel_rfl))⟩
  f24 := ⟨Tryz.f213.name, by decide, Tryz.func213.trans (congrArg some (by kernel_rfl))⟩
  f25 := ⟨Tryz.f214.name, by decide, Tryz.func214.trans (congrArg some (by kernel_rfl))⟩
  f26 := ⟨Tryz.f215.name, by decide, Tryz.func215.trans (congrArg some (by kernel_rfl))⟩
  f27 := ⟨Tryz.f216.name, by decide, Tryz.func216.trans (congrArg some (by kernel_rfl))⟩
  f28 := Tryz.func217.trans (congrArg some (by kernel_rfl))
  f29 := Tryz.func218.trans (congrArg some (by kernel_rfl))
  f46 := ⟨Tryz.f223.name, by decide, Tryz.func223.trans (congrArg some (by kernel_rfl))⟩
  f47 := Tryz.func224.trans (congrArg some (by kernel_rfl))
  f48 := Tryz.func225.trans (congrArg some (by kernel_rfl))
  f49 := ⟨Tryz.f226.name, by decide, Tryz.func226.trans (congrArg some (by kernel_rfl))⟩
  f50 := ⟨Tryz.f227.name, by decide, Tryz.func227.trans (congrArg some (by kernel_rfl))⟩
  f57 := ⟨Tryz.f229.name, by decide, Tryz.func229.trans (congrArg some (by kernel_rfl))⟩
  t0 := Tryz.underlying0
  a0 := Tryz.isAgg0
  z0 := Tryz.sizeOf0
  v0 := Tryz.zeroValue0
  t3 := Tryz.underlying3
  a3 := Tryz.isAgg3
  z3 := Tryz.sizeOf3
  v3 := Tryz.zeroValue3
  t4 := Tryz.underlying4
  a4 := Tryz.isAgg4
  z4 := Tryz.sizeOf4
  v4 := Tryz.zeroValue4
  t5 := Tryz.underlying5
  a5 := Tryz.isAgg5
  z5 := Tryz.sizeOf5
  v5 := Tryz.zeroValue5
  t9 := Tryz.underlying9
  a9 := Tryz.isAgg9
  z9 := Tryz.sizeOf9
  v9 := Tryz.zeroValue9
  t22 := Tryz.underlying86
  a22 := Tryz.isAgg86
  z22 := Tryz.sizeOf86
  v22 := Tryz.zeroValue86
  t25 := Tryz.underlying225
  a25 := Tryz.isAgg225
  z25 := Tryz.sizeOf225
  v25 := Tryz.zeroValue225
  t39 := Tryz.underlying247
  a39 := Tryz.isAgg247
  z39 := Tryz.sizeOf247
  v39 := Tryz.zeroValue247
  t45 := Tryz.underlying255
  a45 := Tryz.isAgg255
  z45 := Tryz.sizeOf255
  v45 := Tryz.zeroValue255
  t46 := Tryz.underlying256
  a46 := Tryz.isAgg256
  z46 := Tryz.sizeOf256
  v46 := Tryz.zeroValue256
  t50 := Tryz.underlying193
  a50 := Tryz.isAgg193
  z50 := Tryz.sizeOf193
  v50 := Tryz.zeroValue193
  t53 := Tryz.underlying262
  a53 := Tryz.isAgg262
  z53 := Tryz.sizeOf262
  v53 := Tryz.zeroValue262
  t55 := Tryz.underlying264
  a55 := Tryz.isAgg264
  z55 := Tryz.sizeOf264
  v55 := Tryz.zeroValue264
  t66 := Tryz.underlying267
  a66 := Tryz.isAgg267
  z66 := Tryz.sizeOf267
  v66 := Tryz.zeroValue267
  t70 := Tryz.underlying271
  a70 := Tryz.isAgg271
  z70 := Tryz.sizeOf271
  v70 := Tryz.zeroValue271
  t76 := Tryz.underlying273
  a76 := Tryz.isAgg273
  z76 := Tryz.sizeOf273
  v76 := Tryz.zeroValue273
  t77 := Tryz.underlying274
  a77 := Tryz.isAgg274
  z77 := Tryz.sizeOf274
  v77 := Tryz.zeroValue274
def cmpL203_ren : Go.Shelf.Ren := ⟨fun | 5 => 203 | 7 => 219 | n => n, fun | 22 => 3 | 3 => 3 | 4 => 4 | n => n, fun | n => n⟩
theorem cmpL203 : Go.Proofs.SlLaysC2.n5 Tryz.prog cmpL203_ren where
  mixed := by kernel_rfl
  f5 := ⟨Tryz.f203.name, by decide, Tryz.func203.trans (congrArg some (by kernel_rfl))⟩
  f7 := ⟨Tryz.f219.name, by decide, Tryz.func219.trans (congrArg some (by kernel_rfl))⟩
  t3 := Tryz.underlying3
  a3 := Tryz.isAgg3
  z3 := Tryz.sizeOf3
  v3 := Tryz.zeroValue3
  t4 := Tryz.underlying4
  a4 := Tryz.isAgg4
  z4 := Tryz.sizeOf4
  v4 := Tryz.zeroValue4
  t22 := Tryz.underlying3
  a22 := Tryz.isAgg3
  z22 := Tryz.sizeOf3
  v22 := Tryz.zeroValue3
set_option maxHeartbeats 4000000 in
set_option maxRecDepth 1000000 in
theorem cmpT171 (a b : V) (W : World) : Calls Tryz.prog 171 #[.agg #[.int .i64 (gi a 0), .int .i64 (gi a 1)], .agg #[.int .i64 (gi b 0), .int .i64 (gi b 1)]] W fun e w' => e = .returned (.int .i64 (cfT a b)) ∧ ∃ q os', w' = grow (W.drewN q) os' := by
  have hcon := fun x y W' => AnyG.cmp_Compare_int cmpL203 x y W'
  change ∀ x y W', Calls Tryz.prog 203 _ _ _ at hcon
  have hor : ∀ (W' : World) (g : Nat), W'.heap[g]? = some (.cells #[.int .i64 (Lib.compareInt (gi a 1) (gi b 1)), .int .i64 (Lib.compareInt (gi a 0) (gi b 0))] 3 (0, 0)) → Calls Tryz.prog 202 #[.slice (some ⟨g, 0, none⟩) 2 2] W' fun e w' => e = .returned (.int .i64 (cfT a b)) ∧ w' = W' := fun W' g hg => by
    refine or202 _ _ _ ?_ ?_ W' g hg
    · unfold cfT Lib.compareInt
      by_cases h1 : gi a 1 < gi b 1 <;> by_cases h2 : gi b 1 < gi a 1 <;> by_cases h3 : gi a 0 < gi b 0 <;> by_cases h4 : gi b 0 < gi a 0 <;> simp [h1, h2, h3, h4] <;> omega
    · unfold cfT Lib.compareInt
      by_cases h1 : gi a 1 < gi b 1 <;> by_cases h2 : gi b 1 < gi a 1 <;> by_cases h3 : gi a 0 < gi b 0 <;> by_cases h4 : gi b 0 < gi a 0 <;> simp [h1, h2, h3, h4] <;> omega
  generalize cfT a b = r at hor ⊢
  go_enter Tryz.func171, Tryz.ntmps171
  go_wp2
  go_region_held3 (fun w' => w'.cell? ⟨W.heap.size, 0, none⟩ = some (.int .i64 (gi a 0)) ∧ w'.cell? ⟨W.heap.size, 1, none⟩ = some (.int .i64 (gi a 1)) ∧ w'.cell? ⟨W.heap.size + 1, 0, none⟩ = some (.int .i64 (gi b 0)) ∧ w'.cell? ⟨W.heap.size + 1, 1, none⟩ = some (.int .i64 (gi b 1))) (go_keep)
    (first | (go_at_call 203; refine (hcon _ _ _).mono ?_; rintro e w' ⟨rfl, rfl⟩) | (go_at_call 202; refine (hor _ _ (third_block (by simp))).mono ?_; rintro e w' ⟨rfl, rfl⟩))
  go_wp2
  go_ret
  rw [alloc_eq_grow, alloc_eq_grow, alloc_eq_grow, grow_grow, grow_grow]
  exact ⟨rfl, 1, _, rfl⟩
theorem sort170 : SortOk Tryz.prog 170 171 [.int .i64, .int .i64] cfT := by
  refine ⟨cfT_swo, fun w blk cap d hH hblk hsz => ?_⟩
  have aE : ∀ w, (isAgg 213).run Tryz.prog w = .ok true w := fun w => by kernel_rfl
  have zE : ∀ w, (Go.sizeOf 213).run Tryz.prog w = .ok 2 w := fun w => by kernel_rfl
  have eg : ∀ args w, (callFunc 171 args).run Tryz.prog w = .ok (.enter 171 args) w := Go.Proofs.enters_of Tryz.func171 (by kernel_rfl) rfl
  exact AnyQ.slices_SortFunc_eq sortL170 2 aE zE (fun x => encK [.int .i64, .int .i64] x 0) (fun _ => rfl) (fun x v hv => by simp [encK] at hv; rcases hv with rfl | rfl <;> rfl) cfT cfT_swo 171 #[] blk 0 cap d w eg (fun _ _ _ _ x y => cmpT171 x y _) hH hblk hsz
end
end Go.Eng.R
open Go Go.Eng Go.Proofs
namespace Go.Eng.R
noncomputable def e152 : En Tryz.prog tab := enT base [] false [] Tryz.func152 noLo [(.one (.inl t_laws_Timer)), (.one (.int .i64))] (fun a => laws_szTimerS ((rd a 0).L) ((rd a 1).I)) (fun r_ : Int => ((vi r_), [])) [] [] [some t_laws_Timer, none] false (by kernel_rfl) fun _ => gT (g5 g7 g7) (by kernel_rfl)
noncomputable def e95 : En Tryz.prog tab := enT base [e152] false [] Tryz.func95 noLo [(.agg [(.int .i64), (.inl t_laws_Timer)]), (.one (.int .i64))] (fun a => laws_szWheel (rd a 0) ((rd a 1).I)) (fun r_ : Int => ((vi r_), [])) [] [] [none, none] false (by kernel_rfl) fun _ => gT (g5 g7 g7) (by kernel_rfl)
noncomputable def e36 : En Tryz.prog tab := enT base [e95] false [] Tryz.func36 noLo [(.agg q0), (.one (.int .i64))] (fun a => laws_szDuty (rd a 0) ((rd a 1).I)) (fun r_ : Int => ((vi r_), [])) [] [] [none, none] false (by kernel_rfl) fun _ => gT (g5 g7 g7) (by kernel_rfl)
noncomputable def e113 : En Tryz.prog tab := enT base [] false [] Tryz.func113 noLo [(.one (.inl t_byte)), (.one (.int .i64))] (fun a => laws_szByteS ((rd a 0).L) ((rd a 1).I)) (fun r_ : Int => ((vi r_), [])) [] [] [some t_byte, none] false (by kernel_rfl) fun _ => gT (g5 g7 g7) (by kernel_rfl)
noncomputable def e111 : En Tryz.prog tab := enT base [e113] false [] Tryz.func111 noLo [(.agg q1), (.one (.int .i64))] (fun a => laws_szRow (rd a 0) ((rd a 1).I)) (fun r_ : Int => ((vi r_), [])) [] [] [none, none] false (by kernel_rfl) fun _ => gT (g5 g7 (g5 g7 g7)) (by kernel_rfl)
noncomputable def c48 : Cfg := cfgOf (P := Tryz.prog) (tab := tab) [e111] false []
def a48_0 (r_ : Nat × Int × Int) : List (Ex × St) := [(Ex.ret, (⟨[(1, (vi r_.2.1)), (4, (vi r_.2.2))], [], 0, []⟩ : St)), ((Ex.exit 0), (⟨[(1, (vi r_.2.1)), (4, V.dead)], [], 0, []⟩ : St))]
def s48_0 : SS := ⟨[(0, (.one (.inl t_laws_Row))), (1, (.one (.int .i64))), (5, (.one (.int .i64)))], [], 0, []⟩
noncomputable def l48_0 : LE := le1 5 s48_0 (fun st => laws_szRowS_l5 ((((((sv st 0).L).length : Nat) : Int) - ((sv st 2).I)).toNat + 1) ((sv st 0).L) ((sv st 1).I) ((sv st 2).I)) a48_0
noncomputable def L48 : Loops := ⟨fun k => (look [(5, [0, 1, 5])] k).getD [], fun _ => [], fun k => (look [(5, [1, 4])] k).getD [], runL [l48_0], []⟩
theorem t48_0 (k_ : Nat) : ∀ (a0 : List V) (left1 : Int) (i5 : Int), Agr id (pk1 a48_0) (laws_szRowS_l5 k_ a0 left1 i5) (rounds c48 L48 (lpB Tryz.f48 0) k_ (s48_0.mk' (stv [V.inl 0 a0, vi left1, vi i5] []))) := by
  induction k_ with
  | zero => exact fun _ _ _ => g0
  | succ k_ ih => exact fun _ _ _ => gA (g1 (g1 (g1 g4 (ih _ _ _)) g0) g4) (by kernel_rfl)
theorem o48 : LoopsOk c48 L48 (bodyOf Tryz.f48) := GoodAll.ok (l := [l48_0]) (.cons 0 (by kernel_rfl) (gd1 (fun st => (((((sv st 0).L).length : Nat) : Int) - ((sv st 2).I)).toNat + 1) (fun st => t48_0 _ _ _ _) fun st => by kernel_rfl) (.nil)) rfl
noncomputable def e48 : En Tryz.prog tab := enP base [e111] false [] Tryz.func48 (L := L48) o48 [(.one (.inl t_laws_Row)), (.one (.int .i64))] (fun a => laws_szRowS ((rd a 0).L) ((rd a 1).I)) (fun r_ : Int => ((vi r_), [])) [] [] [some t_laws_Row, none] false (by kernel_rfl) fun _ => gA (g1 g4 (g2 fun _ => g1 g4 g4)) (by kernel_rfl)
noncomputable def e112 : En Tryz.prog tab := enT base [e113] false [] Tryz.func112 noLo [(.agg [(.inl t_byte), (.int .i64)]), (.one (.int .i64))] (fun a => laws_szTomb (rd a 0) ((rd a 1).I)) (fun r_ : Int => ((vi r_), [])) [] [] [none, none] false (by kernel_rfl) fun _ => gT (g5 g7 g7) (by kernel_rfl)
noncomputable def c49 : Cfg := cfgOf (P := Tryz.prog) (tab := tab) [e112] false []
def a49_0 (r_ : Nat × Int × Int) : List (Ex × St) := [(Ex.ret, (⟨[(1, (vi r_.2.1)), (4, (vi r_.2.2))], [], 0, []⟩ : St)), ((Ex.exit 0), (⟨[(1, (vi r_.2.1)), (4, V.dead)], [], 0, []⟩ : St))]
def s49_0 : SS := ⟨[(0, (.one (.inl t_laws_Tomb))), (1, (.one (.int .i64))), (5, (.one (.int .i64)))], [], 0, []⟩
noncomputable def l49_0 : LE := le1 5 s49_0 (fun st => laws_szTombS_l5 ((((((sv st 0).L).length : Nat) : Int) - ((sv st 2).I)).toNat + 1) ((sv st 0).L) ((sv st 1).I) ((sv st 2).I)) a49_0
noncomputable def L49 : Loops := ⟨fun k => (look [(5, [0, 1, 5])] k).getD [], fun _ => [], fun k => (look [(5, [1, 4])] k).getD [], runL [l49_0], []⟩
theorem t49_0 (k_ : Nat) : ∀ (a0 : List V) (left1 : Int) (i5 : Int), Agr id (pk1 a49_0) (laws_szTombS_l5 k_ a0 left1 i5) (rounds c49 L49 (lpB Tryz.f49 0) k_ (s49_0.mk' (stv [V.inl 0 a0, vi left1, vi i5] []))) := by
  induction k_ with
  | zero => exact fun _ _ _ => g0
  | succ k_ ih => exact fun _ _ _ => gA (g1 (g1 (g1 g4 (ih _ _ _)) g0) g4) (by kernel_rfl)
theorem o49 : LoopsOk c49 L49 (bodyOf Tryz.f49) := GoodAll.ok (l := [l49_0]) (.cons 0 (by kernel_rfl) (gd1 (fun st => (((((sv st 0).L).length : Nat) : Int) - ((sv st 2).I)).toNat + 1) (fun st => t49_0 _ _ _ _) fun st => by kernel_rfl) (.nil)) rfl
noncomputable def e49 : En Tryz.prog tab := enP base [e112] false [] Tryz.func49 (L := L49) o49 [(.one (.inl t_laws_Tomb)), (.one (.int .i64))] (fun a => laws_szTombS ((rd a 0).L) ((rd a 1).I)) (fun r_ : Int => ((vi r_), [])) [] [] [some t_laws_Tomb, none] false (by kernel_rfl) fun _ => gA (g1 g4 (g2 fun _ => g1 g4 g4)) (by kernel_rfl)
noncomputable def e50 : En Tryz.prog tab := enT base [] false [] Tryz.func50 noLo [(.one (.inl t_laws_Session)), (.one (.int .i64))] (fun a => laws_szSessionS ((rd a 0).L) ((rd a 1).I)) (fun r_ : Int => ((vi r_), [])) [] [] [some t_laws_Session, none] false (by kernel_rfl) fun _ => gT (g5 g7 g7) (by kernel_rfl)
noncomputable def e51 : En Tryz.prog tab := enT base [] false [] Tryz.func51 noLo [(.one (.inl t_laws_Last)), (.one (.int .i64))] (fun a => laws_szLastS ((rd a 0).L) ((rd a 1).I)) (fun r_ : Int => ((vi r_), [])) [] [] [some t_laws_Last, none] false (by kernel_rfl) fun _ => gT (g5 g7 g7) (by kernel_rfl)
noncomputable def e9 : En Tryz.prog tab := enP base [e48, e49, e50, e51] false [] Tryz.func9 noLo [(.agg q2), (.one (.int .i64))] (fun a => laws_szState (rd a 0) ((rd a 1).I)) (fun r_ : Int => ((vi r_), [])) [] [] [none, none] false (by kernel_rfl) fun _ => gA (g2 fun _ => g1 g4 (g2 fun _ => g1 g4 (g1 g4 (g1 g4 g4)))) (by kernel_rfl)
noncomputable def e193 : En Tryz.prog tab := enT base [] false [] Tryz.func193 noLo [(.agg [(.int .i64), (.int .i64)])] (fun a => laws_toTimer (rd a 0)) (fun r_ : V => ((n_impl_Reply r_), [])) [] [] [none] false (by kernel_rfl) fun _ => gT g7 (by kernel_rfl)
noncomputable def c157 : Cfg := cfgOf (P := Tryz.prog) (tab := tab) [e193] false []
def a157_0 (r_ : List V) : List (Ex × St) := [((Ex.exit 0), (⟨[(3, (vs 0 t_impl_Timer))], [(0, some (Blk.row t_impl_Timer true r_))], 1, []⟩ : St))]
def s157_0 : SS := ⟨[(0, (.one (.inl t_laws_Timer))), (3, (.one (.sl 0 t_impl_Timer))), (4, (.one (.int .i64)))], [(.row t_impl_Timer true)], 1, []⟩
noncomputable def l157_0 : LE := le0 3 s157_0 (fun st => laws_toTimerS_l3 ((((((sv st 0).L).length : Nat) : Int) - ((sv st 2).I)).toNat + 1) ((sv st 0).L) ((sv st 2).I) (br st 0)) a157_0
noncomputable def L157 : Loops := ⟨fun k => (look [(3, [0, 3, 4])] k).getD [], fun _ => [], fun k => (look [(3, [3])] k).getD [], runL [l157_0], []⟩
theorem t157_0 (k_ : Nat) : ∀ (a0 : List V) (i4 : Int) (r0 : List V), Agr id (pk0 a157_0) (laws_toTimerS_l3 k_ a0 i4 r0) (rounds c157 L157 (lpB Tryz.f157 0) k_ (s157_0.mk' (stv [V.inl 0 a0, .dead, vi i4] [rb r0]))) := by
  induction k_ with
  | zero => exact fun _ _ _ => g0
  | succ k_ ih => exact fun _ _ _ => gA (g1 (g1 (g1 (ih _ _ _) g0) g0) g4) (by kernel_rfl)
theorem o157 : LoopsOk c157 L157 (bodyOf Tryz.f157) := GoodAll.ok (l := [l157_0]) (.cons 0 (by kernel_rfl) (gd0 (fun st => (((((sv st 0).L).length : Nat) : Int) - ((sv st 2).I)).toNat + 1) (fun st => t157_0 _ _ _ _) fun st => by kernel_rfl) (.nil)) rfl
noncomputable def e157 : En Tryz.prog tab := enP base [e193] false [] Tryz.func157 (L := L157) o157 [(.one (.inl t_laws_Timer))] (fun a => laws_toTimerS ((rd a 0).L)) (fun r_ : List V => ((V.rr t_impl_Timer true r_), [])) [[(.rr t_impl_Timer true)]] [] [some t_laws_Timer] false (by kernel_rfl) fun _ => gA (g1 (g2 fun _ => g4) g0) (by kernel_rfl)
noncomputable def e99 : En Tryz.prog tab := enP base [e157] false [] Tryz.func99 noLo [(.agg [(.int .i64), (.inl t_laws_Timer)])] (fun a => laws_toWheel (rd a 0)) (fun r_ : V => ((h3 r_), [])) [[.dead, (.rr t_impl_Timer true)]] [] [none] false (by kernel_rfl) fun _ => gA (g2 fun _ => g4) (by kernel_rfl)
noncomputable def e38 : En Tryz.prog tab := enP base [e99] false [] Tryz.func38 noLo [(.agg q0)] (fun a => laws_toDuty (rd a 0)) (fun r_ : V => ((h4 r_), [])) [[.dead, .dead, (.rr t_impl_Timer true)]] [] [none] false (by kernel_rfl) fun _ => gA (g2 fun _ => g4) (by kernel_rfl)
noncomputable def c126 : Cfg := cfgOf (P := Tryz.prog) (tab := tab) [] false []
def a126_0 (r_ : List V) : List (Ex × St) := [((Ex.exit 0), (⟨[(3, (vs 0 t_byte))], [(0, some (Blk.row t_byte true r_))], 1, []⟩ : St))]
def s126_0 : SS := ⟨[(0, (.one (.inl t_byte))), (3, (.one (.sl 0 t_byte))), (4, (.one (.int .i64)))], [(.row t_byte true)], 1, []⟩
noncomputable def l126_0 : LE := le0 3 s126_0 (fun st => laws_toByteS_l3 ((((((sv st 0).L).length : Nat) : Int) - ((sv st 2).I)).toNat + 1) ((sv st 0).L) ((sv st 2).I) (br st 0)) a126_0
noncomputable def L126 : Loops := ⟨fun k => (look [(3, [0, 3, 4])] k).getD [], fun _ => [], fun k => (look [(3, [3])] k).getD [], runL [l126_0], []⟩
theorem t126_0 (k_ : Nat) : ∀ (a0 : List V) (i4 : Int) (r0 : List V), Agr id (pk0 a126_0) (laws_toByteS_l3 k_ a0 i4 r0) (rounds c126 L126 (lpB Tryz.f126 0) k_ (s126_0.mk' (stv [V.inl 0 a0, .dead, vi i4] [rb r0]))) := by
  induction k_ with
  | zero => exact fun _ _ _ => g0
  | succ k_ ih => exact fun _ _ _ => gA (g1 (g1 (g1 (ih _ _ _) g0) g0) g4) (by kernel_rfl)
theorem o126 : LoopsOk c126 L126 (bodyOf Tryz.f126) := GoodAll.ok (l := [l126_0]) (.cons 0 (by kernel_rfl) (gd0 (fun st => (((((sv st 0).L).length : Nat) : Int) - ((sv st 2).I)).toNat + 1) (fun st => t126_0 _ _ _ _) fun st => by kernel_rfl) (.nil)) rfl
noncomputable def e126 : En Tryz.prog tab := enP base [] false [] Tryz.func126 (L := L126) o126 [(.one (.inl t_byte))] (fun a => laws_toByteS ((rd a 0).L)) (fun r_ : List V => ((V.rr t_byte true r_), [])) [[(.rr t_byte true)]] [] [some t_byte] false (by kernel_rfl) fun _ => gA (g1 (g2 fun _ => g4) g0) (by kernel_rfl)
noncomputable def e122 : En Tryz.prog tab := enP base [e126] false [] Tryz.func122 noLo [(.agg q1)] (fun a => laws_toRow (rd a 0)) (fun r_ : V => ((h5 r_), [])) [[(.rr t_byte true), (.rr t_byte true)]] [] [none] false (by kernel_rfl) fun _ => gA (g2 fun _ => g2 fun _ => g4) (by kernel_rfl)
noncomputable def c57 : Cfg := cfgOf (P := Tryz.prog) (tab := tab) [e122] false []
def a57_0 (r_ : List V) : List (Ex × St) := [((Ex.exit 0), (⟨[(3, (vs 0 t_impl_Row))], [(0, some (Blk.row t_impl_Row true r_))], 1, []⟩ : St))]
def s57_0 : SS := ⟨[(0, (.one (.inl t_laws_Row))), (3, (.one (.sl 0 t_impl_Row))), (4, (.one (.int .i64)))], [(.row t_impl_Row true)], 1, []⟩
noncomputable def l57_0 : LE := le0 3 s57_0 (fun st => laws_toRowS_l3 ((((((sv st 0).L).length : Nat) : Int) - ((sv st 2).I)).toNat + 1) ((sv st 0).L) ((sv st 2).I) (br st 0)) a57_0
noncomputable def L57 : Loops := ⟨fun k => (look [(3, [0, 3, 4])] k).getD [], fun _ => [], fun k => (look [(3, [3])] k).getD [], runL [l57_0], []⟩
theorem t57_0 (k_ : Nat) : ∀ (a0 : List V) (i4 : Int) (r0 : List V), Agr id (pk0 a57_0) (laws_toRowS_l3 k_ a0 i4 r0) (rounds c57 L57 (lpB Tryz.f57 0) k_ (s57_0.mk' (stv [V.inl 0 a0, .dead, vi i4] [rb r0]))) := by
  induction k_ with
  | zero => exact fun _ _ _ => g0
  | succ k_ ih => exact fun _ _ _ => gA (g1 (g1 (g2 fun _ => g1 (ih _ _ _) g0) g0) g4) (by kernel_rfl)
theorem o57 : LoopsOk c57 L57 (bodyOf Tryz.f57) := GoodAll.ok (l := [l57_0]) (.cons 0 (by kernel_rfl) (gd0 (fun st => (((((sv st 0).L).length : Nat) : Int) - ((sv st 2).I)).toNat + 1) (fun st => t57_0 _ _ _ _) fun st => by kernel_rfl) (.nil)) rfl
noncomputable def e57 : En Tryz.prog tab := enP base [e122] false [] Tryz.func57 (L := L57) o57 [(.one (.inl t_laws_Row))] (fun a => laws_toRowS ((rd a 0).L)) (fun r_ : List V => ((V.rr t_impl_Row true r_), [])) [[(.rr t_impl_Row true)]] [] [some t_laws_Row] false (by kernel_rfl) fun _ => gA (g1 (g2 fun _ => g4) g0) (by kernel_rfl)
noncomputable def e123 : En Tryz.prog tab := enP base [e126] false [] Tryz.func123 noLo [(.agg [(.inl t_byte), (.int .i64)])] (fun a => laws_toTomb (rd a 0)) (fun r_ : V => ((h6 r_), [])) [[(.rr t_byte true)]] [] [none] false (by kernel_rfl) fun _ => gA (g2 fun _ => g4) (by kernel_rfl)
noncomputable def c58 : Cfg := cfgOf (P := Tryz.prog) (tab := tab) [e123] false []
def a58_0 (r_ : List V) : List (Ex × St) := [((Ex.exit 0), (⟨[(3, (vs 0 t_impl_Tomb))], [(0, some (Blk.row t_impl_Tomb true r_))], 1, []⟩ : St))]
def s58_0 : SS := ⟨[(0, (.one (.inl t_laws_Tomb))), (3, (.one (.sl 0 t_impl_Tomb))), (4, (.one (.int .i64)))], [(.row t_impl_Tomb true)], 1, []⟩
noncomputable def l58_0 : LE := le0 3 s58_0 (fun st => laws_toTombS_l3 ((((((sv st 0).L).length : Nat) : Int) - ((sv st 2).I)).toNat + 1) ((sv st 0).L) ((sv st 2).I) (br st 0)) a58_0
noncomputable def L58 : Loops := ⟨fun k => (look [(3, [0, 3, 4])] k).getD [], fun _ => [], fun k => (look [(3, [3])] k).getD [], runL [l58_0], []⟩
theorem t58_0 (k_ : Nat) : ∀ (a0 : List V) (i4 : Int) (r0 : List V), Agr id (pk0 a58_0) (laws_toTombS_l3 k_ a0 i4 r0) (rounds c58 L58 (lpB Tryz.f58 0) k_ (s58_0.mk' (stv [V.inl 0 a0, .dead, vi i4] [rb r0]))) := by
  induction k_ with
  | zero => exact fun _ _ _ => g0
  | succ k_ ih => exact fun _ _ _ => gA (g1 (g1 (g2 fun _ => g1 (ih _ _ _) g0) g0) g4) (by kernel_rfl)
theorem o58 : LoopsOk c58 L58 (bodyOf Tryz.f58) := GoodAll.ok (l := [l58_0]) (.cons 0 (by kernel_rfl) (gd0 (fun st => (((((sv st 0).L).length : Nat) : Int) - ((sv st 2).I)).toNat + 1) (fun st => t58_0 _ _ _ _) fun st => by kernel_rfl) (.nil)) rfl
noncomputable def e58 : En Tryz.prog tab := enP base [e123] false [] Tryz.func58 (L := L58) o58 [(.one (.inl t_laws_Tomb))] (fun a => laws_toTombS ((rd a 0).L)) (fun r_ : List V => ((V.rr t_impl_Tomb true r_), [])) [[(.rr t_impl_Tomb true)]] [] [some t_laws_Tomb] false (by kernel_rfl) fun _ => gA (g1 (g2 fun _ => g4) g0) (by kernel_rfl)
noncomputable def e124 : En Tryz.prog tab := enT base [] false [] Tryz.func124 noLo [(.agg [(.int .i64), .bool])] (fun a => laws_toSession (rd a 0)) (fun r_ : V => ((n_impl_Session r_), [])) [] [] [none] false (by kernel_rfl) fun _ => gT g7 (by kernel_rfl)
noncomputable def c59 : Cfg := cfgOf (P := Tryz.prog) (tab := tab) [e124] false []
def a59_0 (r_ : List V) : List (Ex × St) := [((Ex.exit 0), (⟨[(3, (vs 0 t_impl_Session))], [(0, some (Blk.row t_impl_Session true r_))], 1, []⟩ : St))]
def s59_0 : SS := ⟨[(0, (.one (.inl t_laws_Session))), (3, (.one (.sl 0 t_impl_Session))), (4, (.one (.int .i64)))], [(.row t_impl_Session true)], 1, []⟩
noncomputable def l59_0 : LE := le0 3 s59_0 (fun st => laws_toSessionS_l3 ((((((sv st 0).L).length : Nat) : Int) - ((sv st 2).I)).toNat + 1) ((sv st 0).L) ((sv st 2).I) (br st 0)) a59_0
noncomputable def L59 : Loops := ⟨fun k => (look [(3, [0, 3, 4])] k).getD [], fun _ => [], fun k => (look [(3, [3])] k).getD [], runL [l59_0], []⟩
theorem t59_0 (k_ : Nat) : ∀ (a0 : List V) (i4 : Int) (r0 : List V), Agr id (pk0 a59_0) (laws_toSessionS_l3 k_ a0 i4 r0) (rounds c59 L59 (lpB Tryz.f59 0) k_ (s59_0.mk' (stv [V.inl 0 a0, .dead, vi i4] [rb r0]))) := by
  induction k_ with
  | zero => exact fun _ _ _ => g0
  | succ k_ ih => exact fun _ _ _ => gA (g1 (g1 (g1 (ih _ _ _) g0) g0) g4) (by kernel_rfl)
theorem o59 : LoopsOk c59 L59 (bodyOf Tryz.f59) := GoodAll.ok (l := [l59_0]) (.cons 0 (by kernel_rfl) (gd0 (fun st => (((((sv st 0).L).length : Nat) : Int) - ((sv st 2).I)).toNat + 1) (fun st => t59_0 _ _ _ _) fun st => by kernel_rfl) (.nil)) rfl
noncomputable def e59 : En Tryz.prog tab := enP base [e124] false [] Tryz.func59 (L := L59) o59 [(.one (.inl t_laws_Session))] (fun a => laws_toSessionS ((rd a 0).L)) (fun r_ : List V => ((V.rr t_impl_Session true r_), [])) [[(.rr t_impl_Session true)]] [] [some t_laws_Session] false (by kernel_rfl) fun _ => gA (g1 (g2 fun _ => g4) g0) (by kernel_rfl)
noncomputable def e175 : En Tryz.prog tab := enT base [] false [] Tryz.func175 noLo [(.agg [(.int .i64), (.int .i64)])] (fun a => laws_toReply (rd a 0)) (fun r_ : V => ((n_impl_Reply r_), [])) [] [] [none] false (by kernel_rfl) fun _ => gT g7 (by kernel_rfl)
noncomputable def e125 : En Tryz.prog tab := enT base [e175] false [] Tryz.func125 noLo [(.agg q7)] (fun a => laws_toLast (rd a 0)) (fun r_ : V => ((n_impl_Last r_), [])) [] [] [none] false (by kernel_rfl) fun _ => gT g7 (by kernel_rfl)
noncomputable def c60 : Cfg := cfgOf (P := Tryz.prog) (tab := tab) [e125] false []
def a60_0 (r_ : List V) : List (Ex × St) := [((Ex.exit 0), (⟨[(3, (vs 0 t_impl_Last))], [(0, some (Blk.row t_impl_Last true r_))], 1, []⟩ : St))]
def s60_0 : SS := ⟨[(0, (.one (.inl t_laws_Last))), (3, (.one (.sl 0 t_impl_Last))), (4, (.one (.int .i64)))], [(.row t_impl_Last true)], 1, []⟩
noncomputable def l60_0 : LE := le0 3 s60_0 (fun st => laws_toLastS_l3 ((((((sv st 0).L).length : Nat) : Int) - ((sv st 2).I)).toNat + 1) ((sv st 0).L) ((sv st 2).I) (br st 0)) a60_0
noncomputable def L60 : Loops := ⟨fun k => (look [(3, [0, 3, 4])] k).getD [], fun _ => [], fun k => (look [(3, [3])] k).getD [], runL [l60_0], []⟩
theorem t60_0 (k_ : Nat) : ∀ (a0 : List V) (i4 : Int) (r0 : List V), Agr id (pk0 a60_0) (laws_toLastS_l3 k_ a0 i4 r0) (rounds c60 L60 (lpB Tryz.f60 0) k_ (s60_0.mk' (stv [V.inl 0 a0, .dead, vi i4] [rb r0]))) := by
  induction k_ with
  | zero => exact fun _ _ _ => g0
  | succ k_ ih => exact fun _ _ _ => gA (g1 (g1 (g1 (ih _ _ _) g0) g0) g4) (by kernel_rfl)
theorem o60 : LoopsOk c60 L60 (bodyOf Tryz.f60) := GoodAll.ok (l := [l60_0]) (.cons 0 (by kernel_rfl) (gd0 (fun st => (((((sv st 0).L).length : Nat) : Int) - ((sv st 2).I)).toNat + 1) (fun st => t60_0 _ _ _ _) fun st => by kernel_rfl) (.nil)) rfl
noncomputable def e60 : En Tryz.prog tab := enP base [e125] false [] Tryz.func60 (L := L60) o60 [(.one (.inl t_laws_Last))] (fun a => laws_toLastS ((rd a 0).L)) (fun r_ : List V => ((V.rr t_impl_Last true r_), [])) [[(.rr t_impl_Last true)]] [] [some t_laws_Last] false (by kernel_rfl) fun _ => gA (g1 (g2 fun _ => g4) g0) (by kernel_rfl)
noncomputable def e12 : En Tryz.prog tab := enP base [e57, e58, e59, e60] false [] Tryz.func12 noLo [(.agg q2)] (fun a => laws_toState (rd a 0)) (fun r_ : V => ((h8 r_), [])) [q9] [] [none] false (by kernel_rfl) fun _ => gA (g2 fun _ => g2 fun _ => g2 fun _ => g2 fun _ => g4) (by kernel_rfl)
noncomputable def e168 : En Tryz.prog tab := enT base [] false [] Tryz.func168 noLo [(.agg [(.int .i64), (.int .i64)]), (.agg [(.int .i64), (.int .i64)])] (fun a => spec_l7ahead (rd a 0) (rd a 1)) (fun r_ : Bool => ((V.bool r_), [])) [] [] [none, none] false (by kernel_rfl) fun _ => gT (g5 g7 (g5 g7 g7)) (by kernel_rfl)
noncomputable def c156 : Cfg := cfgOf (P := Tryz.prog) (tab := tab) [] false []
def a156_0 (r_ : Nat × Int) : List (Ex × St) := [(Ex.ret, (⟨[(4, (vi r_.2))], [], 0, []⟩ : St)), ((Ex.exit 0), (⟨[(4, V.dead)], [], 0, []⟩ : St))]
def s156_0 : SS := ⟨[(0, (.one (.inl t_impl_Timer))), (1, (.one (.int .i64))), (5, (.one (.int .i64)))], [], 0, []⟩
noncomputable def l156_0 : LE := le1 2 s156_0 (fun st => spec_l7find_l2 ((((((sv st 0).L).length : Nat) : Int) - ((sv st 2).I)).toNat + 1) ((sv st 0).L) ((sv st 1).I) ((sv st 2).I)) a156_0
noncomputable def L156 : Loops := ⟨fun k => (look [(2, [0, 1, 5])] k).getD [], fun _ => [], fun k => (look [(2, [4])] k).getD [], runL [l156_0], []⟩
theorem t156_0 (k_ : Nat) : ∀ (l0 : List V) (id1 : Int) (i5 : Int), Agr id (pk1 a156_0) (spec_l7find_l2 k_ l0 id1 i5) (rounds c156 L156 (lpB Tryz.f156 0) k_ (s156_0.mk' (stv [V.inl 0 l0, vi id1, vi i5] []))) := by
  induction k_ with
  | zero => exact fun _ _ _ => g0
  | succ k_ ih => exact fun _ _ _ => gA (g1 (g1 (g1 g4 (ih _ _ _)) g0) g4) (by kernel_rfl)
theorem o156 : LoopsOk c156 L156 (bodyOf Tryz.f156) := GoodAll.ok (l := [l156_0]) (.cons 0 (by kernel_rfl) (gd1 (fun st => (((((sv st 0).L).length : Nat) : Int) - ((sv st 2).I)).toNat + 1) (fun st => t156_0 _ _ _ _) fun st => by kernel_rfl) (.nil)) rfl
noncomputable def e156 : En Tryz.prog tab := enP base [] false [] Tryz.func156 (L := L156) o156 [(.one (.inl t_impl_Timer)), (.one (.int .i64))] (fun a => spec_l7find ((rd a 0).L) ((rd a 1).I)) (fun r_ : Int => ((vi r_), [])) [] [] [some t_impl_Timer, none] false (by kernel_rfl) fun _ => gA (g2 fun _ => g1 g4 g4) (by kernel_rfl)
noncomputable def c153 : Cfg := cfgOf (P := Tryz.prog) (tab := tab) [e168, e156] false []
def a153_0 (r_ : Nat × Bool) : List (Ex × St) := [(Ex.ret, (⟨[(2, (V.bool r_.2))], [], 0, []⟩ : St)), ((Ex.exit 0), (⟨[(2, V.dead)], [], 0, []⟩ : St))]
def s153_0 : SS := ⟨[(1, (.one (.bp 0 0))), (3, (.one (.int .i64)))], [(.box t_impl_Wheel [(.int .i64), (.inl t_impl_Timer)])], 1, []⟩
noncomputable def l153_0 : LE := le1 4 s153_0 (fun st => spec_WheelOk_l4 (((((gl (bc st 0) 1).length : Nat) : Int) - ((sv st 1).I)).toNat + 1) ((sv st 1).I) (bc st 0)) a153_0
noncomputable def L153 : Loops := ⟨fun k => (look [(4, [1, 3])] k).getD [], fun _ => [], fun k => (look [(4, [2])] k).getD [], runL [l153_0], []⟩
set_option maxRecDepth 100000 in
theorem t153_0 (k_ : Nat) : ∀ (i3 : Int) (b0 : V), Agr id (pk1 a153_0) (spec_WheelOk_l4 k_ i3 b0) (rounds c153 L153 (lpB Tryz.f153 0) k_ (s153_0.mk' (stv [.dead, vi i3] [bx b0]))) := by
  induction k_ with
  | zero => exact fun _ _ => g0
  | succ k_ ih => exact fun _ _ => gA (g1 (g1 (g1 g4 (g1 g4 (g1 g4 (g1 g4 (g1 (g1 (g1 g4 (g1 (g2 fun _ => g1 g4 (ih _ _)) g0)) g0) (g1 (g2 fun _ => g1 g4 (ih _ _)) g0)))))) g0) g4) (by kernel_rfl)
theorem o153 : LoopsOk c153 L153 (bodyOf Tryz.f153) := GoodAll.ok (l := [l153_0]) (.cons 0 (by kernel_rfl) (gd1 (fun st => ((((gl (bc st 0) 1).length : Nat) : Int) - ((sv st 1).I)).toNat + 1) (fun st => t153_0 _ _ _) fun st => by kernel_rfl) (.nil)) rfl
noncomputable def e153 : En Tryz.prog tab := enP base [e168, e156] false [] Tryz.func153 (L := L153) o153 [(.agg [(.int .i64), (.inl t_impl_Timer)])] (fun a => spec_WheelOk (rd a 0)) (fun r_ : Bool => ((V.bool r_), [])) [] [] [none] false (by kernel_rfl) fun _ => gA (g1 g4 (g1 g4 (g1 g4 (g2 fun _ => g1 g4 g4)))) (by kernel_rfl)
noncomputable def c96 : Cfg := cfgOf (P := Tryz.prog) (tab := tab) [e153] false []
def a96_0 (r_ : Nat × Bool) : List (Ex × St) := [(Ex.ret, (⟨[(2, (V.bool r_.2))], [], 0, []⟩ : St)), ((Ex.exit 0), (⟨[(2, V.dead)], [], 0, []⟩ : St))]
def s96_0 : SS := ⟨[(1, (.one (.bp 0 0))), (3, (.one (.int .i64)))], [(.box t_impl_Duty q10)], 1, []⟩
noncomputable def l96_0 : LE := le1 4 s96_0 (fun st => spec_DutyOk_l4 (((((gl (bc st 0) 2).length : Nat) : Int) - ((sv st 1).I)).toNat + 1) ((sv st 1).I) (bc st 0)) a96_0
noncomputable def L96 : Loops := ⟨fun k => (look [(4, [1, 3])] k).getD [], fun _ => [], fun k => (look [(4, [2])] k).getD [], runL [l96_0], []⟩
theorem t96_0 (k_ : Nat) : ∀ (i3 : Int) (b0 : V), Agr id (pk1 a96_0) (spec_DutyOk_l4 k_ i3 b0) (rounds c96 L96 (lpB Tryz.f96 0) k_ (s96_0.mk' (stv [.dead, vi i3] [bx b0]))) := by
  induction k_ with
  | zero => exact fun _ _ => g0
  | succ k_ ih => exact fun _ _ => gA (g1 (g1 (g1 g4 (ih _ _)) g0) g4) (by kernel_rfl)
theorem o96 : LoopsOk c96 L96 (bodyOf Tryz.f96) := GoodAll.ok (l := [l96_0]) (.cons 0 (by kernel_rfl) (gd1 (fun st => ((((gl (bc st 0) 2).length : Nat) : Int) - ((sv st 1).I)).toNat + 1) (fun st => t96_0 _ _ _) fun st => by kernel_rfl) (.nil)) rfl
set_option maxRecDepth 100000 in
noncomputable def e96 : En Tryz.prog tab := enP base [e153] false [] Tryz.func96 (L := L96) o96 [(.agg q10)] (fun a => spec_DutyOk (rd a 0)) (fun r_ : Bool => ((V.bool r_), [])) [] [] [none] false (by kernel_rfl) fun _ => gA (g1 g4 (g1 g4 (g2 fun _ => g1 g4 (g1 g4 (g2 fun _ => g1 g4 g4))))) (by kernel_rfl)
noncomputable def e114 : En Tryz.prog tab := enT base [] false [] Tryz.func114 noLo [(.one (.int .i64))] (fun a => spec_l2index ((rd a 0).I)) (fun r_ : Bool => ((V.bool r_), [])) [] [] [none] false (by kernel_rfl) fun _ => gT (g5 g7 g7) (by kernel_rfl)
noncomputable def c115 : Cfg := cfgOf (P := Tryz.prog) (tab := tab) [] false []
def a115_0 (r_ : Nat × Bool) : List (Ex × St) := [(Ex.ret, (⟨[(2, (V.bool r_.2))], [], 0, []⟩ : St)), ((Ex.exit 0), (⟨[(2, V.dead)], [], 0, []⟩ : St))]
def s115_0 : SS := ⟨[(0, (.one (.inl t_byte))), (3, (.one (.int .i64)))], [], 0, []⟩
noncomputable def l115_0 : LE := le1 4 s115_0 (fun st => spec_l2key_l4 ((((((sv st 0).L).length : Nat) : Int) - ((sv st 1).I)).toNat + 1) ((sv st 0).L) ((sv st 1).I)) a115_0
noncomputable def L115 : Loops := ⟨fun k => (look [(4, [0, 3])] k).getD [], fun _ => [], fun k => (look [(4, [2])] k).getD [], runL [l115_0], []⟩
set_option maxRecDepth 100000 in
theorem t115_0 (k_ : Nat) : ∀ (b0 : List V) (i3 : Int), Agr id (pk1 a115_0) (spec_l2key_l4 k_ b0 i3) (rounds c115 L115 (lpB Tryz.f115 0) k_ (s115_0.mk' (stv [V.inl 0 b0, vi i3] []))) := by
  induction k_ with
  | zero => exact fun _ _ => g0
  | succ k_ ih => exact fun _ _ => gA (g1 (g1 (g1 (g1 (g1 g4 (ih _ _)) g0) (g1 (g1 (g1 (g1 g4 (ih _ _)) g0) (ih _ _)) g0)) g0) g4) (by kernel_rfl)
theorem o115 : LoopsOk c115 L115 (bodyOf Tryz.f115) := GoodAll.ok (l := [l115_0]) (.cons 0 (by kernel_rfl) (gd1 (fun st => (((((sv st 0).L).length : Nat) : Int) - ((sv st 1).I)).toNat + 1) (fun st => t115_0 _ _ _) fun st => by kernel_rfl) (.nil)) rfl
noncomputable def e115 : En Tryz.prog tab := enP base [] false [] Tryz.func115 (L := L115) o115 [(.one (.inl t_byte))] (fun a => spec_l2key ((rd a 0).L)) (fun r_ : Bool => ((V.bool r_), [])) [] [] [some t_byte] false (by kernel_rfl) fun _ => gA (g1 g4 (g1 g4 (g2 fun _ => g1 g4 g4))) (by kernel_rfl)
noncomputable def e116 : En Tryz.prog tab := enT base [] false [] Tryz.func116 noLo [(.one (.inl t_byte))] (fun a => spec_l2val ((rd a 0).L)) (fun r_ : Bool => ((V.bool r_), [])) [] [] [some t_byte] false (by kernel_rfl) fun _ => gT g7 (by kernel_rfl)
noncomputable def c117 : Cfg := cfgOf (P := Tryz.prog) (tab := tab) [] false []
def a117_0 (r_ : Nat × Int) : List (Ex × St) := [(Ex.ret, (⟨[(4, (vi r_.2))], [], 0, []⟩ : St)), ((Ex.exit 0), (⟨[(4, V.dead)], [], 0, []⟩ : St))]
def s117_0 : SS := ⟨[(1, (.one (.int .i64))), (2, (.one (.bp 0 0))), (5, (.one (.int .i64)))], [(.box t_impl_State q11)], 1, []⟩
noncomputable def l117_0 : LE := le1 2 s117_0 (fun st => spec_l2sess_l2 (((((gl (bc st 0) 4).length : Nat) : Int) - ((sv st 2).I)).toNat + 1) ((sv st 0).I) ((sv st 2).I) (bc st 0)) a117_0
noncomputable def L117 : Loops := ⟨fun k => (look [(2, [1, 2, 5])] k).getD [], fun _ => [], fun k => (look [(2, [4])] k).getD [], runL [l117_0], []⟩
theorem t117_0 (k_ : Nat) : ∀ (id1 : Int) (i5 : Int) (b0 : V), Agr id (pk1 a117_0) (spec_l2sess_l2 k_ id1 i5 b0) (rounds c117 L117 (lpB Tryz.f117 0) k_ (s117_0.mk' (stv [vi id1, .dead, vi i5] [bx b0]))) := by
  induction k_ with
  | zero => exact fun _ _ _ => g0
  | succ k_ ih => exact fun _ _ _ => gA (g1 (g1 (g1 g4 (ih _ _ _)) g0) g4) (by kernel_rfl)
theorem o117 : LoopsOk c117 L117 (bodyOf Tryz.f117) := GoodAll.ok (l := [l117_0]) (.cons 0 (by kernel_rfl) (gd1 (fun st => ((((gl (bc st 0) 4).length : Nat) : Int) - ((sv st 2).I)).toNat + 1) (fun st => t117_0 _ _ _ _) fun st => by kernel_rfl) (.nil)) rfl
noncomputable def e117 : En Tryz.prog tab := enP base [] false [] Tryz.func117 (L := L117) o117 [(.agg q11), (.one (.int .i64))] (fun a => spec_l2sess (rd a 0) ((rd a 1).I)) (fun r_ : Int => ((vi r_), [])) [] [] [none, none] false (by kernel_rfl) fun _ => gA (g2 fun _ => g1 g4 g4) (by kernel_rfl)
noncomputable def c118 : Cfg := cfgOf (P := Tryz.prog) (tab := tab) [] false []
def a118_0 (r_ : Nat × Int) : List (Ex × St) := [(Ex.ret, (⟨[(4, (vi r_.2))], [], 0, []⟩ : St)), ((Ex.exit 0), (⟨[(4, V.dead)], [], 0, []⟩ : St))]
def s118_0 : SS := ⟨[(1, (.one (.inl t_byte))), (2, (.one (.bp 0 0))), (5, (.one (.int .i64)))], [(.box t_impl_State q11)], 1, []⟩
noncomputable def l118_0 : LE := le1 2 s118_0 (fun st => spec_l2row_l2 (((((gl (bc st 0) 1).length : Nat) : Int) - ((sv st 2).I)).toNat + 1) ((sv st 0).L) ((sv st 2).I) (bc st 0)) a118_0
noncomputable def L118 : Loops := ⟨fun k => (look [(2, [1, 2, 5])] k).getD [], fun _ => [], fun k => (look [(2, [4])] k).getD [], runL [l118_0], []⟩
theorem t118_0 (k_ : Nat) : ∀ (key1 : List V) (i5 : Int) (b0 : V), Agr id (pk1 a118_0) (spec_l2row_l2 k_ key1 i5 b0) (rounds c118 L118 (lpB Tryz.f118 0) k_ (s118_0.mk' (stv [V.inl 0 key1, .dead, vi i5] [bx b0]))) := by
  induction k_ with
  | zero => exact fun _ _ _ => g0
  | succ k_ ih => exact fun _ _ _ => gA (g1 (g1 (g1 g4 (ih _ _ _)) g0) g4) (by kernel_rfl)
theorem o118 : LoopsOk c118 L118 (bodyOf Tryz.f118) := GoodAll.ok (l := [l118_0]) (.cons 0 (by kernel_rfl) (gd1 (fun st => ((((gl (bc st 0) 1).length : Nat) : Int) - ((sv st 2).I)).toNat + 1) (fun st => t118_0 _ _ _ _) fun st => by kernel_rfl) (.nil)) rfl
noncomputable def e118 : En Tryz.prog tab := enP base [] false [] Tryz.func118 (L := L118) o118 [(.agg q11), (.one (.inl t_byte))] (fun a => spec_l2row (rd a 0) ((rd a 1).L)) (fun r_ : Int => ((vi r_), [])) [] [] [none, some t_byte] false (by kernel_rfl) fun _ => gA (g2 fun _ => g1 g4 g4) (by kernel_rfl)
noncomputable def c119 : Cfg := cfgOf (P := Tryz.prog) (tab := tab) [] false []
def a119_0 (r_ : Nat × Int) : List (Ex × St) := [(Ex.ret, (⟨[(4, (vi r_.2))], [], 0, []⟩ : St)), ((Ex.exit 0), (⟨[(4, V.dead)], [], 0, []⟩ : St))]
def s119_0 : SS := ⟨[(1, (.one (.inl t_byte))), (2, (.one (.bp 0 0))), (5, (.one (.int .i64)))], [(.box t_impl_State q11)], 1, []⟩
noncomputable def l119_0 : LE := le1 2 s119_0 (fun st => spec_l2tomb_l2 (((((gl (bc st 0) 2).length : Nat) : Int) - ((sv st 2).I)).toNat + 1) ((sv st 0).L) ((sv st 2).I) (bc st 0)) a119_0
noncomputable def L119 : Loops := ⟨fun k => (look [(2, [1, 2, 5])] k).getD [], fun _ => [], fun k => (look [(2, [4])] k).getD [], runL [l119_0], []⟩
theorem t119_0 (k_ : Nat) : ∀ (key1 : List V) (i5 : Int) (b0 : V), Agr id (pk1 a119_0) (spec_l2tomb_l2 k_ key1 i5 b0) (rounds c119 L119 (lpB Tryz.f119 0) k_ (s119_0.mk' (stv [V.inl 0 key1, .dead, vi i5] [bx b0]))) := by
  induction k_ with
  | zero => exact fun _ _ _ => g0
  | succ k_ ih => exact fun _ _ _ => gA (g1 (g1 (g1 g4 (ih _ _ _)) g0) g4) (by kernel_rfl)
theorem o119 : LoopsOk c119 L119 (bodyOf Tryz.f119) := GoodAll.ok (l := [l119_0]) (.cons 0 (by kernel_rfl) (gd1 (fun st => ((((gl (bc st 0) 2).length : Nat) : Int) - ((sv st 2).I)).toNat + 1) (fun st => t119_0 _ _ _ _) fun st => by kernel_rfl) (.nil)) rfl
noncomputable def e119 : En Tryz.prog tab := enP base [] false [] Tryz.func119 (L := L119) o119 [(.agg q11), (.one (.inl t_byte))] (fun a => spec_l2tomb (rd a 0) ((rd a 1).L)) (fun r_ : Int => ((vi r_), [])) [] [] [none, some t_byte] false (by kernel_rfl) fun _ => gA (g2 fun _ => g1 g4 g4) (by kernel_rfl)
noncomputable def c53 : Cfg := cfgOf (P := Tryz.prog) (tab := tab) [e114, e115, e116, e117, e118, e119] false []
def a53_0 (r_ : Nat × Bool × V) : List (Ex × St) := [(Ex.ret, (⟨[(1, (V.bp 0 0)), (2, (V.bool r_.2.1))], [(0, some (Blk.box t_impl_State (l12 r_.2.2)))], 1, []⟩ : St)), ((Ex.exit 0), (⟨[(1, (V.bp 0 0)), (2, V.dead)], [(0, some (Blk.box t_impl_State (l12 r_.2.2)))], 1, []⟩ : St))]
def s53_0 : SS := ⟨[(1, (.one (.bp 0 0))), (3, (.one (.int .i64)))], [(.box t_impl_State q11)], 1, []⟩
noncomputable def l53_0 : LE := le1 4 s53_0 (fun st => spec_StateOk_l4 (((((gl (bc st 0) 1).length : Nat) : Int) - ((sv st 1).I)).toNat + 1) ((sv st 1).I) (bc st 0)) a53_0
def a53_1 (r_ : Nat × Bool × V) : List (Ex × St) := [(Ex.ret, (⟨[(1, (V.bp 0 0)), (2, (V.bool r_.2.1))], [(0, some (Blk.box t_impl_State (l12 r_.2.2)))], 1, []⟩ : St)), ((Ex.exit 2), (⟨[(1, (V.bp 0 0)), (2, V.dead)], [(0, some (Blk.box t_impl_State (l12 r_.2.2)))], 1, []⟩ : St))]
def s53_1 : SS := ⟨[(1, (.one (.bp 0 0))), (5, (.one (.int .i64)))], [(.box t_impl_State q11)], 1, []⟩
noncomputable def l53_1 : LE := le1 10 s53_1 (fun st => spec_StateOk_l10 (((((gl (bc st 0) 2).length : Nat) : Int) - ((sv st 1).I)).toNat + 1) ((sv st 1).I) (bc st 0)) a53_1
def a53_2 (r_ : Nat × Bool × V) : List (Ex × St) := [(Ex.ret, (⟨[(1, (V.bp 0 0)), (2, (V.bool r_.2.1))], [(0, some (Blk.box t_impl_State (l12 r_.2.2)))], 1, []⟩ : St)), ((Ex.exit 4), (⟨[(1, (V.bp 0 0)), (2, V.dead)], [(0, some (Blk.box t_impl_State (l12 r_.2.2)))], 1, []⟩ : St))]
def s53_2 : SS := ⟨[(1, (.one (.bp 0 0))), (7, (.one (.int .i64)))], [(.box t_impl_State q11)], 1, []⟩
noncomputable def l53_2 : LE := le1 16 s53_2 (fun st => spec_StateOk_l16 (((((gl (bc st 0) 4).length : Nat) : Int) - ((sv st 1).I)).toNat + 1) ((sv st 1).I) (bc st 0)) a53_2
def a53_3 (r_ : Nat × Bool) : List (Ex × St) := [(Ex.ret, (⟨[(2, (V.bool r_.2))], [], 0, []⟩ : St)), ((Ex.exit 6), (⟨[(2, V.dead)], [], 0, []⟩ : St))]
def s53_3 : SS := ⟨[(1, (.one (.bp 0 0))), (8, (.one (.int .i64)))], [(.box t_impl_State q11)], 1, []⟩
noncomputable def l53_3 : LE := le1 21 s53_3 (fun st => spec_StateOk_l21 (((((gl (bc st 0) 5).length : Nat) : Int) - ((sv st 1).I)).toNat + 1) ((sv st 1).I) (bc st 0)) a53_3
noncomputable def L53 : Loops := ⟨fun k => (look [(4, [1, 3]), (10, [1, 5]), (16, [1, 7]), (21, [1, 8])] k).getD [], fun _ => [], fun k => (look [(4, [1, 2]), (10, [1, 2]), (16, [1, 2]), (21, [2])] k).getD [], runL [l53_0, l53_1, l53_2, l53_3], []⟩
set_option maxRecDepth 100000 in
theorem t53_0 (k_ : Nat) : ∀ (i3 : Int) (b0 : V), Agr id (pk1 a53_0) (spec_StateOk_l4 k_ i3 b0) (rounds c53 L53 (lpB Tryz.f53 0) k_ (s53_0.mk' (stv [.dead, vi i3] [bx b0]))) := by
  induction k_ with
  | zero => exact fun _ _ => g0
  | succ k_ ih => exact fun _ _ => gA (g1 (g1 (g2 fun _ => g1 g4 (g1 g4 (g1 g4 (g1 g4 (g1 (g2 fun _ => g1 g4 (g1 (g1 (g1 g4 (ih _ _)) g0) (ih _ _))) (g1 (g1 (g1 g4 (ih _ _)) g0) (ih _ _))))))) g0) g4) (by kernel_rfl)
set_option maxRecDepth 100000 in
theorem t53_1 (k_ : Nat) : ∀ (i5 : Int) (b0 : V), Agr id (pk1 a53_1) (spec_StateOk_l10 k_ i5 b0) (rounds c53 L53 (lpB Tryz.f53 1) k_ (s53_1.mk' (stv [.dead, vi i5] [bx b0]))) := by
  induction k_ with
  | zero => exact fun _ _ => g0
  | succ k_ ih => exact fun _ _ => gA (g1 (g1 (g2 fun _ => g1 g4 (g2 fun _ => g1 g4 (g2 fun _ => g1 g4 (g1 g4 (g1 g4 (g1 g4 (g1 (g1 (g1 g4 (ih _ _)) g0) (ih _ _)))))))) g0) g4) (by kernel_rfl)
set_option maxRecDepth 100000 in
theorem t53_2 (k_ : Nat) : ∀ (i7 : Int) (b0 : V), Agr id (pk1 a53_2) (spec_StateOk_l16 k_ i7 b0) (rounds c53 L53 (lpB Tryz.f53 2) k_ (s53_2.mk' (stv [.dead, vi i7] [bx b0]))) := by
  induction k_ with
  | zero => exact fun _ _ => g0
  | succ k_ ih => exact fun _ _ => gA (g1 (g1 (g1 g4 (g1 (g1 g4 (g1 (g1 (g1 (g1 g4 (ih _ _)) g0) g0) (ih _ _))) g0)) g0) g4) (by kernel_rfl)
set_option maxRecDepth 100000 in
theorem t53_3 (k_ : Nat) : ∀ (i8 : Int) (b0 : V), Agr id (pk1 a53_3) (spec_StateOk_l21 k_ i8 b0) (rounds c53 L53 (lpB Tryz.f53 3) k_ (s53_3.mk' (stv [.dead, vi i8] [bx b0]))) := by
  induction k_ with
  | zero => exact fun _ _ => g0
  | succ k_ ih => exact fun _ _ => gA (g1 (g1 (g1 g4 (g1 g4 (g1 g4 (g1 g4 (g1 g4 (g1 g4 (g1 g4 (g1 g4 (g1 (g1 (g1 g4 (ih _ _)) g0) (ih _ _)))))))))) g0) g4) (by kernel_rfl)
theorem o53 : LoopsOk c53 L53 (bodyOf Tryz.f53) := GoodAll.ok (l := [l53_0, l53_1, l53_2, l53_3]) (.cons 0 (by kernel_rfl) (gd1 (fun st => ((((gl (bc st 0) 1).length : Nat) : Int) - ((sv st 1).I)).toNat + 1) (fun st => t53_0 _ _ _) fun st => by kernel_rfl) (.cons 1 (by kernel_rfl) (gd1 (fun st => ((((gl (bc st 0) 2).length : Nat) : Int) - ((sv st 1).I)).toNat + 1) (fun st => t53_1 _ _ _) fun st => by kernel_rfl) (.cons 2 (by kernel_rfl) (gd1 (fun st => ((((gl (bc st 0) 4).length : Nat) : Int) - ((sv st 1).I)).toNat + 1) (fun st => t53_2 _ _ _) fun st => by kernel_rfl) (.cons 3 (by kernel_rfl) (gd1 (fun st => ((((gl (bc st 0) 5).length : Nat) : Int) - ((sv st 1).I)).toNat + 1) (fun st => t53_3 _ _ _) fun st => by kernel_rfl) (.nil))))) rfl
set_option maxRecDepth 100000 in
noncomputable def e53 : En Tryz.prog tab := enP base [e114, e115, e116, e117, e118, e119] false [] Tryz.func53 (L := L53) o53 [(.agg q11)] (fun a => spec_StateOk (rd a 0)) (fun r_ : Bool => ((V.bool r_), [])) [] [] [none] false (by kernel_rfl) fun _ => gA (g1 g4 (g1 g4 (g1 g4 (g1 g4 (g1 g4 (g1 g4 (g1 g4 (g2 fun _ => g1 g4 (g2 fun _ => g1 g4 (g2 fun _ => g1 g4 (g2 fun _ => g1 g4 g4))))))))))) (by kernel_rfl)
noncomputable def e154 : En Tryz.prog tab := enP base [] false [] Tryz.func154 noLo [(.agg [(.int .i64), (.inl t_impl_Timer)])] (fun a => spec_l7own (rd a 0)) (fun r_ : V => ((h3 r_), [])) [[.dead, (.rr t_impl_Timer true)]] [] [none] false (by kernel_rfl) fun _ => gA (g1 g4 g0) (by kernel_rfl)
noncomputable def e97 : En Tryz.prog tab := enP base [e154] false [] Tryz.func97 noLo [(.agg q10)] (fun a => spec_l15own (rd a 0)) (fun r_ : V => ((h4 r_), [])) [[.dead, .dead, (.rr t_impl_Timer true)]] [] [none] false (by kernel_rfl) fun _ => gA (g2 fun _ => g4) (by kernel_rfl)
noncomputable def e155 : En Tryz.prog tab := enP base [e156] false [] Tryz.func155 noLo [(.ro t_impl_Duty 1 q13), (.one (.int .i64))] (fun a => spec_l7stop ((rd a 0).unbox) ((rd a 1).I)) (fun r_ : Bool × V => ((V.bool r_.1), [(V.rf t_impl_Duty (l14 r_.2))])) [] [[.dead, .dead, (.rr t_impl_Timer true)]] [none, none] false (by kernel_rfl) fun _ => gA (g2 fun _ => g1 g4 (g1 (g1 (g1 (g1 g4 g0) g0) g0) g0)) (by kernel_rfl)
noncomputable def c107 : Cfg := cfgOf (P := Tryz.prog) (tab := tab) [e156, e155, e168] false []
def a107_0 (r_ : Int × V × V × List V) : List (Ex × St) := [((Ex.exit 0), (⟨[(0, (V.bp 0 1)), (7, (V.bp 1 0)), (8, (vi r_.1))], [(0, some (Blk.box t_impl_Duty (l15 r_.2.1))), (1, some (Blk.box t_impl_Timer (l16 r_.2.2.1))), (2, some (Blk.row t_impl_Timer true r_.2.2.2))], 3, [0]⟩ : St))]
def s107_0 : SS := ⟨[(0, (.one (.bp 0 1))), (7, (.one (.bp 1 0))), (8, (.one (.int .i64)))], [(.box t_impl_Duty q17), (.box t_impl_Timer [(.int .i64), (.int .i64)]), (.row t_impl_Timer true)], 3, [0]⟩
noncomputable def l107_0 : LE := le0 6 s107_0 (fun st => spec_l7set_l6 (((((br st 2).length : Nat) : Int) - ((sv st 2).I)).toNat + 1) ((sv st 2).I) (bc st 0) (bc st 1) (br st 2)) a107_0
noncomputable def L107 : Loops := ⟨fun k => (look [(6, [0, 7, 8])] k).getD [], fun _ => [], fun k => (look [(6, [0, 7, 8])] k).getD [], runL [l107_0], []⟩
theorem t107_0 (k_ : Nat) : ∀ (i8 : Int) (b0 : V) (b1 : V) (r2 : List V), Agr id (pk0 a107_0) (spec_l7set_l6 k_ i8 b0 b1 r2) (rounds c107 L107 (lpB Tryz.f107 0) k_ (s107_0.mk' (stv [.dead, .dead, vi i8] [bx b0, bx b1, rb r2]))) := by
  induction k_ with
  | zero => exact fun _ _ _ _ => g0
  | succ k_ ih => exact fun _ _ _ _ => gA (g1 (g1 (g1 (ih _ _ _ _) g4) g0) g4) (by kernel_rfl)
theorem o107 : LoopsOk c107 L107 (bodyOf Tryz.f107) := GoodAll.ok (l := [l107_0]) (.cons 0 (by kernel_rfl) (gd0 (fun st => ((((br st 2).length : Nat) : Int) - ((sv st 2).I)).toNat + 1) (fun st => t107_0 _ _ _ _ _) fun st => by kernel_rfl) (.nil)) rfl
set_option maxRecDepth 100000 in
noncomputable def e107 : En Tryz.prog tab := enP base [e156, e155, e168] false [] Tryz.func107 (L := L107) o107 [(.ro t_impl_Duty 1 q13), (.one (.int .i64)), (.one (.int .i64))] (fun a => spec_l7set ((rd a 0).unbox) ((rd a 1).I) ((rd a 2).I)) (fun r_ : Bool × V => ((V.bool r_.1), [(V.rf t_impl_Duty (l14 r_.2))])) [] [[.dead, .dead, (.rr t_impl_Timer true)]] [none, none, none] false (by kernel_rfl) fun _ => gA (g1 g4 (g1 g4 (g1 g4 (g1 g4 (g2 fun _ => g1 (g1 g4 (g2 fun _ => g2 fun _ => g1 (g1 (g1 (g1 (g1 g4 g0) g0) g0) g0) g0)) (g2 fun _ => g2 fun _ => g1 (g1 (g1 (g1 (g1 g4 g0) g0) g0) g0) g0)))))) (by kernel_rfl)
noncomputable def c98 : Cfg := cfgOf (P := Tryz.prog) (tab := tab) [e117, e155, e156, e107] false []
def a98_0 (r_ : Bool × V × V × List V) : List (Ex × St) := [((Ex.exit 0), (⟨[(0, (V.bp 0 0)), (3, (V.bp 1 0)), (5, (V.bool r_.1))], [(0, some (Blk.box t_impl_Duty (l15 r_.2.1))), (1, some (Blk.box t_impl_State (l12 r_.2.2.1))), (2, some (Blk.row t_impl_Timer true r_.2.2.2))], 3, [0]⟩ : St))]
def s98_0 : SS := ⟨[(0, (.one (.bp 0 0))), (3, (.one (.bp 1 0))), (5, (.one .bool)), (6, (.one (.int .i64)))], [(.box t_impl_Duty q17), (.box t_impl_State q11), (.row t_impl_Timer true)], 3, [0]⟩
noncomputable def l98_0 : LE := le0 3 s98_0 (fun st => spec_l15sync_l3 (((((br st 2).length : Nat) : Int) - ((sv st 3).I)).toNat + 1) ((sv st 2).B) ((sv st 3).I) (bc st 0) (bc st 1) (br st 2)) a98_0
def a98_1 (r_ : Bool × V × List V) : List (Ex × St) := [((Ex.exit 2), (⟨[(5, (V.bool r_.1))], [(0, some (Blk.box t_impl_Duty (l18 r_.2.1))), (1, some (Blk.row t_impl_Timer true r_.2.2))], 2, [0]⟩ : St))]
def s98_1 : SS := ⟨[(0, (.one (.bp 0 0))), (3, (.one (.bp 1 0))), (5, (.one .bool)), (7, (.one (.int .i64)))], [(.box t_impl_Duty q17), (.box t_impl_State q11), (.row t_impl_Timer true)], 3, [0]⟩
noncomputable def l98_1 : LE := le0 10 s98_1 (fun st => spec_l15sync_l10 (((((gl (bc st 1) 4).length : Nat) : Int) - ((sv st 3).I)).toNat + 1) ((sv st 2).B) ((sv st 3).I) (bc st 0) (bc st 1) (br st 2)) a98_1
noncomputable def L98 : Loops := ⟨fun k => (look [(3, [0, 3, 5, 6]), (10, [0, 3, 5, 7])] k).getD [], fun _ => [], fun k => (look [(3, [0, 3, 5]), (10, [5])] k).getD [], runL [l98_0, l98_1], []⟩
theorem t98_0 (k_ : Nat) : ∀ (any5 : Bool) (i6 : Int) (b0 : V) (b1 : V) (r2 : List V), Agr id (pk0 a98_0) (spec_l15sync_l3 k_ any5 i6 b0 b1 r2) (rounds c98 L98 (lpB Tryz.f98 0) k_ (s98_0.mk' (stv [.dead, .dead, V.bool any5, vi i6] [bx b0, bx b1, rb r2]))) := by
  induction k_ with
  | zero => exact fun _ _ _ _ _ => g0
  | succ k_ ih => exact fun _ _ _ _ _ => gA (g1 (g1 (g2 fun _ => g1 (g1 (g2 fun _ => ih _ _ _ _ _) g0) (ih _ _ _ _ _)) g0) g4) (by kernel_rfl)
theorem t98_1 (k_ : Nat) : ∀ (any5 : Bool) (i7 : Int) (b0 : V) (b1 : V) (r2 : List V), Agr id (pk0 a98_1) (spec_l15sync_l10 k_ any5 i7 b0 b1 r2) (rounds c98 L98 (lpB Tryz.f98 1) k_ (s98_1.mk' (stv [.dead, .dead, V.bool any5, vi i7] [bx b0, bx b1, rb r2]))) := by
  induction k_ with
  | zero => exact fun _ _ _ _ _ => g0
  | succ k_ ih => exact fun _ _ _ _ _ => gA (g1 (g1 (g2 fun _ => g1 (g1 (g2 fun _ => ih _ _ _ _ _) g0) (ih _ _ _ _ _)) g0) g4) (by kernel_rfl)
theorem o98 : LoopsOk c98 L98 (bodyOf Tryz.f98) := GoodAll.ok (l := [l98_0, l98_1]) (.cons 0 (by kernel_rfl) (gd0 (fun st => ((((br st 2).length : Nat) : Int) - ((sv st 3).I)).toNat + 1) (fun st => t98_0 _ _ _ _ _ _) fun st => by kernel_rfl) (.cons 1 (by kernel_rfl) (gd0 (fun st => ((((gl (bc st 1) 4).length : Nat) : Int) - ((sv st 3).I)).toNat + 1) (fun st => t98_1 _ _ _ _ _ _) fun st => by kernel_rfl) (.nil))) rfl
noncomputable def e98 : En Tryz.prog tab := enP base [e117, e155, e156, e107] false [] Tryz.func98 (L := L98) o98 [(.rf t_impl_Duty q13), (.agg q11)] (fun a => spec_l15sync ((rd a 0).unbox) (rd a 1)) (fun r_ : Bool × V => ((V.bool r_.1), [(V.rf t_impl_Duty (l14 r_.2))])) [] [[.dead, .dead, (.rr t_impl_Timer true)]] [none, none] false (by kernel_rfl) fun _ => gA (g2 fun _ => g2 fun _ => g4) (by kernel_rfl)
noncomputable def e37 : En Tryz.prog tab := enP base [e96, e53, e97, e98] false [] Tryz.func37 noLo [(.agg q10), (.agg q11)] (fun a => spec_DutySync (rd a 0) (rd a 1)) (fun r_ : V × Bool => ((V.tup [(h4 r_.1), (V.bool r_.2)]), [])) [[.dead, .dead, (.rr t_impl_Timer true)]] [] [none, none] false (by kernel_rfl) fun _ => gA (g2 fun _ => g1 g4 (g2 fun _ => g1 g4 (g2 fun _ => g2 fun _ => g4))) (by kernel_rfl)
noncomputable def e92 : En Tryz.prog tab := enT base [] false [] Tryz.func92 noLo [(.one (.int .i64)), (.one (.int .i64)), (.one (.int .i64))] (fun a => impl_within ((rd a 0).I) ((rd a 1).I) ((rd a 2).I)) (fun r_ : Bool => ((V.bool r_), [])) [] [] [none, none, none] false (by kernel_rfl) fun _ => gT (g5 g7 g7) (by kernel_rfl)
noncomputable def e194 : En Tryz.prog tab := enT base [e92] false [] Tryz.func194 noLo [(.one (.int .i64))] (fun a => impl_isId ((rd a 0).I)) (fun r_ : Bool => ((V.bool r_), [])) [] [] [none] false (by kernel_rfl) fun _ => gT g7 (by kernel_rfl)
noncomputable def e197 : En Tryz.prog tab := enT base [] false [] Tryz.func197 noLo [(.agg [(.int .i64), (.int .i64)]), (.ep [(.int .i64)] 0)] (fun a => impl_Wheel_timer_1 (rd a 0) ((rd a 1).unbox)) (fun r_ : Bool => ((V.bool r_), [])) [] [] [none] false (by kernel_rfl) fun _ => gT g7 (by kernel_rfl)
noncomputable def c195 : Cfg := cfgOf (P := Tryz.prog) (tab := tab) [e197] false []
def a195_0 (r_ : Nat × Int) : List (Ex × St) := [(Ex.ret, (⟨[(4, (vi r_.2))], [], 0, []⟩ : St)), ((Ex.exit 0), (⟨[(4, V.dead)], [], 0, []⟩ : St))]
def s195_0 : SS := ⟨[(0, (.one (.inl t_impl_Timer))), (1, (.fn 197 [[(.int .i64)]])), (7, (.one (.int .i64))), (8, (.one (.int .i64)))], [], 0, []⟩
noncomputable def l195_0 : LE := le1 2 s195_0 (fun st => slices_IndexFunc_Timer_l2 ((((sv st 2).I) - ((sv st 3).I)).toNat + 1) ((sv st 0).L) ((rd (sv st 1).caps 0).unbox) ((sv st 2).I) ((sv st 3).I)) a195_0
noncomputable def L195 : Loops := ⟨fun k => (look [(2, [0, 1, 7, 8])] k).getD [], fun _ => [], fun k => (look [(2, [4])] k).getD [], runL [l195_0], []⟩
theorem t195_0 (k_ : Nat) : ∀ (s0 : List V) (f1_0 : V) (v7 : Int) (v8 : Int), Agr id (pk1 a195_0) (slices_IndexFunc_Timer_l2 k_ s0 f1_0 v7 v8) (rounds c195 L195 (lpB Tryz.f195 0) k_ (s195_0.mk' (stv [V.inl 0 s0, V.fn 0 [.ep (V.cells f1_0) 0], vi v7, vi v8] []))) := by
  induction k_ with
  | zero => exact fun _ _ _ _ => g0
  | succ k_ ih => exact fun _ _ _ _ => gA (g1 (g1 (g1 g4 (ih _ _ _ _)) g0) g4) (by kernel_rfl)
theorem o195 : LoopsOk c195 L195 (bodyOf Tryz.f195) := GoodAll.ok (l := [l195_0]) (.cons 0 (by kernel_rfl) (gd1 (fun st => (((sv st 2).I) - ((sv st 3).I)).toNat + 1) (fun st => t195_0 _ _ _ _ _) fun st => by kernel_rfl) (.nil)) rfl
noncomputable def e195 : En Tryz.prog tab := enP base [e197] false [] Tryz.func195 (L := L195) o195 [(.one (.inl t_impl_Timer)), (.fn 197 [[(.int .i64)]])] (fun a => slices_IndexFunc_Timer ((rd a 0).L) ((rd (rd a 1).caps 0).unbox)) (fun r_ : Int => ((vi r_), [])) [] [] [some t_impl_Timer, none] false (by kernel_rfl) fun _ => gA (g2 fun _ => g1 g4 g4) (by kernel_rfl)
noncomputable def e164 : En Tryz.prog tab := enP base [e195] false [] Tryz.func164 noLo [(.agg [(.int .i64), (.inl t_impl_Timer)]), (.one (.int .i64))] (fun a => impl_Wheel_timer (rd a 0) ((rd a 1).I)) (fun r_ : Int => ((vi r_), [])) [] [] [none, none] false (by kernel_rfl) fun _ => gA (g2 fun _ => g4) (by kernel_rfl)
noncomputable def e219 : En Tryz.prog tab := enT base [] false [] Tryz.func219 noLo [(.one (.int .i64))] (fun a => cmp_isNaN_int ((rd a 0).I)) (fun r_ : Bool => ((V.bool r_), [])) [] [] [none] false (by kernel_rfl) fun _ => gT g7 (by kernel_rfl)
noncomputable def e203 : En Tryz.prog tab := enT base [e219] false [] Tryz.func203 noLo [(.one (.int .i64)), (.one (.int .i64))] (fun a => cmp_Compare_int ((rd a 0).I) ((rd a 1).I)) (fun r_ : Int => ((vi r_), [])) [] [] [none, none] false (by kernel_rfl) fun _ => gT (g5 (g5 g7 g7) (g5 g7 (g5 g7 (g5 g7 g7)))) (by kernel_rfl)
noncomputable def c202 : Cfg := cfgOf (P := Tryz.prog) (tab := tab) [] false []
def a202_0 (r_ : Nat × Int × Int) : List (Ex × St) := [(Ex.ret, (⟨[(2, (vi r_.2.1)), (3, (vi r_.2.2))], [], 0, []⟩ : St)), ((Ex.exit 0), (⟨[(2, V.dead), (3, (vi r_.2.2))], [], 0, []⟩ : St))]
def s202_0 : SS := ⟨[(3, (.one (.int .i64))), (6, (.one (.inl t_int'))), (7, (.one (.int .i64))), (8, (.one (.int .i64)))], [], 0, []⟩
noncomputable def l202_0 : LE := le1 3 s202_0 (fun st => cmp_Or_int_l3 ((((sv st 2).I) - ((sv st 3).I)).toNat + 1) ((sv st 0).I) ((sv st 1).L) ((sv st 2).I) ((sv st 3).I)) a202_0
noncomputable def L202 : Loops := ⟨fun k => (look [(3, [3, 6, 7, 8])] k).getD [], fun _ => [], fun k => (look [(3, [2, 3])] k).getD [], runL [l202_0], []⟩
theorem t202_0 (k_ : Nat) : ∀ (zero3 : Int) (v6 : List V) (v7 : Int) (v8 : Int), Agr id (pk1 a202_0) (cmp_Or_int_l3 k_ zero3 v6 v7 v8) (rounds c202 L202 (lpB Tryz.f202 0) k_ (s202_0.mk' (stv [vi zero3, V.inl 0 v6, vi v7, vi v8] []))) := by
  induction k_ with
  | zero => exact fun _ _ _ _ => g0
  | succ k_ ih => exact fun _ _ _ _ => gA (g1 (g1 (g1 g4 (ih _ _ _ _)) g0) g4) (by kernel_rfl)
theorem o202 : LoopsOk c202 L202 (bodyOf Tryz.f202) := GoodAll.ok (l := [l202_0]) (.cons 0 (by kernel_rfl) (gd1 (fun st => (((sv st 2).I) - ((sv st 3).I)).toNat + 1) (fun st => t202_0 _ _ _ _ _) fun st => by kernel_rfl) (.nil)) rfl
noncomputable def e202 : En Tryz.prog tab := enP base [] false [] Tryz.func202 (L := L202) o202 [(.one (.inl t_int'))] (fun a => cmp_Or_int ((rd a 0).L)) (fun r_ : Int => ((vi r_), [])) [] [] [some t_int'] false (by kernel_rfl) fun _ => gA (g2 fun _ => g1 g4 g4) (by kernel_rfl)
noncomputable def e171 : En Tryz.prog tab := enP base [e203, e202] false [] Tryz.func171 noLo [(.agg [(.int .i64), (.int .i64)]), (.agg [(.int .i64), (.int .i64)])] (fun a => impl_compareTimers (rd a 0) (rd a 1)) (fun r_ : Int => ((vi r_), [])) [] [] [none, none] false (by kernel_rfl) fun _ => gA (g2 fun _ => g4) (by kernel_rfl)
noncomputable def c158 : Cfg := cfgOf (P := Tryz.prog) (tab := tab) [e92, e194, e164, e171] false []
def a158_0 (r_ : Nat × Bool) : List (Ex × St) := [(Ex.ret, (⟨[(2, (V.bool r_.2))], [], 0, []⟩ : St)), ((Ex.exit 0), (⟨[(2, V.dead)], [], 0, []⟩ : St))]
def s158_0 : SS := ⟨[(1, (.one (.bp 0 0))), (16, (.one (.inl t_impl_Timer))), (17, (.one (.int .i64))), (18, (.one (.int .i64)))], [(.box t_impl_Wheel [(.int .i64), (.inl t_impl_Timer)])], 1, []⟩
noncomputable def l158_0 : LE := le1 4 s158_0 (fun st => impl_WheelOk_l4 ((((sv st 2).I) - ((sv st 3).I)).toNat + 1) ((sv st 1).L) ((sv st 2).I) ((sv st 3).I) (bc st 0)) a158_0
noncomputable def L158 : Loops := ⟨fun k => (look [(4, [1, 16, 17, 18])] k).getD [], fun _ => [], fun k => (look [(4, [2])] k).getD [], runL [l158_0], []⟩
set_option maxRecDepth 100000 in
theorem t158_0 (k_ : Nat) : ∀ (v16 : List V) (v17 : Int) (v18 : Int) (b0 : V), Agr id (pk1 a158_0) (impl_WheelOk_l4 k_ v16 v17 v18 b0) (rounds c158 L158 (lpB Tryz.f158 0) k_ (s158_0.mk' (stv [.dead, V.inl 0 v16, vi v17, vi v18] [bx b0]))) := by
  induction k_ with
  | zero => exact fun _ _ _ _ => g0
  | succ k_ ih => exact fun _ _ _ _ => gA (g1 (g1 (g1 g4 (g2 fun _ => g1 g4 (g1 g4 (g1 (g1 (g2 fun _ => g1 g4 (ih _ _ _ _)) g0) (ih _ _ _ _))))) g0) g4) (by kernel_rfl)
theorem o158 : LoopsOk c158 L158 (bodyOf Tryz.f158) := GoodAll.ok (l := [l158_0]) (.cons 0 (by kernel_rfl) (gd1 (fun st => (((sv st 2).I) - ((sv st 3).I)).toNat + 1) (fun st => t158_0 _ _ _ _ _) fun st => by kernel_rfl) (.nil)) rfl
noncomputable def e158 : En Tryz.prog tab := enP base [e92, e194, e164, e171] false [] Tryz.func158 (L := L158) o158 [(.agg [(.int .i64), (.inl t_impl_Timer)])] (fun a => impl_WheelOk (rd a 0)) (fun r_ : Bool => ((V.bool r_), [])) [] [] [none] false (by kernel_rfl) fun _ => gA (g1 g4 (g1 g4 (g2 fun _ => g1 g4 g4))) (by kernel_rfl)
noncomputable def e160 : En Tryz.prog tab := enT base [] false [] Tryz.func160 noLo [(.agg [(.int .i64), (.int .i64)]), (.ep q10 0)] (fun a => impl_DutyOk_1 (rd a 0) ((rd a 1).unbox)) (fun r_ : Bool => ((V.bool r_), [])) [] [] [none] false (by kernel_rfl) fun _ => gT g7 (by kernel_rfl)
noncomputable def c195v1 : Cfg := cfgOf (P := Tryz.prog) (tab := tab) [e160] false []
def a195v1_0 (r_ : Nat × Int) : List (Ex × St) := [(Ex.ret, (⟨[(4, (vi r_.2))], [], 0, []⟩ : St)), ((Ex.exit 0), (⟨[(4, V.dead)], [], 0, []⟩ : St))]
def s195v1_0 : SS := ⟨[(0, (.one (.inl t_impl_Timer))), (1, (.fn 160 [q10])), (7, (.one (.int .i64))), (8, (.one (.int .i64)))], [], 0, []⟩
noncomputable def l195v1_0 : LE := le1 2 s195v1_0 (fun st => slices_IndexFunc_Timer_v1_l2 ((((sv st 2).I) - ((sv st 3).I)).toNat + 1) ((sv st 0).L) ((rd (sv st 1).caps 0).unbox) ((sv st 2).I) ((sv st 3).I)) a195v1_0
noncomputable def L195v1 : Loops := ⟨fun k => (look [(2, [0, 1, 7, 8])] k).getD [], fun _ => [], fun k => (look [(2, [4])] k).getD [], runL [l195v1_0], []⟩
theorem t195v1_0 (k_ : Nat) : ∀ (s0 : List V) (f1_0 : V) (v7 : Int) (v8 : Int), Agr id (pk1 a195v1_0) (slices_IndexFunc_Timer_v1_l2 k_ s0 f1_0 v7 v8) (rounds c195v1 L195v1 (lpB Tryz.f195 0) k_ (s195v1_0.mk' (stv [V.inl 0 s0, V.fn 0 [.ep (V.cells f1_0) 0], vi v7, vi v8] []))) := by
  induction k_ with
  | zero => exact fun _ _ _ _ => g0
  | succ k_ ih => exact fun _ _ _ _ => gA (g1 (g1 (g1 g4 (ih _ _ _ _)) g0) g4) (by kernel_rfl)
theorem o195v1 : LoopsOk c195v1 L195v1 (bodyOf Tryz.f195) := GoodAll.ok (l := [l195v1_0]) (.cons 0 (by kernel_rfl) (gd1 (fun st => (((sv st 2).I) - ((sv st 3).I)).toNat + 1) (fun st => t195v1_0 _ _ _ _ _) fun st => by kernel_rfl) (.nil)) rfl
noncomputable def e195v1 : En Tryz.prog tab := enP base [e160] false [] Tryz.func195 (L := L195v1) o195v1 [(.one (.inl t_impl_Timer)), (.fn 160 [q10])] (fun a => slices_IndexFunc_Timer_v1 ((rd a 0).L) ((rd (rd a 1).caps 0).unbox)) (fun r_ : Int => ((vi r_), [])) [] [] [some t_impl_Timer, none] false (by kernel_rfl) fun _ => gA (g2 fun _ => g1 g4 g4) (by kernel_rfl)
noncomputable def e159 : En Tryz.prog tab := enP base [e195v1] false [] Tryz.func159 noLo [(.one (.inl t_impl_Timer)), (.fn 160 [q10])] (fun a => slices_ContainsFunc_Timer ((rd a 0).L) ((rd (rd a 1).caps 0).unbox)) (fun r_ : Bool => ((V.bool r_), [])) [] [] [some t_impl_Timer, none] false (by kernel_rfl) fun _ => gA (g2 fun _ => g4) (by kernel_rfl)
noncomputable def e100 : En Tryz.prog tab := enP base [e92, e158, e159] false [] Tryz.func100 noLo [(.agg q10)] (fun a => impl_DutyOk (rd a 0)) (fun r_ : Bool => ((V.bool r_), [])) [] [] [none] false (by kernel_rfl) fun _ => gA (g1 g4 (g2 fun _ => g1 g4 (g1 g4 (g2 fun _ => g4)))) (by kernel_rfl)
noncomputable def c127 : Cfg := cfgOf (P := Tryz.prog) (tab := tab) [e92] false []
def a127_0 (r_ : Nat × List V × Bool) : List (Ex × St) := [(Ex.ret, (⟨[(0, (V.inl t_byte r_.2.1)), (2, (V.bool r_.2.2))], [], 0, []⟩ : St)), ((Ex.exit 0), (⟨[(0, (V.inl t_byte r_.2.1)), (2, V.dead)], [], 0, []⟩ : St))]
def s127_0 : SS := ⟨[(0, (.one (.inl t_byte))), (5, (.one (.inl t_byte))), (6, (.one (.int .i64))), (7, (.one (.int .i64)))], [], 0, []⟩
noncomputable def l127_0 : LE := le1 2 s127_0 (fun st => impl_KeyOk_l2 ((((sv st 2).I) - ((sv st 3).I)).toNat + 1) ((sv st 0).L) ((sv st 1).L) ((sv st 2).I) ((sv st 3).I)) a127_0
noncomputable def L127 : Loops := ⟨fun k => (look [(2, [0, 5, 6, 7])] k).getD [], fun _ => [], fun k => (look [(2, [0, 2])] k).getD [], runL [l127_0], []⟩
set_option maxRecDepth 100000 in
theorem t127_0 (k_ : Nat) : ∀ (b0 : List V) (v5 : List V) (v6 : Int) (v7 : Int), Agr id (pk1 a127_0) (impl_KeyOk_l2 k_ b0 v5 v6 v7) (rounds c127 L127 (lpB Tryz.f127 0) k_ (s127_0.mk' (stv [V.inl 0 b0, V.inl 0 v5, vi v6, vi v7] []))) := by
  induction k_ with
  | zero => exact fun _ _ _ _ => g0
  | succ k_ ih => exact fun _ _ _ _ => gA (g1 (g1 (g1 (g1 g4 (ih _ _ _ _)) (g1 (g1 g4 (ih _ _ _ _)) (ih _ _ _ _))) g0) g4) (by kernel_rfl)
theorem o127 : LoopsOk c127 L127 (bodyOf Tryz.f127) := GoodAll.ok (l := [l127_0]) (.cons 0 (by kernel_rfl) (gd1 (fun st => (((sv st 2).I) - ((sv st 3).I)).toNat + 1) (fun st => t127_0 _ _ _ _ _) fun st => by kernel_rfl) (.nil)) rfl
noncomputable def e127 : En Tryz.prog tab := enP base [e92] false [] Tryz.func127 (L := L127) o127 [(.one (.inl t_byte))] (fun a => impl_KeyOk ((rd a 0).L)) (fun r_ : Bool => ((V.bool r_), [])) [] [] [some t_byte] false (by kernel_rfl) fun _ => gA (g2 fun _ => g1 g4 g4) (by kernel_rfl)
noncomputable def e128 : En Tryz.prog tab := enT base [] false [] Tryz.func128 noLo [(.one (.inl t_byte))] (fun a => impl_isValue ((rd a 0).L)) (fun r_ : Bool => ((V.bool r_), [])) [] [] [some t_byte] false (by kernel_rfl) fun _ => gT g7 (by kernel_rfl)
noncomputable def e177 : En Tryz.prog tab := enT base [] false [] Tryz.func177 noLo [(.agg [(.int .i64), .bool]), (.ep [(.int .i64)] 0)] (fun a => impl_State_session_1 (rd a 0) ((rd a 1).unbox)) (fun r_ : Bool => ((V.bool r_), [])) [] [] [none] false (by kernel_rfl) fun _ => gT g7 (by kernel_rfl)
noncomputable def c176 : Cfg := cfgOf (P := Tryz.prog) (tab := tab) [e177] false []
def a176_0 (r_ : Nat × Int) : List (Ex × St) := [(Ex.ret, (⟨[(4, (vi r_.2))], [], 0, []⟩ : St)), ((Ex.exit 0), (⟨[(4, V.dead)], [], 0, []⟩ : St))]
def s176_0 : SS := ⟨[(0, (.one (.inl t_impl_Session))), (1, (.fn 177 [[(.int .i64)]])), (7, (.one (.int .i64))), (8, (.one (.int .i64)))], [], 0, []⟩
noncomputable def l176_0 : LE := le1 2 s176_0 (fun st => slices_IndexFunc_Session_l2 ((((sv st 2).I) - ((sv st 3).I)).toNat + 1) ((sv st 0).L) ((rd (sv st 1).caps 0).unbox) ((sv st 2).I) ((sv st 3).I)) a176_0
noncomputable def L176 : Loops := ⟨fun k => (look [(2, [0, 1, 7, 8])] k).getD [], fun _ => [], fun k => (look [(2, [4])] k).getD [], runL [l176_0], []⟩
theorem t176_0 (k_ : Nat) : ∀ (s0 : List V) (f1_0 : V) (v7 : Int) (v8 : Int), Agr id (pk1 a176_0) (slices_IndexFunc_Session_l2 k_ s0 f1_0 v7 v8) (rounds c176 L176 (lpB Tryz.f176 0) k_ (s176_0.mk' (stv [V.inl 0 s0, V.fn 0 [.ep (V.cells f1_0) 0], vi v7, vi v8] []))) := by
  induction k_ with
  | zero => exact fun _ _ _ _ => g0
  | succ k_ ih => exact fun _ _ _ _ => gA (g1 (g1 (g1 g4 (ih _ _ _ _)) g0) g4) (by kernel_rfl)
theorem o176 : LoopsOk c176 L176 (bodyOf Tryz.f176) := GoodAll.ok (l := [l176_0]) (.cons 0 (by kernel_rfl) (gd1 (fun st => (((sv st 2).I) - ((sv st 3).I)).toNat + 1) (fun st => t176_0 _ _ _ _ _) fun st => by kernel_rfl) (.nil)) rfl
noncomputable def e176 : En Tryz.prog tab := enP base [e177] false [] Tryz.func176 (L := L176) o176 [(.one (.inl t_impl_Session)), (.fn 177 [[(.int .i64)]])] (fun a => slices_IndexFunc_Session ((rd a 0).L) ((rd (rd a 1).caps 0).unbox)) (fun r_ : Int => ((vi r_), [])) [] [] [some t_impl_Session, none] false (by kernel_rfl) fun _ => gA (g2 fun _ => g1 g4 g4) (by kernel_rfl)
noncomputable def e129 : En Tryz.prog tab := enP base [e176] false [] Tryz.func129 noLo [(.agg q11), (.one (.int .i64))] (fun a => impl_State_session (rd a 0) ((rd a 1).I)) (fun r_ : Int => ((vi r_), [])) [] [] [none, none] false (by kernel_rfl) fun _ => gA (g2 fun _ => g4) (by kernel_rfl)
noncomputable def e130 : En Tryz.prog tab := enCmp base Tryz.func130 (by kernel_rfl) t_byte rfl rfl rfl cmp130 [some t_byte, some t_byte]
noncomputable def e180 : En Tryz.prog tab := enT base [e130] false [] Tryz.func180 noLo [(.agg q1), (.one (.inl t_byte))] (fun a => impl_State_row_1 (rd a 0) ((rd a 1).L)) (fun r_ : Int => ((vi r_), [])) [] [] [none, some t_byte] false (by kernel_rfl) fun _ => gT g7 (by kernel_rfl)
noncomputable def c179 : Cfg := cfgOf (P := Tryz.prog) (tab := tab) [e180] false []
def a179_0 (r_ : List V × List V × Int × Int) : List (Ex × St) := [((Ex.exit 0), (⟨[(0, (V.inl t_impl_Row r_.1)), (1, (V.inl t_byte r_.2.1)), (2, (V.fn 180 [])), (8, (vi r_.2.2.1)), (9, (vi r_.2.2.2))], [], 0, []⟩ : St))]
def s179_0 : SS := ⟨[(0, (.one (.inl t_impl_Row))), (1, (.one (.inl t_byte))), (2, (.fn 180 [])), (8, (.one (.int .i64))), (9, (.one (.int .i64))), (10, (.one (.int .i64)))], [], 0, []⟩
noncomputable def l179_0 : LE := le0 3 s179_0 (fun st => slices_BinarySearchFunc_byte_l3 ((((sv st 5).I) - ((sv st 4).I)).toNat + 1) ((sv st 0).L) ((sv st 1).L) ((sv st 3).I) ((sv st 4).I) ((sv st 5).I)) a179_0
noncomputable def L179 : Loops := ⟨fun k => (look [(3, [0, 1, 2, 8, 9, 10])] k).getD [], fun _ => [], fun k => (look [(3, [0, 1, 2, 8, 9])] k).getD [], runL [l179_0], []⟩
theorem t179_0 (k_ : Nat) : ∀ (x0 : List V) (target1 : List V) (n8 : Int) (i9 : Int) (j10 : Int), Agr id (pk0 a179_0) (slices_BinarySearchFunc_byte_l3 k_ x0 target1 n8 i9 j10) (rounds c179 L179 (lpB Tryz.f179 0) k_ (s179_0.mk' (stv [V.inl 0 x0, V.inl 0 target1, V.fn 0 [], vi n8, vi i9, vi j10] []))) := by
  induction k_ with
  | zero => exact fun _ _ _ _ _ => g0
  | succ k_ ih => exact fun _ _ _ _ _ => gA (g1 (g1 (g1 (ih _ _ _ _ _) (ih _ _ _ _ _)) g0) g4) (by kernel_rfl)
theorem o179 : LoopsOk c179 L179 (bodyOf Tryz.f179) := GoodAll.ok (l := [l179_0]) (.cons 0 (by kernel_rfl) (gd0 (fun st => (((sv st 5).I) - ((sv st 4).I)).toNat + 1) (fun st => t179_0 _ _ _ _ _ _) fun st => by kernel_rfl) (.nil)) rfl
noncomputable def e179 : En Tryz.prog tab := enP base [e180] false [] Tryz.func179 (L := L179) o179 [(.one (.inl t_impl_Row)), (.one (.inl t_byte)), (.fn 180 [])] (fun a => slices_BinarySearchFunc_byte ((rd a 0).L) ((rd a 1).L)) (fun r_ : Int × Bool => ((V.tup [(vi r_.1), (V.bool r_.2)]), [])) [] [] [some t_impl_Row, some t_byte, none] false (by kernel_rfl) fun _ => gA (g2 fun _ => g1 (g1 g4 g0) g4) (by kernel_rfl)
end Go.Eng.R
open Go Go.Eng Go.Proofs
namespace Go.Eng.R
noncomputable def e131 : En Tryz.prog tab := enP base [e179] false [] Tryz.func131 noLo [(.agg q11), (.one (.inl t_byte))] (fun a => impl_State_row (rd a 0) ((rd a 1).L)) (fun r_ : Int × Bool => ((V.tup [(vi r_.1), (V.bool r_.2)]), [])) [] [] [none, some t_byte] false (by kernel_rfl) fun _ => gA (g2 fun _ => g4) (by kernel_rfl)
noncomputable def e183 : En Tryz.prog tab := enT base [] false [] Tryz.func183 noLo [(.one (.inl t_byte)), (.one (.inl t_byte))] (fun a => bytes_Equal ((rd a 0).L) ((rd a 1).L)) (fun r_ : Bool => ((V.bool r_), [])) [] [] [some t_byte, some t_byte] false (by kernel_rfl) fun _ => gT g7 (by kernel_rfl)
noncomputable def e182 : En Tryz.prog tab := enT base [e183] false [] Tryz.func182 noLo [(.agg [(.inl t_byte), (.int .i64)]), (.ep [(.inl t_byte)] 0)] (fun a => impl_State_tomb_1 (rd a 0) ((rd a 1).unbox)) (fun r_ : Bool => ((V.bool r_), [])) [] [] [none] false (by kernel_rfl) fun _ => gT g7 (by kernel_rfl)
noncomputable def c181 : Cfg := cfgOf (P := Tryz.prog) (tab := tab) [e182] false []
def a181_0 (r_ : Nat × Int) : List (Ex × St) := [(Ex.ret, (⟨[(4, (vi r_.2))], [], 0, []⟩ : St)), ((Ex.exit 0), (⟨[(4, V.dead)], [], 0, []⟩ : St))]
def s181_0 : SS := ⟨[(0, (.one (.inl t_impl_Tomb))), (1, (.fn 182 [[(.inl t_byte)]])), (7, (.one (.int .i64))), (8, (.one (.int .i64)))], [], 0, []⟩
noncomputable def l181_0 : LE := le1 2 s181_0 (fun st => slices_IndexFunc_Tomb_l2 ((((sv st 2).I) - ((sv st 3).I)).toNat + 1) ((sv st 0).L) ((rd (sv st 1).caps 0).unbox) ((sv st 2).I) ((sv st 3).I)) a181_0
noncomputable def L181 : Loops := ⟨fun k => (look [(2, [0, 1, 7, 8])] k).getD [], fun _ => [], fun k => (look [(2, [4])] k).getD [], runL [l181_0], []⟩
theorem t181_0 (k_ : Nat) : ∀ (s0 : List V) (f1_0 : V) (v7 : Int) (v8 : Int), Agr id (pk1 a181_0) (slices_IndexFunc_Tomb_l2 k_ s0 f1_0 v7 v8) (rounds c181 L181 (lpB Tryz.f181 0) k_ (s181_0.mk' (stv [V.inl 0 s0, V.fn 0 [.ep (V.cells f1_0) 0], vi v7, vi v8] []))) := by
  induction k_ with
  | zero => exact fun _ _ _ _ => g0
  | succ k_ ih => exact fun _ _ _ _ => gA (g1 (g1 (g1 g4 (ih _ _ _ _)) g0) g4) (by kernel_rfl)
theorem o181 : LoopsOk c181 L181 (bodyOf Tryz.f181) := GoodAll.ok (l := [l181_0]) (.cons 0 (by kernel_rfl) (gd1 (fun st => (((sv st 2).I) - ((sv st 3).I)).toNat + 1) (fun st => t181_0 _ _ _ _ _) fun st => by kernel_rfl) (.nil)) rfl
noncomputable def e181 : En Tryz.prog tab := enP base [e182] false [] Tryz.func181 (L := L181) o181 [(.one (.inl t_impl_Tomb)), (.fn 182 [[(.inl t_byte)]])] (fun a => slices_IndexFunc_Tomb ((rd a 0).L) ((rd (rd a 1).caps 0).unbox)) (fun r_ : Int => ((vi r_), [])) [] [] [some t_impl_Tomb, none] false (by kernel_rfl) fun _ => gA (g2 fun _ => g1 g4 g4) (by kernel_rfl)
noncomputable def e132 : En Tryz.prog tab := enP base [e181] false [] Tryz.func132 noLo [(.agg q11), (.one (.inl t_byte))] (fun a => impl_State_tomb (rd a 0) ((rd a 1).L)) (fun r_ : Int => ((vi r_), [])) [] [] [none, some t_byte] false (by kernel_rfl) fun _ => gA (g2 fun _ => g4) (by kernel_rfl)
noncomputable def c62 : Cfg := cfgOf (P := Tryz.prog) (tab := tab) [e92, e127, e128, e129, e130, e131, e132] false []
def a62_0 (r_ : Nat × Bool × V) : List (Ex × St) := [(Ex.ret, (⟨[(1, (V.bp 0 0)), (2, (V.bool r_.2.1))], [(0, some (Blk.box t_impl_State (l12 r_.2.2)))], 1, []⟩ : St)), ((Ex.exit 0), (⟨[(1, (V.bp 0 0)), (2, V.dead)], [(0, some (Blk.box t_impl_State (l12 r_.2.2)))], 1, []⟩ : St))]
def s62_0 : SS := ⟨[(1, (.one (.bp 0 0))), (51, (.one (.inl t_impl_Row))), (52, (.one (.int .i64))), (53, (.one (.int .i64)))], [(.box t_impl_State q11)], 1, []⟩
noncomputable def l62_0 : LE := le1 4 s62_0 (fun st => impl_StateOk_l4 ((((sv st 2).I) - ((sv st 3).I)).toNat + 1) ((sv st 1).L) ((sv st 2).I) ((sv st 3).I) (bc st 0)) a62_0
def a62_1 (r_ : Nat × Bool × V) : List (Ex × St) := [(Ex.ret, (⟨[(1, (V.bp 0 0)), (2, (V.bool r_.2.1))], [(0, some (Blk.box t_impl_State (l12 r_.2.2)))], 1, []⟩ : St)), ((Ex.exit 2), (⟨[(1, (V.bp 0 0)), (2, V.dead)], [(0, some (Blk.box t_impl_State (l12 r_.2.2)))], 1, []⟩ : St))]
def s62_1 : SS := ⟨[(1, (.one (.bp 0 0))), (5, (.one (.int .i64))), (110, (.one (.inl t_impl_Tomb))), (111, (.one (.int .i64))), (112, (.one (.int .i64)))], [(.box t_impl_State q11)], 1, []⟩
noncomputable def l62_1 : LE := le1 11 s62_1 (fun st => impl_StateOk_l11 ((((sv st 3).I) - ((sv st 4).I)).toNat + 1) ((sv st 1).I) ((sv st 2).L) ((sv st 3).I) ((sv st 4).I) (bc st 0)) a62_1
def a62_2 (r_ : Nat × Bool × V) : List (Ex × St) := [(Ex.ret, (⟨[(1, (V.bp 0 0)), (2, (V.bool r_.2.1))], [(0, some (Blk.box t_impl_State (l12 r_.2.2)))], 1, []⟩ : St)), ((Ex.exit 4), (⟨[(1, (V.bp 0 0)), (2, V.dead)], [(0, some (Blk.box t_impl_State (l12 r_.2.2)))], 1, []⟩ : St))]
def s62_2 : SS := ⟨[(1, (.one (.bp 0 0))), (152, (.one (.inl t_impl_Session))), (153, (.one (.int .i64))), (154, (.one (.int .i64)))], [(.box t_impl_State q11)], 1, []⟩
noncomputable def l62_2 : LE := le1 19 s62_2 (fun st => impl_StateOk_l19 ((((sv st 2).I) - ((sv st 3).I)).toNat + 1) ((sv st 1).L) ((sv st 2).I) ((sv st 3).I) (bc st 0)) a62_2
def a62_3 (r_ : Nat × Bool) : List (Ex × St) := [(Ex.ret, (⟨[(2, (V.bool r_.2))], [], 0, []⟩ : St)), ((Ex.exit 6), (⟨[(2, V.dead)], [], 0, []⟩ : St))]
def s62_3 : SS := ⟨[(1, (.one (.bp 0 0))), (183, (.one (.inl t_impl_Last))), (184, (.one (.int .i64))), (185, (.one (.int .i64)))], [(.box t_impl_State q11)], 1, []⟩
noncomputable def l62_3 : LE := le1 25 s62_3 (fun st => impl_StateOk_l25 ((((sv st 2).I) - ((sv st 3).I)).toNat + 1) ((sv st 1).L) ((sv st 2).I) ((sv st 3).I) (bc st 0)) a62_3
noncomputable def L62 : Loops := ⟨fun k => (look [(4, [1, 51, 52, 53]), (11, [1, 5, 110, 111, 112]), (19, [1, 152, 153, 154]), (25, [1, 183, 184, 185])] k).getD [], fun _ => [], fun k => (look [(4, [1, 2]), (11, [1, 2]), (19, [1, 2]), (25, [2])] k).getD [], runL [l62_0, l62_1, l62_2, l62_3], []⟩
set_option maxRecDepth 100000 in
theorem t62_0 (k_ : Nat) : ∀ (v51 : List V) (v52 : Int) (v53 : Int) (b0 : V), Agr id (pk1 a62_0) (impl_StateOk_l4 k_ v51 v52 v53 b0) (rounds c62 L62 (lpB Tryz.f62 0) k_ (s62_0.mk' (stv [.dead, V.inl 0 v51, vi v52, vi v53] [bx b0]))) := by
  induction k_ with
  | zero => exact fun _ _ _ _ => g0
  | succ k_ ih => exact fun _ _ _ _ => gA (g1 (g1 (g2 fun _ => g1 g4 (g1 g4 (g1 g4 (g1 (g2 fun _ => g1 g4 (g1 (g1 (g1 g4 (ih _ _ _ _)) g0) (ih _ _ _ _))) (g1 (g1 (g1 g4 (ih _ _ _ _)) g0) (ih _ _ _ _)))))) g0) g4) (by kernel_rfl)
set_option maxRecDepth 100000 in
theorem t62_1 (k_ : Nat) : ∀ (before5 : Int) (v110 : List V) (v111 : Int) (v112 : Int) (b0 : V), Agr id (pk1 a62_1) (impl_StateOk_l11 k_ before5 v110 v111 v112 b0) (rounds c62 L62 (lpB Tryz.f62 1) k_ (s62_1.mk' (stv [.dead, vi before5, V.inl 0 v110, vi v111, vi v112] [bx b0]))) := by
  induction k_ with
  | zero => exact fun _ _ _ _ _ => g0
  | succ k_ ih => exact fun _ _ _ _ _ => gA (g1 (g1 (g2 fun _ => g1 g4 (g2 fun _ => g1 g4 (g2 fun _ => g1 g4 (g1 g4 (ih _ _ _ _ _))))) g0) g4) (by kernel_rfl)
set_option maxRecDepth 100000 in
theorem t62_2 (k_ : Nat) : ∀ (v152 : List V) (v153 : Int) (v154 : Int) (b0 : V), Agr id (pk1 a62_2) (impl_StateOk_l19 k_ v152 v153 v154 b0) (rounds c62 L62 (lpB Tryz.f62 2) k_ (s62_2.mk' (stv [.dead, V.inl 0 v152, vi v153, vi v154] [bx b0]))) := by
  induction k_ with
  | zero => exact fun _ _ _ _ => g0
  | succ k_ ih => exact fun _ _ _ _ => gA (g1 (g1 (g1 g4 (g1 (g1 (g1 g4 (ih _ _ _ _)) g0) (ih _ _ _ _))) g0) g4) (by kernel_rfl)
set_option maxRecDepth 100000 in
theorem t62_3 (k_ : Nat) : ∀ (v183 : List V) (v184 : Int) (v185 : Int) (b0 : V), Agr id (pk1 a62_3) (impl_StateOk_l25 k_ v183 v184 v185 b0) (rounds c62 L62 (lpB Tryz.f62 3) k_ (s62_3.mk' (stv [.dead, V.inl 0 v183, vi v184, vi v185] [bx b0]))) := by
  induction k_ with
  | zero => exact fun _ _ _ _ => g0
  | succ k_ ih => exact fun _ _ _ _ => gA (g1 (g1 (g1 g4 (g1 g4 (g1 g4 (g1 g4 (g1 (g1 (g1 g4 (ih _ _ _ _)) g0) (ih _ _ _ _)))))) g0) g4) (by kernel_rfl)
theorem o62 : LoopsOk c62 L62 (bodyOf Tryz.f62) := GoodAll.ok (l := [l62_0, l62_1, l62_2, l62_3]) (.cons 0 (by kernel_rfl) (gd1 (fun st => (((sv st 2).I) - ((sv st 3).I)).toNat + 1) (fun st => t62_0 _ _ _ _ _) fun st => by kernel_rfl) (.cons 1 (by kernel_rfl) (gd1 (fun st => (((sv st 3).I) - ((sv st 4).I)).toNat + 1) (fun st => t62_1 _ _ _ _ _ _) fun st => by kernel_rfl) (.cons 2 (by kernel_rfl) (gd1 (fun st => (((sv st 2).I) - ((sv st 3).I)).toNat + 1) (fun st => t62_2 _ _ _ _ _) fun st => by kernel_rfl) (.cons 3 (by kernel_rfl) (gd1 (fun st => (((sv st 2).I) - ((sv st 3).I)).toNat + 1) (fun st => t62_3 _ _ _ _ _) fun st => by kernel_rfl) (.nil))))) rfl
set_option maxRecDepth 100000 in
noncomputable def e62 : En Tryz.prog tab := enP base [e92, e127, e128, e129, e130, e131, e132] false [] Tryz.func62 (L := L62) o62 [(.agg q11)] (fun a => impl_StateOk (rd a 0)) (fun r_ : Bool => ((V.bool r_), [])) [] [] [none] false (by kernel_rfl) fun _ => gA (g1 g4 (g1 g4 (g1 g4 (g1 g4 (g1 g4 (g1 g4 (g2 fun _ => g1 g4 (g2 fun _ => g1 g4 (g2 fun _ => g1 g4 (g2 fun _ => g1 g4 g4)))))))))) (by kernel_rfl)
noncomputable def e196 : En Tryz.prog tab := enN base [] false [] Tryz.func196 noLo t_impl_Timer slices_Clone_Timer (fun r_ : List V => ((V.rr t_impl_Timer true r_), [])) [[(.rr t_impl_Timer true)]] [] [some t_impl_Timer] false (by kernel_rfl) (fun _ => gA (g1 g4 g0) (by kernel_rfl)) (by
  have h : evalW (wkF [[(.rr t_impl_Timer true)]] []) (cfgOf (P := Tryz.prog) (tab := tab) [] false []) noL Tryz.f196 [V.nl t_impl_Timer] = (some (wkF [[(.rr t_impl_Timer true)]] [] ((V.nil t_impl_Timer), []))) := by kernel_rfl
  rw [h, slices_Clone_Timer]
  clear h
  intro r h; revert h; simp only [List.length_nil]; intro h; first | (cases h; kernel_rfl) | (revert h; simp [roomy]; intro h; subst h; kernel_rfl))
noncomputable def e161 : En Tryz.prog tab := enP base [e196] false [] Tryz.func161 noLo [(.agg [(.int .i64), (.inl t_impl_Timer)])] (fun a => impl_Wheel_own (rd a 0)) (fun r_ : V => ((h3 r_), [])) [[.dead, (.rr t_impl_Timer true)]] [] [none] false (by kernel_rfl) fun _ => gA (g2 fun _ => g4) (by kernel_rfl)
noncomputable def e101 : En Tryz.prog tab := enP base [e161] false [] Tryz.func101 noLo [(.agg q10)] (fun a => impl_Duty_own (rd a 0)) (fun r_ : V => ((h4 r_), [])) [[.dead, .dead, (.rr t_impl_Timer true)]] [] [none] false (by kernel_rfl) fun _ => gA (g2 fun _ => g4) (by kernel_rfl)
noncomputable def e163 : En Tryz.prog tab := enP base [e129] false [] Tryz.func163 noLo [(.agg [(.int .i64), (.int .i64)]), (.ep q11 0)] (fun a => impl_Duty_sync_1 (rd a 0) ((rd a 1).unbox)) (fun r_ : Bool => ((V.bool r_), [])) [] [] [none] false (by kernel_rfl) fun _ => gA (g2 fun _ => g4) (by kernel_rfl)
noncomputable def c195v2 : Cfg := cfgOf (P := Tryz.prog) (tab := tab) [e163] false []
def a195v2_0 (r_ : Nat × Int) : List (Ex × St) := [(Ex.ret, (⟨[(4, (vi r_.2))], [], 0, []⟩ : St)), ((Ex.exit 0), (⟨[(4, V.dead)], [], 0, []⟩ : St))]
def s195v2_0 : SS := ⟨[(0, (.one (.inl t_impl_Timer))), (1, (.fn 163 [q11])), (7, (.one (.int .i64))), (8, (.one (.int .i64)))], [], 0, []⟩
noncomputable def l195v2_0 : LE := le1 2 s195v2_0 (fun st => slices_IndexFunc_Timer_v2_l2 ((((sv st 2).I) - ((sv st 3).I)).toNat + 1) ((sv st 0).L) ((rd (sv st 1).caps 0).unbox) ((sv st 2).I) ((sv st 3).I)) a195v2_0
noncomputable def L195v2 : Loops := ⟨fun k => (look [(2, [0, 1, 7, 8])] k).getD [], fun _ => [], fun k => (look [(2, [4])] k).getD [], runL [l195v2_0], []⟩
theorem t195v2_0 (k_ : Nat) : ∀ (s0 : List V) (f1_0 : V) (v7 : Int) (v8 : Int), Agr id (pk1 a195v2_0) (slices_IndexFunc_Timer_v2_l2 k_ s0 f1_0 v7 v8) (rounds c195v2 L195v2 (lpB Tryz.f195 0) k_ (s195v2_0.mk' (stv [V.inl 0 s0, V.fn 0 [.ep (V.cells f1_0) 0], vi v7, vi v8] []))) := by
  induction k_ with
  | zero => exact fun _ _ _ _ => g0
  | succ k_ ih => exact fun _ _ _ _ => gA (g1 (g1 (g2 fun _ => g1 g4 (ih _ _ _ _)) g0) g4) (by kernel_rfl)
theorem o195v2 : LoopsOk c195v2 L195v2 (bodyOf Tryz.f195) := GoodAll.ok (l := [l195v2_0]) (.cons 0 (by kernel_rfl) (gd1 (fun st => (((sv st 2).I) - ((sv st 3).I)).toNat + 1) (fun st => t195v2_0 _ _ _ _ _) fun st => by kernel_rfl) (.nil)) rfl
noncomputable def e195v2 : En Tryz.prog tab := enP base [e163] false [] Tryz.func195 (L := L195v2) o195v2 [(.one (.inl t_impl_Timer)), (.fn 163 [q11])] (fun a => slices_IndexFunc_Timer_v2 ((rd a 0).L) ((rd (rd a 1).caps 0).unbox)) (fun r_ : Int => ((vi r_), [])) [] [] [some t_impl_Timer, none] false (by kernel_rfl) fun _ => gA (g2 fun _ => g1 g4 g4) (by kernel_rfl)
noncomputable def c162 : Cfg := cfgOf (P := Tryz.prog) (tab := tab) [e195v2, e163] false []
def a162_0 (r_ : Int × List V) : List (Ex × St) := [((Ex.exit 0), (⟨[(0, (vs 0 t_impl_Timer)), (5, (vi r_.1))], [(0, some (Blk.row t_impl_Timer true r_.2))], 1, [0]⟩ : St))]
def s162_0 : SS := ⟨[(0, (.one (.sl 0 t_impl_Timer))), (1, (.fn 163 [q11])), (5, (.one (.int .i64))), (6, (.one (.int .i64)))], [(.row t_impl_Timer true)], 1, [0]⟩
noncomputable def l162_0 : LE := le0 5 s162_0 (fun st => slices_DeleteFunc_Timer_l5 (((((br st 0).length : Nat) : Int) - ((sv st 3).I)).toNat + 1) ((rd (sv st 1).caps 0).unbox) ((sv st 2).I) ((sv st 3).I) (br st 0)) a162_0
noncomputable def L162 : Loops := ⟨fun k => (look [(5, [0, 1, 5, 6])] k).getD [], fun _ => [], fun k => (look [(5, [0, 5])] k).getD [], runL [l162_0], [4]⟩
theorem t162_0 (k_ : Nat) : ∀ (del1_0 : V) (i5 : Int) (j6 : Int) (r0 : List V), Agr id (pk0 a162_0) (slices_DeleteFunc_Timer_l5 k_ del1_0 i5 j6 r0) (rounds c162 L162 (lpB Tryz.f162 0) k_ (s162_0.mk' (stv [.dead, V.fn 0 [.ep (V.cells del1_0) 0], vi i5, vi j6] [rb r0]))) := by
  induction k_ with
  | zero => exact fun _ _ _ _ => g0
  | succ k_ ih => exact fun _ _ _ _ => gA (g1 (g1 (g2 fun _ => g1 (g1 (ih _ _ _ _) g0) (ih _ _ _ _)) g0) g4) (by kernel_rfl)
theorem o162 : LoopsOk c162 L162 (bodyOf Tryz.f162) := GoodAll.ok (l := [l162_0]) (.cons 0 (by kernel_rfl) (gd0 (fun st => ((((br st 0).length : Nat) : Int) - ((sv st 3).I)).toNat + 1) (fun st => t162_0 _ _ _ _ _) fun st => by kernel_rfl) (.nil)) rfl
noncomputable def e162 : En Tryz.prog tab := enP base [e195v2, e163] false [] Tryz.func162 (L := L162) o162 [(.one (.rr t_impl_Timer true)), (.fn 163 [q11])] (fun a => slices_DeleteFunc_Timer ((rd a 0).L) ((rd (rd a 1).caps 0).unbox)) (fun r_ : List V => ((V.rr t_impl_Timer true r_), [V.dead])) [[(.rr t_impl_Timer true)]] [] [some t_impl_Timer, none] true (by kernel_rfl) fun _ => gA (g2 fun _ => g1 g4 (g2 fun _ => g1 (g1 g4 g0) g0)) (by kernel_rfl)
noncomputable def e199 : En Tryz.prog tab := enDel base Tryz.func199 (by kernel_rfl) t_impl_Timer rfl true del199 delSame199 [some t_impl_Timer, none, none]
noncomputable def e169 : En Tryz.prog tab := enP base [e164, e199] false [] Tryz.func169 noLo [(.ro t_impl_Duty 1 q13), (.one (.int .i64))] (fun a => impl_Wheel_stop ((rd a 0).unbox) ((rd a 1).I)) (fun r_ : Bool × V => ((V.bool r_.1), [(V.rf t_impl_Duty (l14 r_.2))])) [] [[.dead, .dead, (.rr t_impl_Timer true)]] [none, none] false (by kernel_rfl) fun _ => gA (g2 fun _ => g1 (g2 fun _ => g4) g4) (by kernel_rfl)
noncomputable def e170 : En Tryz.prog tab := enSort base Tryz.func170 (by kernel_rfl) t_impl_Timer rfl true 171 cfT rfl sort170 [some t_impl_Timer, none]
noncomputable def e109 : En Tryz.prog tab := enP base [e169, e170] false [] Tryz.func109 noLo [(.ro t_impl_Duty 1 q13), (.one (.int .i64)), (.one (.int .i64))] (fun a => impl_Wheel_set ((rd a 0).unbox) ((rd a 1).I) ((rd a 2).I)) (fun r_ : V => ((V.tup []), [(V.rf t_impl_Duty (l14 r_))])) [] [[.dead, .dead, (.rr t_impl_Timer true)]] [none, none, none] false (by kernel_rfl) fun _ => gA (g2 fun _ => g1 (g2 fun _ => g4) g0) (by kernel_rfl)
noncomputable def c102 : Cfg := cfgOf (P := Tryz.prog) (tab := tab) [e162, e164, e109] false []
def a102_0 (r_ : Bool × V × List V) : List (Ex × St) := [((Ex.exit 0), (⟨[(6, (V.bool r_.1))], [(0, some (Blk.box t_impl_Duty (l18 r_.2.1))), (1, some (Blk.row t_impl_Timer true r_.2.2))], 2, [0]⟩ : St))]
def s102_0 : SS := ⟨[(0, (.one (.bp 0 0))), (6, (.one .bool)), (35, (.one (.inl t_impl_Session))), (36, (.one (.int .i64))), (37, (.one (.int .i64)))], [(.box t_impl_Duty q19), (.row t_impl_Timer true)], 2, [0]⟩
noncomputable def l102_0 : LE := le0 5 s102_0 (fun st => impl_Duty_sync_l5 ((((sv st 3).I) - ((sv st 4).I)).toNat + 1) ((sv st 1).B) ((sv st 2).L) ((sv st 3).I) ((sv st 4).I) (bc st 0) (br st 1)) a102_0
noncomputable def L102 : Loops := ⟨fun k => (look [(5, [0, 6, 35, 36, 37])] k).getD [], fun _ => [], fun k => (look [(5, [6])] k).getD [], runL [l102_0], []⟩
theorem t102_0 (k_ : Nat) : ∀ (changed6 : Bool) (v35 : List V) (v36 : Int) (v37 : Int) (b0 : V) (r1 : List V), Agr id (pk0 a102_0) (impl_Duty_sync_l5 k_ changed6 v35 v36 v37 b0 r1) (rounds c102 L102 (lpB Tryz.f102 0) k_ (s102_0.mk' (stv [.dead, V.bool changed6, V.inl 0 v35, vi v36, vi v37] [bx b0, rb r1]))) := by
  induction k_ with
  | zero => exact fun _ _ _ _ _ _ => g0
  | succ k_ ih => exact fun _ _ _ _ _ _ => gA (g1 (g1 (g2 fun _ => g1 (g2 fun _ => ih _ _ _ _ _ _) (ih _ _ _ _ _ _)) g0) g4) (by kernel_rfl)
theorem o102 : LoopsOk c102 L102 (bodyOf Tryz.f102) := GoodAll.ok (l := [l102_0]) (.cons 0 (by kernel_rfl) (gd0 (fun st => (((sv st 3).I) - ((sv st 4).I)).toNat + 1) (fun st => t102_0 _ _ _ _ _ _ _) fun st => by kernel_rfl) (.nil)) rfl
noncomputable def e102 : En Tryz.prog tab := enP base [e162, e164, e109] false [] Tryz.func102 (L := L102) o102 [(.rf t_impl_Duty q13), (.agg q11)] (fun a => impl_Duty_sync ((rd a 0).unbox) (rd a 1)) (fun r_ : Bool × V => ((V.bool r_.1), [(V.rf t_impl_Duty (l14 r_.2))])) [] [[.dead, .dead, (.rr t_impl_Timer true)]] [none, none] false (by kernel_rfl) fun _ => gA (g2 fun _ => g2 fun _ => g4) (by kernel_rfl)
noncomputable def e39 : En Tryz.prog tab := enP base [e100, e62, e101, e102] false [] Tryz.func39 noLo [(.agg q10), (.agg q11)] (fun a => impl_DutySync (rd a 0) (rd a 1)) (fun r_ : V × Bool => ((V.tup [(h4 r_.1), (V.bool r_.2)]), [])) [[.dead, .dead, (.rr t_impl_Timer true)]] [] [none, none] false (by kernel_rfl) fun _ => gA (g2 fun _ => g1 g4 (g2 fun _ => g1 g4 (g2 fun _ => g2 fun _ => g4))) (by kernel_rfl)
noncomputable def e198 : En Tryz.prog tab := enT base [] false [] Tryz.func198 noLo [(.agg [(.int .i64), (.int .i64)]), (.agg [(.int .i64), (.int .i64)])] (fun a => laws_eqTimer (rd a 0) (rd a 1)) (fun r_ : Bool => ((V.bool r_), [])) [] [] [none, none] false (by kernel_rfl) fun _ => gT (g5 g7 (g5 g7 g7)) (by kernel_rfl)
noncomputable def c165 : Cfg := cfgOf (P := Tryz.prog) (tab := tab) [e198] false []
def a165_0 (r_ : Nat × Bool) : List (Ex × St) := [(Ex.ret, (⟨[(4, (V.bool r_.2))], [], 0, []⟩ : St)), ((Ex.exit 0), (⟨[(4, V.dead)], [], 0, []⟩ : St))]
def s165_0 : SS := ⟨[(0, (.one (.inl t_impl_Timer))), (1, (.one (.inl t_impl_Timer))), (5, (.one (.int .i64)))], [], 0, []⟩
noncomputable def l165_0 : LE := le1 4 s165_0 (fun st => laws_eqTimerS_l4 ((((((sv st 0).L).length : Nat) : Int) - ((sv st 2).I)).toNat + 1) ((sv st 0).L) ((sv st 1).L) ((sv st 2).I)) a165_0
noncomputable def L165 : Loops := ⟨fun k => (look [(4, [0, 1, 5])] k).getD [], fun _ => [], fun k => (look [(4, [4])] k).getD [], runL [l165_0], []⟩
theorem t165_0 (k_ : Nat) : ∀ (a0 : List V) (b1 : List V) (i5 : Int), Agr id (pk1 a165_0) (laws_eqTimerS_l4 k_ a0 b1 i5) (rounds c165 L165 (lpB Tryz.f165 0) k_ (s165_0.mk' (stv [V.inl 0 a0, V.inl 0 b1, vi i5] []))) := by
  induction k_ with
  | zero => exact fun _ _ _ => g0
  | succ k_ ih => exact fun _ _ _ => gA (g1 (g1 (g1 (g1 g4 (ih _ _ _)) g0) g0) g4) (by kernel_rfl)
theorem o165 : LoopsOk c165 L165 (bodyOf Tryz.f165) := GoodAll.ok (l := [l165_0]) (.cons 0 (by kernel_rfl) (gd1 (fun st => (((((sv st 0).L).length : Nat) : Int) - ((sv st 2).I)).toNat + 1) (fun st => t165_0 _ _ _ _) fun st => by kernel_rfl) (.nil)) rfl
noncomputable def e165 : En Tryz.prog tab := enP base [e198] false [] Tryz.func165 (L := L165) o165 [(.one (.inl t_impl_Timer)), (.one (.inl t_impl_Timer))] (fun a => laws_eqTimerS ((rd a 0).L) ((rd a 1).L)) (fun r_ : Bool => ((V.bool r_), [])) [] [] [some t_impl_Timer, some t_impl_Timer] false (by kernel_rfl) fun _ => gA (g1 g4 (g2 fun _ => g1 g4 g4)) (by kernel_rfl)
noncomputable def e103 : En Tryz.prog tab := enP base [e165] false [] Tryz.func103 noLo [(.agg [(.int .i64), (.inl t_impl_Timer)]), (.agg [(.int .i64), (.inl t_impl_Timer)])] (fun a => laws_eqWheel (rd a 0) (rd a 1)) (fun r_ : Bool => ((V.bool r_), [])) [] [] [none, none] false (by kernel_rfl) fun _ => gA (g1 g4 (g2 fun _ => g1 g4 g4)) (by kernel_rfl)
noncomputable def e40 : En Tryz.prog tab := enP base [e103] false [] Tryz.func40 noLo [(.agg q10), (.agg q10)] (fun a => laws_eqDuty (rd a 0) (rd a 1)) (fun r_ : Bool => ((V.bool r_), [])) [] [] [none, none] false (by kernel_rfl) fun _ => gA (g1 g4 (g2 fun _ => g1 g4 g4)) (by kernel_rfl)
noncomputable def c148 : Cfg := cfgOf (P := Tryz.prog) (tab := tab) [] false []
def a148_0 (r_ : Nat × Bool) : List (Ex × St) := [(Ex.ret, (⟨[(4, (V.bool r_.2))], [], 0, []⟩ : St)), ((Ex.exit 0), (⟨[(4, V.dead)], [], 0, []⟩ : St))]
def s148_0 : SS := ⟨[(0, (.one (.inl t_byte))), (1, (.one (.inl t_byte))), (5, (.one (.int .i64)))], [], 0, []⟩
noncomputable def l148_0 : LE := le1 4 s148_0 (fun st => laws_eqByteS_l4 ((((((sv st 0).L).length : Nat) : Int) - ((sv st 2).I)).toNat + 1) ((sv st 0).L) ((sv st 1).L) ((sv st 2).I)) a148_0
noncomputable def L148 : Loops := ⟨fun k => (look [(4, [0, 1, 5])] k).getD [], fun _ => [], fun k => (look [(4, [4])] k).getD [], runL [l148_0], []⟩
theorem t148_0 (k_ : Nat) : ∀ (a0 : List V) (b1 : List V) (i5 : Int), Agr id (pk1 a148_0) (laws_eqByteS_l4 k_ a0 b1 i5) (rounds c148 L148 (lpB Tryz.f148 0) k_ (s148_0.mk' (stv [V.inl 0 a0, V.inl 0 b1, vi i5] []))) := by
  induction k_ with
  | zero => exact fun _ _ _ => g0
  | succ k_ ih => exact fun _ _ _ => gA (g1 (g1 (g1 (g1 g4 (ih _ _ _)) g0) g0) g4) (by kernel_rfl)
theorem o148 : LoopsOk c148 L148 (bodyOf Tryz.f148) := GoodAll.ok (l := [l148_0]) (.cons 0 (by kernel_rfl) (gd1 (fun st => (((((sv st 0).L).length : Nat) : Int) - ((sv st 2).I)).toNat + 1) (fun st => t148_0 _ _ _ _) fun st => by kernel_rfl) (.nil)) rfl
noncomputable def e148 : En Tryz.prog tab := enP base [] false [] Tryz.func148 (L := L148) o148 [(.one (.inl t_byte)), (.one (.inl t_byte))] (fun a => laws_eqByteS ((rd a 0).L) ((rd a 1).L)) (fun r_ : Bool => ((V.bool r_), [])) [] [] [some t_byte, some t_byte] false (by kernel_rfl) fun _ => gA (g1 g4 (g2 fun _ => g1 g4 g4)) (by kernel_rfl)
noncomputable def e144 : En Tryz.prog tab := enP base [e148] false [] Tryz.func144 noLo [(.agg q1), (.agg q1)] (fun a => laws_eqRow (rd a 0) (rd a 1)) (fun r_ : Bool => ((V.bool r_), [])) [] [] [none, none] false (by kernel_rfl) fun _ => gA (g2 fun _ => g1 g4 (g2 fun _ => g1 g4 (g1 g4 (g1 g4 g4)))) (by kernel_rfl)
noncomputable def c66 : Cfg := cfgOf (P := Tryz.prog) (tab := tab) [e144] false []
def a66_0 (r_ : Nat × Bool) : List (Ex × St) := [(Ex.ret, (⟨[(4, (V.bool r_.2))], [], 0, []⟩ : St)), ((Ex.exit 0), (⟨[(4, V.dead)], [], 0, []⟩ : St))]
def s66_0 : SS := ⟨[(0, (.one (.inl t_impl_Row))), (1, (.one (.inl t_impl_Row))), (5, (.one (.int .i64)))], [], 0, []⟩
noncomputable def l66_0 : LE := le1 4 s66_0 (fun st => laws_eqRowS_l4 ((((((sv st 0).L).length : Nat) : Int) - ((sv st 2).I)).toNat + 1) ((sv st 0).L) ((sv st 1).L) ((sv st 2).I)) a66_0
noncomputable def L66 : Loops := ⟨fun k => (look [(4, [0, 1, 5])] k).getD [], fun _ => [], fun k => (look [(4, [4])] k).getD [], runL [l66_0], []⟩
theorem t66_0 (k_ : Nat) : ∀ (a0 : List V) (b1 : List V) (i5 : Int), Agr id (pk1 a66_0) (laws_eqRowS_l4 k_ a0 b1 i5) (rounds c66 L66 (lpB Tryz.f66 0) k_ (s66_0.mk' (stv [V.inl 0 a0, V.inl 0 b1, vi i5] []))) := by
  induction k_ with
  | zero => exact fun _ _ _ => g0
  | succ k_ ih => exact fun _ _ _ => gA (g1 (g1 (g1 (g2 fun _ => g1 g4 (ih _ _ _)) g0) g0) g4) (by kernel_rfl)
theorem o66 : LoopsOk c66 L66 (bodyOf Tryz.f66) := GoodAll.ok (l := [l66_0]) (.cons 0 (by kernel_rfl) (gd1 (fun st => (((((sv st 0).L).length : Nat) : Int) - ((sv st 2).I)).toNat + 1) (fun st => t66_0 _ _ _ _) fun st => by kernel_rfl) (.nil)) rfl
noncomputable def e66 : En Tryz.prog tab := enP base [e144] false [] Tryz.func66 (L := L66) o66 [(.one (.inl t_impl_Row)), (.one (.inl t_impl_Row))] (fun a => laws_eqRowS ((rd a 0).L) ((rd a 1).L)) (fun r_ : Bool => ((V.bool r_), [])) [] [] [some t_impl_Row, some t_impl_Row] false (by kernel_rfl) fun _ => gA (g1 g4 (g2 fun _ => g1 g4 g4)) (by kernel_rfl)
noncomputable def e145 : En Tryz.prog tab := enP base [e148] false [] Tryz.func145 noLo [(.agg [(.inl t_byte), (.int .i64)]), (.agg [(.inl t_byte), (.int .i64)])] (fun a => laws_eqTomb (rd a 0) (rd a 1)) (fun r_ : Bool => ((V.bool r_), [])) [] [] [none, none] false (by kernel_rfl) fun _ => gA (g2 fun _ => g1 g4 (g1 g4 g4)) (by kernel_rfl)
noncomputable def c67 : Cfg := cfgOf (P := Tryz.prog) (tab := tab) [e145] false []
def a67_0 (r_ : Nat × Bool) : List (Ex × St) := [(Ex.ret, (⟨[(4, (V.bool r_.2))], [], 0, []⟩ : St)), ((Ex.exit 0), (⟨[(4, V.dead)], [], 0, []⟩ : St))]
def s67_0 : SS := ⟨[(0, (.one (.inl t_impl_Tomb))), (1, (.one (.inl t_impl_Tomb))), (5, (.one (.int .i64)))], [], 0, []⟩
noncomputable def l67_0 : LE := le1 4 s67_0 (fun st => laws_eqTombS_l4 ((((((sv st 0).L).length : Nat) : Int) - ((sv st 2).I)).toNat + 1) ((sv st 0).L) ((sv st 1).L) ((sv st 2).I)) a67_0
noncomputable def L67 : Loops := ⟨fun k => (look [(4, [0, 1, 5])] k).getD [], fun _ => [], fun k => (look [(4, [4])] k).getD [], runL [l67_0], []⟩
theorem t67_0 (k_ : Nat) : ∀ (a0 : List V) (b1 : List V) (i5 : Int), Agr id (pk1 a67_0) (laws_eqTombS_l4 k_ a0 b1 i5) (rounds c67 L67 (lpB Tryz.f67 0) k_ (s67_0.mk' (stv [V.inl 0 a0, V.inl 0 b1, vi i5] []))) := by
  induction k_ with
  | zero => exact fun _ _ _ => g0
  | succ k_ ih => exact fun _ _ _ => gA (g1 (g1 (g1 (g2 fun _ => g1 g4 (ih _ _ _)) g0) g0) g4) (by kernel_rfl)
theorem o67 : LoopsOk c67 L67 (bodyOf Tryz.f67) := GoodAll.ok (l := [l67_0]) (.cons 0 (by kernel_rfl) (gd1 (fun st => (((((sv st 0).L).length : Nat) : Int) - ((sv st 2).I)).toNat + 1) (fun st => t67_0 _ _ _ _) fun st => by kernel_rfl) (.nil)) rfl
noncomputable def e67 : En Tryz.prog tab := enP base [e145] false [] Tryz.func67 (L := L67) o67 [(.one (.inl t_impl_Tomb)), (.one (.inl t_impl_Tomb))] (fun a => laws_eqTombS ((rd a 0).L) ((rd a 1).L)) (fun r_ : Bool => ((V.bool r_), [])) [] [] [some t_impl_Tomb, some t_impl_Tomb] false (by kernel_rfl) fun _ => gA (g1 g4 (g2 fun _ => g1 g4 g4)) (by kernel_rfl)
noncomputable def e146 : En Tryz.prog tab := enT base [] false [] Tryz.func146 noLo [(.agg [(.int .i64), .bool]), (.agg [(.int .i64), .bool])] (fun a => laws_eqSession (rd a 0) (rd a 1)) (fun r_ : Bool => ((V.bool r_), [])) [] [] [none, none] false (by kernel_rfl) fun _ => gT (g5 g7 (g5 g7 g7)) (by kernel_rfl)
noncomputable def c68 : Cfg := cfgOf (P := Tryz.prog) (tab := tab) [e146] false []
def a68_0 (r_ : Nat × Bool) : List (Ex × St) := [(Ex.ret, (⟨[(4, (V.bool r_.2))], [], 0, []⟩ : St)), ((Ex.exit 0), (⟨[(4, V.dead)], [], 0, []⟩ : St))]
def s68_0 : SS := ⟨[(0, (.one (.inl t_impl_Session))), (1, (.one (.inl t_impl_Session))), (5, (.one (.int .i64)))], [], 0, []⟩
noncomputable def l68_0 : LE := le1 4 s68_0 (fun st => laws_eqSessionS_l4 ((((((sv st 0).L).length : Nat) : Int) - ((sv st 2).I)).toNat + 1) ((sv st 0).L) ((sv st 1).L) ((sv st 2).I)) a68_0
noncomputable def L68 : Loops := ⟨fun k => (look [(4, [0, 1, 5])] k).getD [], fun _ => [], fun k => (look [(4, [4])] k).getD [], runL [l68_0], []⟩
theorem t68_0 (k_ : Nat) : ∀ (a0 : List V) (b1 : List V) (i5 : Int), Agr id (pk1 a68_0) (laws_eqSessionS_l4 k_ a0 b1 i5) (rounds c68 L68 (lpB Tryz.f68 0) k_ (s68_0.mk' (stv [V.inl 0 a0, V.inl 0 b1, vi i5] []))) := by
  induction k_ with
  | zero => exact fun _ _ _ => g0
  | succ k_ ih => exact fun _ _ _ => gA (g1 (g1 (g1 (g1 g4 (ih _ _ _)) g0) g0) g4) (by kernel_rfl)
theorem o68 : LoopsOk c68 L68 (bodyOf Tryz.f68) := GoodAll.ok (l := [l68_0]) (.cons 0 (by kernel_rfl) (gd1 (fun st => (((((sv st 0).L).length : Nat) : Int) - ((sv st 2).I)).toNat + 1) (fun st => t68_0 _ _ _ _) fun st => by kernel_rfl) (.nil)) rfl
noncomputable def e68 : En Tryz.prog tab := enP base [e146] false [] Tryz.func68 (L := L68) o68 [(.one (.inl t_impl_Session)), (.one (.inl t_impl_Session))] (fun a => laws_eqSessionS ((rd a 0).L) ((rd a 1).L)) (fun r_ : Bool => ((V.bool r_), [])) [] [] [some t_impl_Session, some t_impl_Session] false (by kernel_rfl) fun _ => gA (g1 g4 (g2 fun _ => g1 g4 g4)) (by kernel_rfl)
noncomputable def e16 : En Tryz.prog tab := enT base [] false [] Tryz.func16 noLo [(.agg [(.int .i64), (.int .i64)]), (.agg [(.int .i64), (.int .i64)])] (fun a => laws_eqReply (rd a 0) (rd a 1)) (fun r_ : Bool => ((V.bool r_), [])) [] [] [none, none] false (by kernel_rfl) fun _ => gT (g5 g7 (g5 g7 g7)) (by kernel_rfl)
noncomputable def e147 : En Tryz.prog tab := enT base [e16] false [] Tryz.func147 noLo [(.agg q7), (.agg q7)] (fun a => laws_eqLast (rd a 0) (rd a 1)) (fun r_ : Bool => ((V.bool r_), [])) [] [] [none, none] false (by kernel_rfl) fun _ => gT (g5 g7 (g5 g7 (g5 g7 g7))) (by kernel_rfl)
noncomputable def c69 : Cfg := cfgOf (P := Tryz.prog) (tab := tab) [e147] false []
def a69_0 (r_ : Nat × Bool) : List (Ex × St) := [(Ex.ret, (⟨[(4, (V.bool r_.2))], [], 0, []⟩ : St)), ((Ex.exit 0), (⟨[(4, V.dead)], [], 0, []⟩ : St))]
def s69_0 : SS := ⟨[(0, (.one (.inl t_impl_Last))), (1, (.one (.inl t_impl_Last))), (5, (.one (.int .i64)))], [], 0, []⟩
noncomputable def l69_0 : LE := le1 4 s69_0 (fun st => laws_eqLastS_l4 ((((((sv st 0).L).length : Nat) : Int) - ((sv st 2).I)).toNat + 1) ((sv st 0).L) ((sv st 1).L) ((sv st 2).I)) a69_0
noncomputable def L69 : Loops := ⟨fun k => (look [(4, [0, 1, 5])] k).getD [], fun _ => [], fun k => (look [(4, [4])] k).getD [], runL [l69_0], []⟩
theorem t69_0 (k_ : Nat) : ∀ (a0 : List V) (b1 : List V) (i5 : Int), Agr id (pk1 a69_0) (laws_eqLastS_l4 k_ a0 b1 i5) (rounds c69 L69 (lpB Tryz.f69 0) k_ (s69_0.mk' (stv [V.inl 0 a0, V.inl 0 b1, vi i5] []))) := by
  induction k_ with
  | zero => exact fun _ _ _ => g0
  | succ k_ ih => exact fun _ _ _ => gA (g1 (g1 (g1 (g1 g4 (ih _ _ _)) g0) g0) g4) (by kernel_rfl)
theorem o69 : LoopsOk c69 L69 (bodyOf Tryz.f69) := GoodAll.ok (l := [l69_0]) (.cons 0 (by kernel_rfl) (gd1 (fun st => (((((sv st 0).L).length : Nat) : Int) - ((sv st 2).I)).toNat + 1) (fun st => t69_0 _ _ _ _) fun st => by kernel_rfl) (.nil)) rfl
noncomputable def e69 : En Tryz.prog tab := enP base [e147] false [] Tryz.func69 (L := L69) o69 [(.one (.inl t_impl_Last)), (.one (.inl t_impl_Last))] (fun a => laws_eqLastS ((rd a 0).L) ((rd a 1).L)) (fun r_ : Bool => ((V.bool r_), [])) [] [] [some t_impl_Last, some t_impl_Last] false (by kernel_rfl) fun _ => gA (g1 g4 (g2 fun _ => g1 g4 g4)) (by kernel_rfl)
set_option maxRecDepth 100000 in
noncomputable def e15 : En Tryz.prog tab := enP base [e66, e67, e68, e69] false [] Tryz.func15 noLo [(.agg q11), (.agg q11)] (fun a => laws_eqState (rd a 0) (rd a 1)) (fun r_ : Bool => ((V.bool r_), [])) [] [] [none, none] false (by kernel_rfl) fun _ => gA (g1 g4 (g2 fun _ => g1 g4 (g2 fun _ => g1 g4 (g1 g4 (g2 fun _ => g1 g4 (g2 fun _ => g1 g4 g4)))))) (by kernel_rfl)
noncomputable def c166 : Cfg := cfgOf (P := Tryz.prog) (tab := tab) [] false []
def a166_0 (r_ : Int × List V) : List (Ex × St) := [((Ex.exit 0), (⟨[(1, (vi r_.1))], [(0, some (Blk.drow t_impl_Timer r_.2))], 1, [0]⟩ : St))]
def s166_0 : SS := ⟨[(0, (.one (.sl 0 t_impl_Timer))), (1, (.one (.int .i64))), (5, (.one (.int .i64)))], [(.drow t_impl_Timer)], 1, [0]⟩
noncomputable def l166_0 : LE := le0 2 s166_0 (fun st => laws_markTimerS_l2 (((((br st 0).length : Nat) : Int) - ((sv st 2).I)).toNat + 1) ((sv st 1).I) ((sv st 2).I) (br st 0)) a166_0
noncomputable def L166 : Loops := ⟨fun k => (look [(2, [0, 1, 5])] k).getD [], fun _ => [], fun k => (look [(2, [1])] k).getD [], runL [l166_0], []⟩
theorem t166_0 (k_ : Nat) : ∀ (k1 : Int) (i5 : Int) (r0 : List V), Agr id (pk0 a166_0) (laws_markTimerS_l2 k_ k1 i5 r0) (rounds c166 L166 (lpB Tryz.f166 0) k_ (s166_0.mk' (stv [.dead, vi k1, vi i5] [rb r0]))) := by
  induction k_ with
  | zero => exact fun _ _ _ => g0
  | succ k_ ih => exact fun _ _ _ => gA (g1 (g1 (g1 (g3 fun _ => ih _ _ _) g0) g0) g4) (by kernel_rfl)
theorem o166 : LoopsOk c166 L166 (bodyOf Tryz.f166) := GoodAll.ok (l := [l166_0]) (.cons 0 (by kernel_rfl) (gd0 (fun st => ((((br st 0).length : Nat) : Int) - ((sv st 2).I)).toNat + 1) (fun st => t166_0 _ _ _ _) fun st => by kernel_rfl) (.nil)) rfl
noncomputable def e166 : En Tryz.prog tab := enP base [] false [] Tryz.func166 (L := L166) o166 [(.one (.dr t_impl_Timer)), (.one (.int .i64))] (fun a => laws_markTimerS ((rd a 0).L) ((rd a 1).I)) (fun r_ : Int × List V => ((vi r_.1), [(V.dr t_impl_Timer r_.2)])) [] [[(.dr t_impl_Timer)]] [some t_impl_Timer, none] true (by kernel_rfl) fun _ => gA (g2 fun _ => g4) (by kernel_rfl)
noncomputable def e104 : En Tryz.prog tab := enP base [e166] false [] Tryz.func104 noLo [(.agg [(.int .i64), (.dr t_impl_Timer)]), (.one (.int .i64))] (fun a => laws_markWheel (rd a 0) ((rd a 1).I)) (fun r_ : Int × List V => ((vi r_.1), [(V.dr t_impl_Timer r_.2)])) [] [[(.dr t_impl_Timer)]] [none, none] true (by kernel_rfl) fun _ => gA (g2 fun _ => g4) (by kernel_rfl)
noncomputable def e41 : En Tryz.prog tab := enP base [e104] false [] Tryz.func41 noLo [(.agg q20), (.one (.int .i64))] (fun a => laws_markDuty (rd a 0) ((rd a 1).I)) (fun r_ : Int × List V => ((vi r_.1), [(V.dr t_impl_Timer r_.2)])) [] [[(.dr t_impl_Timer)]] [none, none] true (by kernel_rfl) fun _ => gA (g2 fun _ => g4) (by kernel_rfl)
noncomputable def c94 : Cfg := cfgOf (P := Tryz.prog) (tab := tab) [] false []
def a94_0 (r_ : Int × List V) : List (Ex × St) := [((Ex.exit 0), (⟨[(1, (vi r_.1))], [(0, some (Blk.drow t_byte r_.2))], 1, [0]⟩ : St))]
def s94_0 : SS := ⟨[(0, (.one (.sl 0 t_byte))), (1, (.one (.int .i64))), (5, (.one (.int .i64)))], [(.drow t_byte)], 1, [0]⟩
noncomputable def l94_0 : LE := le0 2 s94_0 (fun st => laws_markByteS_l2 (((((br st 0).length : Nat) : Int) - ((sv st 2).I)).toNat + 1) ((sv st 1).I) ((sv st 2).I) (br st 0)) a94_0
noncomputable def L94 : Loops := ⟨fun k => (look [(2, [0, 1, 5])] k).getD [], fun _ => [], fun k => (look [(2, [1])] k).getD [], runL [l94_0], []⟩
theorem t94_0 (k_ : Nat) : ∀ (k1 : Int) (i5 : Int) (r0 : List V), Agr id (pk0 a94_0) (laws_markByteS_l2 k_ k1 i5 r0) (rounds c94 L94 (lpB Tryz.f94 0) k_ (s94_0.mk' (stv [.dead, vi k1, vi i5] [rb r0]))) := by
  induction k_ with
  | zero => exact fun _ _ _ => g0
  | succ k_ ih => exact fun _ _ _ => gA (g1 (g1 (ih _ _ _) g0) g4) (by kernel_rfl)
theorem o94 : LoopsOk c94 L94 (bodyOf Tryz.f94) := GoodAll.ok (l := [l94_0]) (.cons 0 (by kernel_rfl) (gd0 (fun st => ((((br st 0).length : Nat) : Int) - ((sv st 2).I)).toNat + 1) (fun st => t94_0 _ _ _ _) fun st => by kernel_rfl) (.nil)) rfl
noncomputable def e94 : En Tryz.prog tab := enP base [] false [] Tryz.func94 (L := L94) o94 [(.one (.dr t_byte)), (.one (.int .i64))] (fun a => laws_markByteS ((rd a 0).L) ((rd a 1).I)) (fun r_ : Int × List V => ((vi r_.1), [(V.dr t_byte r_.2)])) [] [[(.dr t_byte)]] [some t_byte, none] true (by kernel_rfl) fun _ => gA (g2 fun _ => g4) (by kernel_rfl)
noncomputable def c71 : Cfg := cfgOf (P := Tryz.prog) (tab := tab) [e94] false []
def a71_0 (r_ : Int × List V) : List (Ex × St) := [((Ex.exit 0), (⟨[(1, (vi r_.1))], [(0, some (Blk.drow t_impl_Row r_.2))], 1, [0]⟩ : St))]
def s71_0 : SS := ⟨[(0, (.one (.sl 0 t_impl_Row))), (1, (.one (.int .i64))), (5, (.one (.int .i64)))], [(.drow t_impl_Row)], 1, [0]⟩
noncomputable def l71_0 : LE := le0 2 s71_0 (fun st => laws_markRowS_l2 (((((br st 0).length : Nat) : Int) - ((sv st 2).I)).toNat + 1) ((sv st 1).I) ((sv st 2).I) (br st 0)) a71_0
noncomputable def L71 : Loops := ⟨fun k => (look [(2, [0, 1, 5])] k).getD [], fun _ => [], fun k => (look [(2, [1])] k).getD [], runL [l71_0], []⟩
set_option maxRecDepth 100000 in
theorem t71_0 (k_ : Nat) : ∀ (k1 : Int) (i5 : Int) (r0 : List V), Agr id (pk0 a71_0) (laws_markRowS_l2 k_ k1 i5 r0) (rounds c71 L71 (lpB Tryz.f71 0) k_ (s71_0.mk' (stv [.dead, vi k1, vi i5] [rb r0]))) := by
  induction k_ with
  | zero => exact fun _ _ _ => g0
  | succ k_ ih => exact fun _ _ _ => gA (g1 (g1 (g2 fun _ => g1 (g2 fun _ => g1 (g3 fun _ => g1 (g3 fun _ => ih _ _ _) g0) g0) g0) g0) g4) (by kernel_rfl)
theorem o71 : LoopsOk c71 L71 (bodyOf Tryz.f71) := GoodAll.ok (l := [l71_0]) (.cons 0 (by kernel_rfl) (gd0 (fun st => ((((br st 0).length : Nat) : Int) - ((sv st 2).I)).toNat + 1) (fun st => t71_0 _ _ _ _) fun st => by kernel_rfl) (.nil)) rfl
noncomputable def e71 : En Tryz.prog tab := enP base [e94] false [] Tryz.func71 (L := L71) o71 [(.one (.dr t_impl_Row)), (.one (.int .i64))] (fun a => laws_markRowS ((rd a 0).L) ((rd a 1).I)) (fun r_ : Int × List V => ((vi r_.1), [(V.dr t_impl_Row r_.2)])) [] [[(.dr t_impl_Row)]] [some t_impl_Row, none] true (by kernel_rfl) fun _ => gA (g2 fun _ => g4) (by kernel_rfl)
noncomputable def c72 : Cfg := cfgOf (P := Tryz.prog) (tab := tab) [e94] false []
def a72_0 (r_ : Int × List V) : List (Ex × St) := [((Ex.exit 0), (⟨[(1, (vi r_.1))], [(0, some (Blk.drow t_impl_Tomb r_.2))], 1, [0]⟩ : St))]
def s72_0 : SS := ⟨[(0, (.one (.sl 0 t_impl_Tomb))), (1, (.one (.int .i64))), (5, (.one (.int .i64)))], [(.drow t_impl_Tomb)], 1, [0]⟩
noncomputable def l72_0 : LE := le0 2 s72_0 (fun st => laws_markTombS_l2 (((((br st 0).length : Nat) : Int) - ((sv st 2).I)).toNat + 1) ((sv st 1).I) ((sv st 2).I) (br st 0)) a72_0
noncomputable def L72 : Loops := ⟨fun k => (look [(2, [0, 1, 5])] k).getD [], fun _ => [], fun k => (look [(2, [1])] k).getD [], runL [l72_0], []⟩
theorem t72_0 (k_ : Nat) : ∀ (k1 : Int) (i5 : Int) (r0 : List V), Agr id (pk0 a72_0) (laws_markTombS_l2 k_ k1 i5 r0) (rounds c72 L72 (lpB Tryz.f72 0) k_ (s72_0.mk' (stv [.dead, vi k1, vi i5] [rb r0]))) := by
  induction k_ with
  | zero => exact fun _ _ _ => g0
  | succ k_ ih => exact fun _ _ _ => gA (g1 (g1 (g2 fun _ => g1 (g3 fun _ => ih _ _ _) g0) g0) g4) (by kernel_rfl)
theorem o72 : LoopsOk c72 L72 (bodyOf Tryz.f72) := GoodAll.ok (l := [l72_0]) (.cons 0 (by kernel_rfl) (gd0 (fun st => ((((br st 0).length : Nat) : Int) - ((sv st 2).I)).toNat + 1) (fun st => t72_0 _ _ _ _) fun st => by kernel_rfl) (.nil)) rfl
noncomputable def e72 : En Tryz.prog tab := enP base [e94] false [] Tryz.func72 (L := L72) o72 [(.one (.dr t_impl_Tomb)), (.one (.int .i64))] (fun a => laws_markTombS ((rd a 0).L) ((rd a 1).I)) (fun r_ : Int × List V => ((vi r_.1), [(V.dr t_impl_Tomb r_.2)])) [] [[(.dr t_impl_Tomb)]] [some t_impl_Tomb, none] true (by kernel_rfl) fun _ => gA (g2 fun _ => g4) (by kernel_rfl)
noncomputable def c73 : Cfg := cfgOf (P := Tryz.prog) (tab := tab) [] false []
def a73_0 (r_ : Int × List V) : List (Ex × St) := [((Ex.exit 0), (⟨[(1, (vi r_.1))], [(0, some (Blk.drow t_impl_Session r_.2))], 1, [0]⟩ : St))]
def s73_0 : SS := ⟨[(0, (.one (.sl 0 t_impl_Session))), (1, (.one (.int .i64))), (5, (.one (.int .i64)))], [(.drow t_impl_Session)], 1, [0]⟩
noncomputable def l73_0 : LE := le0 2 s73_0 (fun st => laws_markSessionS_l2 (((((br st 0).length : Nat) : Int) - ((sv st 2).I)).toNat + 1) ((sv st 1).I) ((sv st 2).I) (br st 0)) a73_0
noncomputable def L73 : Loops := ⟨fun k => (look [(2, [0, 1, 5])] k).getD [], fun _ => [], fun k => (look [(2, [1])] k).getD [], runL [l73_0], []⟩
theorem t73_0 (k_ : Nat) : ∀ (k1 : Int) (i5 : Int) (r0 : List V), Agr id (pk0 a73_0) (laws_markSessionS_l2 k_ k1 i5 r0) (rounds c73 L73 (lpB Tryz.f73 0) k_ (s73_0.mk' (stv [.dead, vi k1, vi i5] [rb r0]))) := by
  induction k_ with
  | zero => exact fun _ _ _ => g0
  | succ k_ ih => exact fun _ _ _ => gA (g1 (g1 (g1 (g3 fun _ => ih _ _ _) g0) g0) g4) (by kernel_rfl)
theorem o73 : LoopsOk c73 L73 (bodyOf Tryz.f73) := GoodAll.ok (l := [l73_0]) (.cons 0 (by kernel_rfl) (gd0 (fun st => ((((br st 0).length : Nat) : Int) - ((sv st 2).I)).toNat + 1) (fun st => t73_0 _ _ _ _) fun st => by kernel_rfl) (.nil)) rfl
noncomputable def e73 : En Tryz.prog tab := enP base [] false [] Tryz.func73 (L := L73) o73 [(.one (.dr t_impl_Session)), (.one (.int .i64))] (fun a => laws_markSessionS ((rd a 0).L) ((rd a 1).I)) (fun r_ : Int × List V => ((vi r_.1), [(V.dr t_impl_Session r_.2)])) [] [[(.dr t_impl_Session)]] [some t_impl_Session, none] true (by kernel_rfl) fun _ => gA (g2 fun _ => g4) (by kernel_rfl)
noncomputable def c74 : Cfg := cfgOf (P := Tryz.prog) (tab := tab) [] false []
def a74_0 (r_ : Int × List V) : List (Ex × St) := [((Ex.exit 0), (⟨[(1, (vi r_.1))], [(0, some (Blk.drow t_impl_Last r_.2))], 1, [0]⟩ : St))]
def s74_0 : SS := ⟨[(0, (.one (.sl 0 t_impl_Last))), (1, (.one (.int .i64))), (5, (.one (.int .i64)))], [(.drow t_impl_Last)], 1, [0]⟩
noncomputable def l74_0 : LE := le0 2 s74_0 (fun st => laws_markLastS_l2 (((((br st 0).length : Nat) : Int) - ((sv st 2).I)).toNat + 1) ((sv st 1).I) ((sv st 2).I) (br st 0)) a74_0
noncomputable def L74 : Loops := ⟨fun k => (look [(2, [0, 1, 5])] k).getD [], fun _ => [], fun k => (look [(2, [1])] k).getD [], runL [l74_0], []⟩
set_option maxRecDepth 100000 in
theorem t74_0 (k_ : Nat) : ∀ (k1 : Int) (i5 : Int) (r0 : List V), Agr id (pk0 a74_0) (laws_markLastS_l2 k_ k1 i5 r0) (rounds c74 L74 (lpB Tryz.f74 0) k_ (s74_0.mk' (stv [.dead, vi k1, vi i5] [rb r0]))) := by
  induction k_ with
  | zero => exact fun _ _ _ => g0
  | succ k_ ih => exact fun _ _ _ => gA (g1 (g1 (g1 (g3 fun _ => g1 (g3 fun _ => g1 (g3 fun _ => ih _ _ _) g0) g0) g0) g0) g4) (by kernel_rfl)
theorem o74 : LoopsOk c74 L74 (bodyOf Tryz.f74) := GoodAll.ok (l := [l74_0]) (.cons 0 (by kernel_rfl) (gd0 (fun st => ((((br st 0).length : Nat) : Int) - ((sv st 2).I)).toNat + 1) (fun st => t74_0 _ _ _ _) fun st => by kernel_rfl) (.nil)) rfl
noncomputable def e74 : En Tryz.prog tab := enP base [] false [] Tryz.func74 (L := L74) o74 [(.one (.dr t_impl_Last)), (.one (.int .i64))] (fun a => laws_markLastS ((rd a 0).L) ((rd a 1).I)) (fun r_ : Int × List V => ((vi r_.1), [(V.dr t_impl_Last r_.2)])) [] [[(.dr t_impl_Last)]] [some t_impl_Last, none] true (by kernel_rfl) fun _ => gA (g2 fun _ => g4) (by kernel_rfl)
noncomputable def e18 : En Tryz.prog tab := enP base [e71, e72, e73, e74] false [] Tryz.func18 noLo [(.agg q21), (.one (.int .i64))] (fun a => laws_markState (rd a 0) ((rd a 1).I)) (fun r_ : Int × List V × List V × List V × List V => ((vi r_.1), [(V.dr t_impl_Row r_.2.1), (V.dr t_impl_Tomb r_.2.2.1), (V.dr t_impl_Session r_.2.2.2.1), (V.dr t_impl_Last r_.2.2.2.2)])) [] [[(.dr t_impl_Row)], [(.dr t_impl_Tomb)], [(.dr t_impl_Session)], [(.dr t_impl_Last)]] [none, none] true (by kernel_rfl) fun _ => gA (g2 fun _ => g2 fun _ => g2 fun _ => g2 fun _ => g4) (by kernel_rfl)
noncomputable def c167 : Cfg := cfgOf (P := Tryz.prog) (tab := tab) [] false []
def a167_0 (r_ : Nat × Int × Int) : List (Ex × St) := [(Ex.ret, (⟨[(1, (vi r_.2.1)), (4, (vi r_.2.2))], [], 0, []⟩ : St)), ((Ex.exit 0), (⟨[(1, (vi r_.2.1)), (4, V.dead)], [], 0, []⟩ : St))]
def s167_0 : SS := ⟨[(0, (.one (.inl t_impl_Timer))), (1, (.one (.int .i64))), (5, (.one (.int .i64)))], [], 0, []⟩
noncomputable def l167_0 : LE := le1 2 s167_0 (fun st => laws_heldTimerS_l2 ((((((sv st 0).L).length : Nat) : Int) - ((sv st 2).I)).toNat + 1) ((sv st 0).L) ((sv st 1).I) ((sv st 2).I)) a167_0
noncomputable def L167 : Loops := ⟨fun k => (look [(2, [0, 1, 5])] k).getD [], fun _ => [], fun k => (look [(2, [1, 4])] k).getD [], runL [l167_0], []⟩
theorem t167_0 (k_ : Nat) : ∀ (a0 : List V) (k1 : Int) (i5 : Int), Agr id (pk1 a167_0) (laws_heldTimerS_l2 k_ a0 k1 i5) (rounds c167 L167 (lpB Tryz.f167 0) k_ (s167_0.mk' (stv [V.inl 0 a0, vi k1, vi i5] []))) := by
  induction k_ with
  | zero => exact fun _ _ _ => g0
  | succ k_ ih => exact fun _ _ _ => gA (g1 (g1 (g1 g4 (g1 (g1 g4 (ih _ _ _)) g0)) g0) g4) (by kernel_rfl)
theorem o167 : LoopsOk c167 L167 (bodyOf Tryz.f167) := GoodAll.ok (l := [l167_0]) (.cons 0 (by kernel_rfl) (gd1 (fun st => (((((sv st 0).L).length : Nat) : Int) - ((sv st 2).I)).toNat + 1) (fun st => t167_0 _ _ _ _) fun st => by kernel_rfl) (.nil)) rfl
noncomputable def e167 : En Tryz.prog tab := enP base [] false [] Tryz.func167 (L := L167) o167 [(.one (.inl t_impl_Timer)), (.one (.int .i64))] (fun a => laws_heldTimerS ((rd a 0).L) ((rd a 1).I)) (fun r_ : Int => ((vi r_), [])) [] [] [some t_impl_Timer, none] false (by kernel_rfl) fun _ => gA (g2 fun _ => g1 g4 g4) (by kernel_rfl)
noncomputable def e105 : En Tryz.prog tab := enP base [e167] false [] Tryz.func105 noLo [(.agg [(.int .i64), (.inl t_impl_Timer)]), (.one (.int .i64))] (fun a => laws_heldWheel (rd a 0) ((rd a 1).I)) (fun r_ : Int => ((vi r_), [])) [] [] [none, none] false (by kernel_rfl) fun _ => gA (g2 fun _ => g1 g4 g4) (by kernel_rfl)
noncomputable def e42 : En Tryz.prog tab := enP base [e105] false [] Tryz.func42 noLo [(.agg q10), (.one (.int .i64))] (fun a => laws_heldDuty (rd a 0) ((rd a 1).I)) (fun r_ : Int => ((vi r_), [])) [] [] [none, none] false (by kernel_rfl) fun _ => gA (g2 fun _ => g1 g4 g4) (by kernel_rfl)
set_option maxRecDepth 100000 in
noncomputable def e7 : En Tryz.prog tab := enP base [e36, e9, e38, e12, e37, e39, e40, e15, e41, e18, e42] true [] Tryz.func7 noLo [(.agg q0), (.agg q2)] (fun a => laws_FnExactDutySync (rd a 0) (rd a 1)) (fun r_ : Bool => ((V.bool r_), [])) [] [] [none, none] false (by kernel_rfl) fun _ => gA (g1 g4 (g2 fun _ => g1 g4 (g2 fun _ => g2 fun _ => g2 fun _ => g2 fun _ => g2 fun _ => g2 fun _ => g2 fun _ => g1 g4 (g1 g4 (g2 fun _ => g2 fun _ => g1 g4 (g2 fun _ => g2 fun _ => g1 g4 (g2 fun _ => g2 fun _ => g1 g4 (g2 fun _ => g1 g4 (g1 g4 (g2 fun _ => g2 fun _ => g1 g4 (g1 g4 (g2 fun _ => g2 fun _ => g2 fun _ => g2 fun _ => g1 g4 (g1 g4 (g2 fun _ => g1 g4 (g1 g4 g4))))))))))))))) (by kernel_rfl)
end Go.Eng.R
