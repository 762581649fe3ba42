/- An own evaluator of the program's form, proved sound, and what it says of this law's functions: part 3. -/
import Derived.Test.YtjgohlneldmmjaaE2
import Derived.Deep.RegionHeld3
import Derived.Ground.SlgcProg
import Derived.Ground.SlsfProg
import Derived.Handy
import Derived.Lib.SlBytesConst
import Derived.Lib.Walk
import Derived.Shelf.SlSortCmp.WholeK
import Derived.Shelf.SlicesG.Cmp
import Derived.Test.YtjgohlneldmmjaaChecked
import Derived.Test.YtjgohlneldmmjaaProg
import Derived.WalkKit
set_option linter.unusedVariables false
open Go Go.Eng
namespace Go.Eng.R
def chunks : List (List (Option Ty)) := [
  [none,
   some ⟨[.fn], false, none, [], 8⟩,
   some ⟨[.int .i64], false, none, [], 8⟩,
   some ⟨[.int .i64], false, none, [], 8⟩,
   some ⟨[.bool], false, none, [], 1⟩,
   some ⟨[.int .u8], false, none, [], 1⟩,
   some ⟨[.int .u8], false, none, [], 1⟩,
   some ⟨[.int .i64, .int .i64, .bool, .int .u8], true, none, [(0, 2), (1, 3), (2, 4), (3, 6)], 24⟩,
   some ⟨[.int .i64, .int .i64, .bool, .int .u8], true, none, [(0, 2), (1, 3), (2, 4), (3, 6)], 24⟩,
   some ⟨[.str], false, none, [], 16⟩,
   some ⟨[.str], false, none, [], 16⟩,
   some ⟨[.str], false, none, [], 16⟩,
   some ⟨[.int .u64], false, none, [], 8⟩,
   some ⟨[.str, .int .u64], true, none, [(0, 9), (1, 12)], 24⟩,
   some ⟨[.str, .int .u64], true, none, [(0, 9), (1, 12)], 24⟩,
   some ⟨[.ptr], false, none, [], 8⟩],
  [some ⟨[.ptr], false, none, [], 8⟩,
   some ⟨[.ptr], false, none, [], 8⟩,
   some ⟨[.ptr], true, none, [(0, 17)], 8⟩,
   some ⟨[.ptr], true, none, [(0, 17)], 8⟩,
   none,
   some ⟨[.int .i32], false, none, [], 4⟩,
   some ⟨[.sl 5], false, some 5, [], 24⟩,
   some ⟨[.sl 25], false, some 25, [], 24⟩,
   some ⟨[.sl 5, .bool, .int .i64, .sl 25], true, none, [(0, 22), (1, 4), (2, 3), (3, 23)], 64⟩,
   some ⟨[.sl 5, .bool, .int .i64, .sl 25], true, none, [(0, 22), (1, 4), (2, 3), (3, 23)], 64⟩,
   none,
   some ⟨[.fn], false, none, [], 8⟩,
   none,
   some ⟨[.fn], false, none, [], 8⟩,
   some ⟨[.fn], false, none, [], 8⟩,
   none],
  [some ⟨[.fn], false, none, [], 8⟩,
   none,
   some ⟨[.fn], false, none, [], 8⟩,
   some ⟨[.sl 22], false, some 22, [], 24⟩,
   some ⟨[.fn], false, none, [], 8⟩,
   some ⟨[.fn], false, none, [], 8⟩,
   some ⟨[.fn], false, none, [], 8⟩,
   some ⟨[.fn], false, none, [], 8⟩,
   some ⟨[.fn], false, none, [], 8⟩,
   some ⟨[.sl 172], false, some 172, [], 24⟩,
   some ⟨[.int .i64, .sl 172], true, none, [(0, 3), (1, 41)], 32⟩,
   some ⟨[.int .i64, .sl 172], true, none, [(0, 3), (1, 41)], 32⟩,
   some ⟨[.fn], false, none, [], 8⟩,
   some ⟨[.sl 128], false, some 128, [], 24⟩,
   some ⟨[.int .i64, .sl 128], true, none, [(0, 3), (1, 45)], 32⟩,
   some ⟨[.int .i64, .sl 128], true, none, [(0, 3), (1, 45)], 32⟩],
  [none,
   some ⟨[.fn], false, none, [], 8⟩,
   some ⟨[.fn], false, none, [], 8⟩,
   some ⟨[.fn], false, none, [], 8⟩,
   some ⟨[.fn], false, none, [], 8⟩,
   some ⟨[.fn], false, none, [], 8⟩,
   none,
   some ⟨[.fn], false, none, [], 8⟩,
   some ⟨[.fn], false, none, [], 8⟩,
   some ⟨[.fn], false, none, [], 8⟩,
   some ⟨[.fn], false, none, [], 8⟩,
   some ⟨[.fn], false, none, [], 8⟩,
   some ⟨[.fn], false, none, [], 8⟩,
   some ⟨[.sl 3], false, some 3, [], 24⟩,
   none,
   some ⟨[.fn], false, none, [], 8⟩],
  [some ⟨[.sl 82], false, some 82, [], 24⟩,
   some ⟨[.sl 4], false, some 4, [], 24⟩,
   some ⟨[.int .i64, .int .i64, .int .i64, .sl 82, .int .i64, .int .i64, .int .i64, .int .i64, .sl 4, .sl 3, .sl 3], true, none, [(0, 3), (1, 3), (2, 3), (3, 64), (4, 3), (5, 3), (6, 3), (7, 3), (8, 65), (9, 61), (10, 61)], 152⟩,
   some ⟨[.int .i64, .int .i64, .int .i64, .sl 82, .int .i64, .int .i64, .int .i64, .int .i64, .sl 4, .sl 3, .sl 3], true, none, [(0, 3), (1, 3), (2, 3), (3, 64), (4, 3), (5, 3), (6, 3), (7, 3), (8, 65), (9, 61), (10, 61)], 152⟩,
   some ⟨[.int .i64, .int .i64, .int .i64, .int .i64, .int .i64, .int .i64, .sl 82, .int .i64, .bool], true, none, [(0, 3), (1, 3), (2, 3), (3, 3), (4, 3), (5, 3), (6, 64), (7, 3), (8, 4)], 88⟩,
   some ⟨[.int .i64, .int .i64, .int .i64, .int .i64, .int .i64, .int .i64, .sl 82, .int .i64, .bool], true, none, [(0, 3), (1, 3), (2, 3), (3, 3), (4, 3), (5, 3), (6, 64), (7, 3), (8, 4)], 88⟩,
   none,
   some ⟨[.fn], false, none, [], 8⟩,
   some ⟨[.sl 69], false, some 69, [], 24⟩,
   none,
   some ⟨[.fn], false, none, [], 8⟩,
   some ⟨[.fn], false, none, [], 8⟩,
   some ⟨[.fn], false, none, [], 8⟩,
   some ⟨[.int .i64, .sl 5, .sl 5, .int .i64], true, none, [(0, 3), (1, 22), (2, 22), (3, 3)], 64⟩,
   some ⟨[.int .i64, .sl 5, .sl 5, .int .i64], true, none, [(0, 3), (1, 22), (2, 22), (3, 3)], 64⟩,
   some ⟨[.int .i64, .int .i64, .int .i64, .sl 5, .sl 5, .int .i64], true, none, [(0, 3), (1, 3), (2, 78)], 80⟩],
  [some ⟨[.int .i64, .int .i64, .int .i64, .sl 5, .sl 5, .int .i64], true, none, [(0, 3), (1, 3), (2, 78)], 80⟩,
   some ⟨[.int .i64, .int .i64, .int .i64, .int .i64, .sl 5, .sl 5, .int .i64], true, none, [(0, 3), (1, 80)], 88⟩,
   some ⟨[.int .i64, .int .i64, .int .i64, .int .i64, .sl 5, .sl 5, .int .i64], true, none, [(0, 3), (1, 80)], 88⟩,
   some ⟨[.fn], false, none, [], 8⟩,
   some ⟨[.sl 94], false, some 94, [], 24⟩,
   some ⟨[.sl 151], false, some 151, [], 24⟩,
   some ⟨[.sl 154], false, some 154, [], 24⟩,
   some ⟨[.sl 158], false, some 158, [], 24⟩,
   some ⟨[.int .i64, .sl 94, .sl 151, .int .i64, .sl 154, .sl 158], true, none, [(0, 3), (1, 84), (2, 85), (3, 3), (4, 86), (5, 87)], 112⟩,
   some ⟨[.int .i64, .sl 94, .sl 151, .int .i64, .sl 154, .sl 158], true, none, [(0, 3), (1, 84), (2, 85), (3, 3), (4, 86), (5, 87)], 112⟩,
   some ⟨[.fn], false, none, [], 8⟩,
   some ⟨[.fn], false, none, [], 8⟩,
   some ⟨[.fn], false, none, [], 8⟩,
   some ⟨[.sl 5, .sl 5, .int .i64, .int .i64], true, none, [(0, 22), (1, 22), (2, 3), (3, 3)], 64⟩,
   some ⟨[.sl 5, .sl 5, .int .i64, .int .i64], true, none, [(0, 22), (1, 22), (2, 3), (3, 3)], 64⟩,
   some ⟨[.sl 100], false, some 100, [], 24⟩],
  [some ⟨[.fn], false, none, [], 8⟩,
   some ⟨[.fn], false, none, [], 8⟩,
   some ⟨[.fn], false, none, [], 8⟩,
   some ⟨[.sl 5, .int .i64], true, none, [(0, 22), (1, 3)], 32⟩,
   some ⟨[.sl 5, .int .i64], true, none, [(0, 22), (1, 3)], 32⟩,
   some ⟨[.fn], false, none, [], 8⟩,
   some ⟨[.fn], false, none, [], 8⟩,
   some ⟨[.fn], false, none, [], 8⟩,
   some ⟨[.ptr], false, none, [], 8⟩,
   some ⟨[.fn], false, none, [], 8⟩,
   some ⟨[.fn], false, none, [], 8⟩,
   some ⟨[.fn], false, none, [], 8⟩,
   some ⟨[.fn], false, none, [], 8⟩,
   some ⟨[.fn], false, none, [], 8⟩,
   some ⟨[.fn], false, none, [], 8⟩,
   some ⟨[.fn], false, none, [], 8⟩],
  [some ⟨[.fn], false, none, [], 8⟩,
   some ⟨[.fn], false, none, [], 8⟩,
   some ⟨[.fn], false, none, [], 8⟩,
   some ⟨[.ptr], false, none, [], 8⟩,
   some ⟨[.fn], false, none, [], 8⟩,
   some ⟨[.fn], false, none, [], 8⟩,
   some ⟨[.fn], false, none, [], 8⟩,
   some ⟨[.fn], false, none, [], 8⟩,
   some ⟨[.fn], false, none, [], 8⟩,
   some ⟨[.fn], false, none, [], 8⟩,
   some ⟨[.fn], false, none, [], 8⟩,
   some ⟨[.ptr], false, none, [], 8⟩,
   some ⟨[.fn], false, none, [], 8⟩,
   some ⟨[.fn], false, none, [], 8⟩,
   some ⟨[.fn], false, none, [], 8⟩,
   some ⟨[.int .i64, .int .i64], true, none, [(0, 3), (1, 3)], 16⟩],
  [some ⟨[.int .i64, .int .i64], true, none, [(0, 3), (1, 3)], 16⟩,
   some ⟨[.fn], false, none, [], 8⟩,
   some ⟨[.fn], false, none, [], 8⟩,
   some ⟨[.fn], false, none, [], 8⟩,
   some ⟨[.fn], false, none, [], 8⟩,
   some ⟨[.fn], false, none, [], 8⟩,
   some ⟨[.fn], false, none, [], 8⟩,
   some ⟨[.fn], false, none, [], 8⟩,
   some ⟨[.fn], false, none, [], 8⟩,
   some ⟨[.fn], false, none, [], 8⟩,
   some ⟨[.ptr], false, none, [], 8⟩,
   some ⟨[.ptr], false, none, [], 8⟩,
   some ⟨[.fn], false, none, [], 8⟩,
   some ⟨[.int .i64, .int .i64, .int .i64, .sl 82, .int .i64, .int .i64, .int .i64, .int .i64, .sl 4, .sl 3, .sl 3, .sl 69], true, none, [(0, 67), (11, 72)], 176⟩,
   some ⟨[.int .i64, .int .i64, .int .i64, .sl 82, .int .i64, .int .i64, .int .i64, .int .i64, .sl 4, .sl 3, .sl 3, .sl 69], true, none, [(0, 67), (11, 72)], 176⟩,
   some ⟨[.fn], false, none, [], 8⟩],
  [some ⟨[.fn], false, none, [], 8⟩,
   some ⟨[.fn], false, none, [], 8⟩,
   some ⟨[.fn], false, none, [], 8⟩,
   some ⟨[.fn], false, none, [], 8⟩,
   some ⟨[.fn], false, none, [], 8⟩,
   some ⟨[.fn], false, none, [], 8⟩,
   some ⟨[.sl 5, .int .i64], true, none, [(0, 22), (1, 3)], 32⟩,
   some ⟨[.sl 5, .int .i64], true, none, [(0, 22), (1, 3)], 32⟩,
   some ⟨[.fn], false, none, [], 8⟩,
   some ⟨[.int .i64, .bool], true, none, [(0, 3), (1, 4)], 16⟩,
   some ⟨[.int .i64, .bool], true, none, [(0, 3), (1, 4)], 16⟩,
   some ⟨[.int .i64, .int .i64], true, none, [(0, 3), (1, 3)], 16⟩,
   some ⟨[.int .i64, .int .i64], true, none, [(0, 3), (1, 3)], 16⟩,
   some ⟨[.int .i64, .int .i64, .int .i64, .int .i64], true, none, [(0, 3), (1, 3), (2, 156)], 32⟩,
   some ⟨[.int .i64, .int .i64, .int .i64, .int .i64], true, none, [(0, 3), (1, 3), (2, 156)], 32⟩,
   some ⟨[.fn], false, none, [], 8⟩],
  [some ⟨[.fn], false, none, [], 8⟩,
   some ⟨[.fn], false, none, [], 8⟩,
   some ⟨[.fn], false, none, [], 8⟩,
   some ⟨[.fn], false, none, [], 8⟩,
   some ⟨[.fn], false, none, [], 8⟩,
   some ⟨[.fn], false, none, [], 8⟩,
   some ⟨[.fn], false, none, [], 8⟩,
   some ⟨[.fn], false, none, [], 8⟩,
   some ⟨[.fn], false, none, [], 8⟩,
   some ⟨[.fn], false, none, [], 8⟩,
   some ⟨[.fn], false, none, [], 8⟩,
   some ⟨[.fn], false, none, [], 8⟩,
   some ⟨[.int .i64, .int .i64], true, none, [(0, 3), (1, 3)], 16⟩,
   some ⟨[.fn], false, none, [], 8⟩,
   some ⟨[.fn], false, none, [], 8⟩,
   some ⟨[.fn], false, none, [], 8⟩],
  [some ⟨[.fn], false, none, [], 8⟩,
   some ⟨[.sl 5, .int .i64, .int .i64], true, none, [(0, 22), (1, 3), (2, 3)], 40⟩,
   some ⟨[.sl 5, .int .i64, .int .i64], true, none, [(0, 22), (1, 3), (2, 3)], 40⟩,
   some ⟨[.fn], false, none, [], 8⟩,
   some ⟨[.fn], false, none, [], 8⟩,
   some ⟨[.fn], false, none, [], 8⟩,
   some ⟨[.fn], false, none, [], 8⟩,
   some ⟨[.fn], false, none, [], 8⟩,
   some ⟨[.fn], false, none, [], 8⟩,
   some ⟨[.fn], false, none, [], 8⟩,
   some ⟨[.fn], false, none, [], 8⟩,
   some ⟨[.fn], false, none, [], 8⟩,
   some ⟨[.fn], false, none, [], 8⟩,
   some ⟨[.fn], false, none, [], 8⟩,
   some ⟨[.sl 9], false, some 9, [], 24⟩,
   some ⟨[.fn], false, none, [], 8⟩],
  [some ⟨[.fn], false, none, [], 8⟩,
   some ⟨[.ptr], false, none, [], 8⟩,
   some ⟨[.fn], false, none, [], 8⟩,
   some ⟨[.fn], false, none, [], 8⟩,
   some ⟨[.int .u64], false, none, [], 8⟩,
   some ⟨[.fn], false, none, [], 8⟩,
   some ⟨[.fn], false, none, [], 8⟩,
   some ⟨[.fn], false, none, [], 8⟩,
   some ⟨[.fn], false, none, [], 8⟩,
   some ⟨[.fn], false, none, [], 8⟩,
   some ⟨[.fn], false, none, [], 8⟩,
   some ⟨[.fn], false, none, [], 8⟩,
   some ⟨[.fn], false, none, [], 8⟩,
   some ⟨[.fn], false, none, [], 8⟩,
   some ⟨[.ptr], false, none, [], 8⟩,
   some ⟨[.fn], false, none, [], 8⟩],
  [some ⟨[.fn], false, none, [], 8⟩,
   some ⟨[.fn], false, none, [], 8⟩,
   some ⟨[.fn], false, none, [], 8⟩,
   some ⟨[.fn], false, none, [], 8⟩,
   some ⟨[.fn], false, none, [], 8⟩,
   some ⟨[.fn], false, none, [], 8⟩,
   some ⟨[.fn], false, none, [], 8⟩,
   some ⟨[.fn], false, none, [], 8⟩,
   some ⟨[.fn], false, none, [], 8⟩,
   some ⟨[.int .i64], false, none, [], 8⟩,
   none,
   some ⟨[.fn], false, none, [], 8⟩,
   some ⟨[.fn], false, none, [], 8⟩,
   some ⟨[.fn], false, none, [], 8⟩,
   some ⟨[.fn], false, none, [], 8⟩,
   some ⟨[.fn], false, none, [], 8⟩],
  [some ⟨[.int .u32], false, none, [], 4⟩,
   some ⟨[.fn], false, none, [], 8⟩,
   some ⟨[.int .u64], false, none, [], 8⟩,
   some ⟨[.fn], false, none, [], 8⟩,
   some ⟨[.fn], false, none, [], 8⟩,
   some ⟨[.fn], false, none, [], 8⟩,
   some ⟨[.fn], false, none, [], 8⟩,
   some ⟨[.int .u64], false, none, [], 8⟩,
   some ⟨[.fn], false, none, [], 8⟩,
   some ⟨[.fn], false, none, [], 8⟩,
   some ⟨[.fn], false, none, [], 8⟩,
   some ⟨[.fn], false, none, [], 8⟩,
   some ⟨[.fn], false, none, [], 8⟩,
   some ⟨[.fn], false, none, [], 8⟩,
   some ⟨[.ptr], false, none, [], 8⟩,
   none],
  [some ⟨[.fn], false, none, [], 8⟩,
   some ⟨[.fn], false, none, [], 8⟩,
   some ⟨[.ptr, .ptr, .ptr, .str], true, none, [(0, 17), (1, 17), (2, 17), (3, 9)], 40⟩,
   some ⟨[.ptr, .ptr, .ptr, .str], true, none, [(0, 17), (1, 17), (2, 17), (3, 9)], 40⟩,
   none,
   none,
   none,
   some ⟨[.int .u8], false, none, [], 1⟩,
   some ⟨[.int .u8], false, none, [], 1⟩,
   some ⟨[.fn], false, none, [], 8⟩,
   some ⟨[.ptr], false, none, [], 8⟩,
   some ⟨[.int .i32], false, none, [], 4⟩,
   some ⟨[.int .i32], false, none, [], 4⟩,
   some ⟨[.int .u64, .int .u64, .int .u32, .int .u8, .int .u8, .int .u8, .int .u8, .fn, .ptr, .int .i32, .int .i32], true, none, [(0, 12), (1, 12), (2, 224), (3, 247), (4, 5), (5, 5), (6, 248), (7, 249), (8, 250), (9, 251), (10, 252)], 48⟩,
   some ⟨[.int .u64, .int .u64, .int .u32, .int .u8, .int .u8, .int .u8, .int .u8, .fn, .ptr, .int .i32, .int .i32], true, none, [(0, 12), (1, 12), (2, 224), (3, 247), (4, 5), (5, 5), (6, 248), (7, 249), (8, 250), (9, 251), (10, 252)], 48⟩,
   none]]
def tab : Tab := tabOf chunks
abbrev t_tuple_0 : TypeId := 0
abbrev t_func_1 : TypeId := 1
abbrev t_int : TypeId := 2
abbrev t_int' : TypeId := 3
abbrev t_bool : TypeId := 4
abbrev t_byte : TypeId := 5
abbrev t_abi_BoundsErrorCode : TypeId := 6
abbrev t_st_7 : TypeId := 7
abbrev t_runtime_boundsError : TypeId := 8
abbrev t_string : TypeId := 9
abbrev t_runtime_errorString : TypeId := 10
abbrev t_runtime_plainError : TypeId := 11
abbrev t_u64 : TypeId := 12
abbrev t_st_13 : TypeId := 13
abbrev t_runtime_errorAddressString : TypeId := 14
abbrev t_ptr_runtime_TypeAssertionError : TypeId := 15
abbrev t_ptr_runtime_PanicNilError : TypeId := 16
abbrev t_ptr_abi_Type : TypeId := 17
abbrev t_st_18 : TypeId := 18
abbrev t_maps_unhashableTypeError : TypeId := 19
abbrev t_interface_20 : TypeId := 20
abbrev t_i32 : TypeId := 21
abbrev t_sl_byte : TypeId := 22
abbrev t_sl_impl_Tree : TypeId := 23
abbrev t_st_24 : TypeId := 24
abbrev t_impl_Tree : TypeId := 25
abbrev t_tuple_26 : TypeId := 26
abbrev t_func_27 : TypeId := 27
abbrev t_tuple_28 : TypeId := 28
abbrev t_func_29 : TypeId := 29
abbrev t_func_30 : TypeId := 30
abbrev t_tuple_31 : TypeId := 31
abbrev t_func_32 : TypeId := 32
abbrev t_tuple_33 : TypeId := 33
abbrev t_func_34 : TypeId := 34
abbrev t_sl_sl_byte : TypeId := 35
abbrev t_func_36 : TypeId := 36
abbrev t_func_37 : TypeId := 37
abbrev t_func_38 : TypeId := 38
abbrev t_func_39 : TypeId := 39
abbrev t_func_40 : TypeId := 40
abbrev t_sl_laws_Timer : TypeId := 41
abbrev t_st_42 : TypeId := 42
abbrev t_laws_Wheel : TypeId := 43
abbrev t_func_44 : TypeId := 44
abbrev t_sl_impl_Timer : TypeId := 45
abbrev t_st_46 : TypeId := 46
abbrev t_impl_Wheel : TypeId := 47
abbrev t_tuple_48 : TypeId := 48
abbrev t_func_49 : TypeId := 49
abbrev t_func_50 : TypeId := 50
abbrev t_func_51 : TypeId := 51
abbrev t_func_52 : TypeId := 52
abbrev t_func_53 : TypeId := 53
abbrev t_tuple_54 : TypeId := 54
abbrev t_func_55 : TypeId := 55
abbrev t_func_56 : TypeId := 56
abbrev t_func_57 : TypeId := 57
abbrev t_func_58 : TypeId := 58
abbrev t_func_59 : TypeId := 59
abbrev t_func_60 : TypeId := 60
abbrev t_sl_int : TypeId := 61
abbrev t_tuple_62 : TypeId := 62
abbrev t_func_63 : TypeId := 63
abbrev t_sl_impl_Item : TypeId := 64
abbrev t_sl_bool : TypeId := 65
abbrev t_st_66 : TypeId := 66
abbrev t_impl_Node : TypeId := 67
abbrev t_st_68 : TypeId := 68
abbrev t_impl_Msg : TypeId := 69
abbrev t_tuple_70 : TypeId := 70
abbrev t_func_71 : TypeId := 71
abbrev t_sl_impl_Msg : TypeId := 72
abbrev t_tuple_73 : TypeId := 73
abbrev t_func_74 : TypeId := 74
abbrev t_func_75 : TypeId := 75
abbrev t_func_76 : TypeId := 76
abbrev t_st_77 : TypeId := 77
abbrev t_impl_Op : TypeId := 78
abbrev t_st_79 : TypeId := 79
abbrev t_impl_Cmd : TypeId := 80
abbrev t_st_81 : TypeId := 81
abbrev t_impl_Item : TypeId := 82
abbrev t_func_83 : TypeId := 83
abbrev t_sl_impl_Row : TypeId := 84
abbrev t_sl_impl_Tomb : TypeId := 85
abbrev t_sl_impl_Session : TypeId := 86
abbrev t_sl_impl_Last : TypeId := 87
abbrev t_st_88 : TypeId := 88
abbrev t_impl_State : TypeId := 89
abbrev t_func_90 : TypeId := 90
abbrev t_func_91 : TypeId := 91
abbrev t_func_92 : TypeId := 92
abbrev t_st_93 : TypeId := 93
abbrev t_impl_Row : TypeId := 94
abbrev t_sl_impl_entry : TypeId := 95
abbrev t_func_96 : TypeId := 96
abbrev t_func_97 : TypeId := 97
abbrev t_func_98 : TypeId := 98
abbrev t_st_99 : TypeId := 99
abbrev t_impl_entry : TypeId := 100
abbrev t_func_101 : TypeId := 101
abbrev t_func_102 : TypeId := 102
abbrev t_func_103 : TypeId := 103
abbrev t_ptr_int : TypeId := 104
abbrev t_func_105 : TypeId := 105
abbrev t_func_106 : TypeId := 106
abbrev t_func_107 : TypeId := 107
abbrev t_func_108 : TypeId := 108
abbrev t_func_109 : TypeId := 109
abbrev t_func_110 : TypeId := 110
abbrev t_func_111 : TypeId := 111
abbrev t_func_112 : TypeId := 112
abbrev t_func_113 : TypeId := 113
abbrev t_func_114 : TypeId := 114
abbrev t_ptr_impl_Wheel : TypeId := 115
abbrev t_func_116 : TypeId := 116
abbrev t_func_117 : TypeId := 117
abbrev t_func_118 : TypeId := 118
abbrev t_func_119 : TypeId := 119
abbrev t_func_120 : TypeId := 120
abbrev t_func_121 : TypeId := 121
abbrev t_func_122 : TypeId := 122
abbrev t_ptr_spec_l1Cur : TypeId := 123
abbrev t_func_124 : TypeId := 124
abbrev t_func_125 : TypeId := 125
abbrev t_func_126 : TypeId := 126
abbrev t_st_127 : TypeId := 127
abbrev t_impl_Timer : TypeId := 128
abbrev t_func_129 : TypeId := 129
abbrev t_func_130 : TypeId := 130
abbrev t_func_131 : TypeId := 131
abbrev t_func_132 : TypeId := 132
abbrev t_func_133 : TypeId := 133
abbrev t_func_134 : TypeId := 134
abbrev t_func_135 : TypeId := 135
abbrev t_func_136 : TypeId := 136
abbrev t_func_137 : TypeId := 137
abbrev t_ptr_impl_Node : TypeId := 138
abbrev t_ptr_impl_server : TypeId := 139
abbrev t_func_140 : TypeId := 140
abbrev t_st_141 : TypeId := 141
abbrev t_impl_server : TypeId := 142
abbrev t_func_143 : TypeId := 143
abbrev t_func_144 : TypeId := 144
abbrev t_func_145 : TypeId := 145
abbrev t_func_146 : TypeId := 146
abbrev t_func_147 : TypeId := 147
abbrev t_func_148 : TypeId := 148
abbrev t_func_149 : TypeId := 149
abbrev t_st_150 : TypeId := 150
abbrev t_impl_Tomb : TypeId := 151
abbrev t_func_152 : TypeId := 152
abbrev t_st_153 : TypeId := 153
abbrev t_impl_Session : TypeId := 154
abbrev t_st_155 : TypeId := 155
abbrev t_impl_Reply : TypeId := 156
abbrev t_st_157 : TypeId := 157
abbrev t_impl_Last : TypeId := 158
abbrev t_func_159 : TypeId := 159
abbrev t_func_160 : TypeId := 160
abbrev t_func_161 : TypeId := 161
abbrev t_func_162 : TypeId := 162
abbrev t_func_163 : TypeId := 163
abbrev t_func_164 : TypeId := 164
abbrev t_func_165 : TypeId := 165
abbrev t_func_166 : TypeId := 166
abbrev t_func_167 : TypeId := 167
abbrev t_func_168 : TypeId := 168
abbrev t_func_169 : TypeId := 169
abbrev t_func_170 : TypeId := 170
abbrev t_func_171 : TypeId := 171
abbrev t_laws_Timer : TypeId := 172
abbrev t_func_173 : TypeId := 173
abbrev t_func_174 : TypeId := 174
abbrev t_func_175 : TypeId := 175
abbrev t_func_176 : TypeId := 176
abbrev t_st_177 : TypeId := 177
abbrev t_spec_l1Cur : TypeId := 178
abbrev t_func_179 : TypeId := 179
abbrev t_func_180 : TypeId := 180
abbrev t_func_181 : TypeId := 181
abbrev t_func_182 : TypeId := 182
abbrev t_func_183 : TypeId := 183
abbrev t_func_184 : TypeId := 184
abbrev t_func_185 : TypeId := 185
abbrev t_func_186 : TypeId := 186
abbrev t_func_187 : TypeId := 187
abbrev t_func_188 : TypeId := 188
abbrev t_func_189 : TypeId := 189
abbrev t_sl_string : TypeId := 190
abbrev t_func_191 : TypeId := 191
abbrev t_func_192 : TypeId := 192
abbrev t_ptr_impl_Tree : TypeId := 193
abbrev t_func_194 : TypeId := 194
abbrev t_func_195 : TypeId := 195
abbrev t_u64' : TypeId := 196
abbrev t_func_197 : TypeId := 197
abbrev t_func_198 : TypeId := 198
abbrev t_func_199 : TypeId := 199
abbrev t_func_200 : TypeId := 200
abbrev t_func_201 : TypeId := 201
abbrev t_func_202 : TypeId := 202
abbrev t_func_203 : TypeId := 203
abbrev t_func_204 : TypeId := 204
abbrev t_func_205 : TypeId := 205
abbrev t_ptr_impl_State : TypeId := 206
abbrev t_func_207 : TypeId := 207
abbrev t_func_208 : TypeId := 208
abbrev t_func_209 : TypeId := 209
abbrev t_func_210 : TypeId := 210
abbrev t_func_211 : TypeId := 211
abbrev t_func_212 : TypeId := 212
abbrev t_func_213 : TypeId := 213
abbrev t_func_214 : TypeId := 214
abbrev t_func_215 : TypeId := 215
abbrev t_func_216 : TypeId := 216
abbrev t_slices_sortedHint : TypeId := 217
abbrev t_tuple_218 : TypeId := 218
abbrev t_func_219 : TypeId := 219
abbrev t_func_220 : TypeId := 220
abbrev t_func_221 : TypeId := 221
abbrev t_func_222 : TypeId := 222
abbrev t_func_223 : TypeId := 223
abbrev t_u32 : TypeId := 224
abbrev t_func_225 : TypeId := 225
abbrev t_u64'' : TypeId := 226
abbrev t_func_227 : TypeId := 227
abbrev t_func_228 : TypeId := 228
abbrev t_func_229 : TypeId := 229
abbrev t_func_230 : TypeId := 230
abbrev t_slices_xorshift : TypeId := 231
abbrev t_func_232 : TypeId := 232
abbrev t_func_233 : TypeId := 233
abbrev t_func_234 : TypeId := 234
abbrev t_func_235 : TypeId := 235
abbrev t_func_236 : TypeId := 236
abbrev t_func_237 : TypeId := 237
abbrev t_ptr_slices_xorshift : TypeId := 238
abbrev t_tuple_239 : TypeId := 239
abbrev t_func_240 : TypeId := 240
abbrev t_func_241 : TypeId := 241
abbrev t_st_242 : TypeId := 242
abbrev t_runtime_TypeAssertionError : TypeId := 243
abbrev t_array_244 : TypeId := 244
abbrev t_st_245 : TypeId := 245
abbrev t_runtime_PanicNilError : TypeId := 246
abbrev t_abi_TFlag : TypeId := 247
abbrev t_abi_Kind : TypeId := 248
abbrev t_func_249 : TypeId := 249
abbrev t_ptr_byte : TypeId := 250
abbrev t_abi_NameOff : TypeId := 251
abbrev t_abi_TypeOff : TypeId := 252
abbrev t_st_253 : TypeId := 253
abbrev t_abi_Type : TypeId := 254
abbrev t_other_255 : TypeId := 255
def n_runtime_boundsError (x : V) : V := .agg [.int .i64 (gi x 0), .int .i64 (gi x 1), .bool (gb x 2), .int .u8 (gi x 3)]
def n_runtime_errorAddressString (x : V) : V := .agg [.str (gs x 0), .int .u64 (gi x 1)]
def n_impl_Tree (x : V) : V := .agg [.inl t_byte (gl x 0), .bool (gb x 1), .int .i64 (gi x 2), .inl t_impl_Tree (gl x 3)]
def n_laws_Wheel (x : V) : V := .agg [.int .i64 (gi x 0), .inl t_laws_Timer (gl x 1)]
def n_impl_Wheel (x : V) : V := .agg [.int .i64 (gi x 0), .inl t_impl_Timer (gl x 1)]
def n_impl_Node (x : V) : V := .agg [.int .i64 (gi x 0), .int .i64 (gi x 1), .int .i64 (gi x 2), .inl t_impl_Item (gl x 3), .int .i64 (gi x 4), .int .i64 (gi x 5), .int .i64 (gi x 6), .int .i64 (gi x 7), .inl t_bool (gl x 8), .inl t_int' (gl x 9), .inl t_int' (gl x 10)]
def n_impl_Msg (x : V) : V := .agg [.int .i64 (gi x 0), .int .i64 (gi x 1), .int .i64 (gi x 2), .int .i64 (gi x 3), .int .i64 (gi x 4), .int .i64 (gi x 5), .inl t_impl_Item (gl x 6), .int .i64 (gi x 7), .bool (gb x 8)]
def n_impl_Op (x : V) : V := .agg [.int .i64 (gi x 0), .inl t_byte (gl x 1), .inl t_byte (gl x 2), .int .i64 (gi x 3)]
def n_impl_Cmd (x : V) : V := .agg [.int .i64 (gi x 0), .int .i64 (gi x 1), .int .i64 (gi x 2), .inl t_byte (gl x 3), .inl t_byte (gl x 4), .int .i64 (gi x 5)]
def n_impl_Item (x : V) : V := .agg [.int .i64 (gi x 0), .int .i64 (gi x 1), .int .i64 (gi x 2), .int .i64 (gi x 3), .inl t_byte (gl x 4), .inl t_byte (gl x 5), .int .i64 (gi x 6)]
def n_impl_State (x : V) : V := .agg [.int .i64 (gi x 0), .inl t_impl_Row (gl x 1), .inl t_impl_Tomb (gl x 2), .int .i64 (gi x 3), .inl t_impl_Session (gl x 4), .inl t_impl_Last (gl x 5)]
def n_impl_Row (x : V) : V := .agg [.inl t_byte (gl x 0), .inl t_byte (gl x 1), .int .i64 (gi x 2), .int .i64 (gi x 3)]
def n_impl_entry (x : V) : V := .agg [.inl t_byte (gl x 0), .int .i64 (gi x 1)]
def n_impl_Timer (x : V) : V := .agg [.int .i64 (gi x 0), .int .i64 (gi x 1)]
def n_impl_server (x : V) : V := .agg [.int .i64 (gi x 0), .int .i64 (gi x 1), .int .i64 (gi x 2), .inl t_impl_Item (gl x 3), .int .i64 (gi x 4), .int .i64 (gi x 5), .int .i64 (gi x 6), .int .i64 (gi x 7), .inl t_bool (gl x 8), .inl t_int' (gl x 9), .inl t_int' (gl x 10), .inl t_impl_Msg (gl x 11)]
def n_impl_Session (x : V) : V := .agg [.int .i64 (gi x 0), .bool (gb x 1)]
def n_impl_Last (x : V) : V := .agg [.int .i64 (gi x 0), .int .i64 (gi x 1), .int .i64 (gi x 2), .int .i64 (gi x 3)]
def n_spec_l1Cur (x : V) : V := .agg [.inl t_byte (gl x 0), .int .i64 (gi x 1), .int .i64 (gi x 2)]
abbrev vi (n : Int) : V := .int .i64 n
abbrev w6 (n : Int) : Int := IntKind.i64.wrap n
abbrev vs (k : Nat) (T : TypeId) : V := .sl k T 0 none
abbrev ln (l : List V) : Int := ((l.length : Nat) : Int)
def noL : Loops := ⟨fun _ => [], fun _ => [], fun _ => [], runL [], [], fun _ => []⟩
theorem noLo {cfg : Cfg} {fn : Func} : LoopsOk cfg noL (bodyOf fn) := GoodAll.ok (l := []) GoodAll.nil rfl
end Go.Eng.R
open Go Go.Eng
namespace Go.Eng.R
def spec_l1New_l3 : Nat → List V → Int → Int → Option (List V × Int)
  | 0, _, _, _ => none
  | k_ + 1, code0, h3, i4 =>
    bif (decide (i4 < ((code0.length : Nat) : Int))) then
      bif (decide (i4 < 4000)) then
        bif (idxOk i4 code0.length) then
          spec_l1New_l3 k_ code0 (bAnd .i64 (IntKind.i64.wrap ((IntKind.i64.wrap ((IntKind.i64.wrap (h3 * 131)) + (IntKind.i64.wrap (gi (rd code0 i4.toNat) 0)))) + 7)) 1073741823) (IntKind.i64.wrap (i4 + 1))
        else none
      else some (code0, h3)
    else some (code0, h3)
def spec_l1New (code : List V) : Option (V) :=
  Option.bind (spec_l1New_l3 ((((code.length : Nat) : Int) - 0).toNat + 1) code (IntKind.i64.wrap (36565 + ((code.length : Nat) : Int))) 0) fun r1 =>
  some (V.agg [(V.inl t_byte r1.1), (V.int .i64 0), (V.int .i64 r1.2)])
def spec_l1Byte (c : V) : Option (Int × V) :=
  bif (decide ((gi c 1) < (((gl c 0).length : Nat) : Int))) then
    bif (idxOk (gi c 1) ((gl c 0).length)) then
      some ((bAnd .i64 (IntKind.i64.wrap ((bAnd .i64 (bXor .i64 (sShr .i64 (IntKind.i64.wrap ((IntKind.i64.wrap ((gi c 2) * 6364136223846793005)) + 1442695040888963407)) 33) (sShr .i64 (IntKind.i64.wrap ((IntKind.i64.wrap ((gi c 2) * 6364136223846793005)) + 1442695040888963407)) 45)) 255) + (IntKind.i64.wrap (gi (rd (gl c 0) ((gi c 1).toNat)) 0)))) 255), (V.agg [(V.inl t_byte (gl c 0)), (V.int .i64 (IntKind.i64.wrap ((gi c 1) + 1))), (V.int .i64 (IntKind.i64.wrap ((IntKind.i64.wrap ((gi c 2) * 6364136223846793005)) + 1442695040888963407)))]))
    else none
  else some ((bAnd .i64 (bXor .i64 (sShr .i64 (IntKind.i64.wrap ((IntKind.i64.wrap ((gi c 2) * 6364136223846793005)) + 1442695040888963407)) 33) (sShr .i64 (IntKind.i64.wrap ((IntKind.i64.wrap ((gi c 2) * 6364136223846793005)) + 1442695040888963407)) 45)) 255), (V.agg [(V.inl t_byte (gl c 0)), (V.int .i64 (gi c 1)), (V.int .i64 (IntKind.i64.wrap ((IntKind.i64.wrap ((gi c 2) * 6364136223846793005)) + 1442695040888963407)))]))
def spec_l1Below (c : V) (n : Int) : Option (Int × V) :=
  bif (decide (n ≤ 0)) then
    some (0, (n_spec_l1Cur c))
  else bif (decide (n ≤ 256)) then
    Option.bind (spec_l1Byte (n_spec_l1Cur c)) fun r3 =>
    bif (!(decide (n = 0))) then
      some ((r3.1.tmod n), (n_spec_l1Cur r3.2))
    else none
  else Option.bind (spec_l1Byte (n_spec_l1Cur c)) fun r4 =>
  Option.bind (spec_l1Byte (n_spec_l1Cur r4.2)) fun r5 =>
  Option.bind (spec_l1Byte (n_spec_l1Cur r5.2)) fun r6 =>
  Option.bind (spec_l1Byte (n_spec_l1Cur r6.2)) fun r7 =>
  bif (!(decide (n = 0))) then
    some (((IntKind.i64.wrap ((IntKind.i64.wrap ((IntKind.i64.wrap ((IntKind.i64.wrap (r4.1 * 16777216)) + (IntKind.i64.wrap (r5.1 * 65536)))) + (IntKind.i64.wrap (r6.1 * 256)))) + r7.1)).tmod n), (n_spec_l1Cur r7.2))
  else none
def spec_l7find_l2 : Nat → List V → Int → Int → Option (Nat × Int)
  | 0, _, _, _ => none
  | k_ + 1, l0, id1, i5 =>
    bif (decide (i5 < ((l0.length : Nat) : Int))) then
      bif (idxOk i5 l0.length) then
        bif (decide ((gi (rd l0 i5.toNat) 0) = id1)) then
          some (0, i5)
        else spec_l7find_l2 k_ l0 id1 (IntKind.i64.wrap (i5 + 1))
      else none
    else some (1, 0)
def spec_l7find (l : List V) (id : Int) : Option (Int) :=
  Option.bind (spec_l7find_l2 ((((l.length : Nat) : Int) - 0).toNat + 1) l id 0) fun r14 =>
  bif (Nat.beq r14.1 0) then
    some r14.2
  else some (-1)
def spec_l7stop (w : V) (id : Int) : Option (Bool × V) :=
  Option.bind (spec_l7find (gl w 1) id) fun r16 =>
  bif (decide (r16 < 0)) then
    some (false, (n_impl_Wheel w))
  else bif ((decide ((0 : Int) ≤ r16)) && (decide (r16 ≤ (((gl w 1).length : Nat) : Int)))) then
    bif ((roomy (0 + (((gl w 1).take r16.toNat).length)) 16) && true) then
      bif ((decide ((0 : Int) ≤ (IntKind.i64.wrap (r16 + 1)))) && (decide ((IntKind.i64.wrap (r16 + 1)) ≤ (((gl w 1).length : Nat) : Int)))) then
        bif ((roomy ((((gl w 1).take r16.toNat).length) + (((gl w 1).drop (0 + ((IntKind.i64.wrap (r16 + 1)).toNat))).length)) 16) && true) then
          some (true, (V.agg [(V.int .i64 (gi w 0)), (V.inl t_impl_Timer (((gl w 1).take r16.toNat) ++ ((gl w 1).drop (0 + ((IntKind.i64.wrap (r16 + 1)).toNat)))))]))
        else none
      else none
    else none
  else none
def spec_l7ahead (a : V) (b : V) : Bool :=
  bif (decide ((gi a 1) < (gi b 1))) then
    true
  else bif (decide ((gi a 1) = (gi b 1))) then
    (decide ((gi a 0) < (gi b 0)))
  else false
def spec_l7set_l6 : Nat → Int → V → V → List V → Option (Int × V × V × List V)
  | 0, _, _, _, _ => none
  | k_ + 1, i8, b0, b1, r2 =>
    bif (decide (i8 < ((r2.length : Nat) : Int))) then
      bif (idxOk i8 r2.length) then
        bif spec_l7ahead (n_impl_Timer (rd r2 (0 + i8.toNat))) (n_impl_Timer b1) then
          spec_l7set_l6 k_ (IntKind.i64.wrap (i8 + 1)) (V.agg [(V.int .i64 (gi b0 0)), (V.sl 2 t_impl_Timer 0 none)]) (n_impl_Timer b1) r2
        else some (i8, (V.agg [(V.int .i64 (gi b0 0)), (V.sl 2 t_impl_Timer 0 none)]), (n_impl_Timer b1), r2)
      else none
    else some (i8, (V.agg [(V.int .i64 (gi b0 0)), (V.sl 2 t_impl_Timer 0 none)]), (n_impl_Timer b1), r2)
def spec_l7set (w : V) (id : Int) (after : Int) : Option (Bool × V) :=
  bif (decide (id < 0)) then
    some (false, (n_impl_Wheel w))
  else bif (decide ((2147483647 : Int) < id)) then
    some (false, (n_impl_Wheel w))
  else bif (decide (after < 1)) then
    some (false, (n_impl_Wheel w))
  else bif (decide ((1000000 : Int) < after)) then
    some (false, (n_impl_Wheel w))
  else Option.bind (spec_l7find (gl w 1) id) fun r15 =>
  bif (decide (r15 < 0)) then
    bif (decide ((40 : Int) ≤ (((gl w 1).length : Nat) : Int))) then
      some (false, (n_impl_Wheel w))
    else Option.bind (spec_l7stop (n_impl_Wheel w) id) fun r17 =>
    Option.bind (spec_l7set_l6 (((((gl r17.2 1).length : Nat) : Int) - 0).toNat + 1) 0 (V.agg [(V.int .i64 (gi r17.2 0)), (V.sl 2 t_impl_Timer 0 none)]) (V.agg [(V.int .i64 id), (V.int .i64 (IntKind.i64.wrap ((gi r17.2 0) + after)))]) (gl r17.2 1)) fun r18 =>
    bif ((decide ((0 : Int) ≤ r18.1)) && (decide (r18.1 ≤ ((r18.2.2.2.length : Nat) : Int)))) then
      bif ((roomy (0 + ((r18.2.2.2.take r18.1.toNat).length)) 16) && true) then
        bif ((roomy (((r18.2.2.2.take r18.1.toNat).length) + 1) 16) && true) then
          bif ((decide ((0 : Int) ≤ r18.1)) && (decide (r18.1 ≤ ((r18.2.2.2.length : Nat) : Int)))) then
            bif ((roomy ((((r18.2.2.2.take r18.1.toNat) ++ [(n_impl_Timer r18.2.2.1)]).length) + ((r18.2.2.2.drop (0 + r18.1.toNat)).length)) 16) && true) then
              some (true, (V.agg [(V.int .i64 (gi r18.2.1 0)), (V.inl t_impl_Timer (((r18.2.2.2.take r18.1.toNat) ++ [(n_impl_Timer r18.2.2.1)]) ++ (r18.2.2.2.drop (0 + r18.1.toNat))))]))
            else none
          else none
        else none
      else none
    else none
  else Option.bind (spec_l7stop (n_impl_Wheel w) id) fun r19 =>
  Option.bind (spec_l7set_l6 (((((gl r19.2 1).length : Nat) : Int) - 0).toNat + 1) 0 (V.agg [(V.int .i64 (gi r19.2 0)), (V.sl 2 t_impl_Timer 0 none)]) (V.agg [(V.int .i64 id), (V.int .i64 (IntKind.i64.wrap ((gi r19.2 0) + after)))]) (gl r19.2 1)) fun r20 =>
  bif ((decide ((0 : Int) ≤ r20.1)) && (decide (r20.1 ≤ ((r20.2.2.2.length : Nat) : Int)))) then
    bif ((roomy (0 + ((r20.2.2.2.take r20.1.toNat).length)) 16) && true) then
      bif ((roomy (((r20.2.2.2.take r20.1.toNat).length) + 1) 16) && true) then
        bif ((decide ((0 : Int) ≤ r20.1)) && (decide (r20.1 ≤ ((r20.2.2.2.length : Nat) : Int)))) then
          bif ((roomy ((((r20.2.2.2.take r20.1.toNat) ++ [(n_impl_Timer r20.2.2.1)]).length) + ((r20.2.2.2.drop (0 + r20.1.toNat)).length)) 16) && true) then
            some (true, (V.agg [(V.int .i64 (gi r20.2.1 0)), (V.inl t_impl_Timer (((r20.2.2.2.take r20.1.toNat) ++ [(n_impl_Timer r20.2.2.1)]) ++ (r20.2.2.2.drop (0 + r20.1.toNat))))]))
          else none
        else none
      else none
    else none
  else none
def spec_l7draw_l4 : Nat → Int → Int → V → V → V → List V → List V → Option (V × V × V × List V × List V)
  | 0, _, _, _, _, _, _, _ => none
  | k_ + 1, n4, i5, b0, b1, b2, r3, r4 =>
    bif (decide (i5 < n4)) then
      Option.bind (spec_l1Below (n_spec_l1Cur b0) 9) fun r12 =>
      Option.bind (spec_l1Below (n_spec_l1Cur r12.2) 12) fun r13 =>
      Option.bind (spec_l7set (V.agg [(V.int .i64 (gi b2 0)), (V.inl t_impl_Timer r4)]) r12.1 (IntKind.i64.wrap (1 + r13.1))) fun r21 =>
      spec_l7draw_l4 k_ n4 (IntKind.i64.wrap (i5 + 1)) (n_spec_l1Cur r13.2) (V.agg [(V.int .i64 (gi b1 0)), (V.sl 3 t_impl_Timer 0 none)]) (V.agg [(V.int .i64 (gi r21.2 0)), (V.sl 4 t_impl_Timer 0 none)]) r3 (gl r21.2 1)
    else some ((n_spec_l1Cur b0), (V.agg [(V.int .i64 (gi b1 0)), (V.sl 3 t_impl_Timer 0 none)]), (V.agg [(V.int .i64 (gi b2 0)), (V.sl 4 t_impl_Timer 0 none)]), r3, r4)
def spec_l7draw (c : V) : Option (V × V) :=
  Option.bind (spec_l1Below (n_spec_l1Cur c) 20) fun r10 =>
  Option.bind (spec_l1Below (n_spec_l1Cur r10.2) 8) fun r11 =>
  Option.bind (spec_l7draw_l4 ((r11.1 - 0).toNat + 1) r11.1 0 (n_spec_l1Cur r11.2) (V.agg [(V.int .i64 0), (V.sl 3 t_impl_Timer 0 none)]) (V.agg [(V.int .i64 r10.1), (V.sl 4 t_impl_Timer 0 none)]) [] []) fun r22 =>
  some ((V.agg [(V.int .i64 (gi r22.2.2.1 0)), (V.inl t_impl_Timer r22.2.2.2.2)]), (n_spec_l1Cur r22.1))
def spec_l1Once (c : V) (n : Int) : Option (Bool × V) :=
  Option.bind (spec_l1Below (n_spec_l1Cur c) n) fun r24 =>
  some ((decide (r24.1 = 0)), (n_spec_l1Cur r24.2))
def spec_l1PickInt (c : V) (list : List V) : Option (Int × V) :=
  Option.bind (spec_l1Below (n_spec_l1Cur c) ((list.length : Nat) : Int)) fun r27 =>
  bif (idxOk r27.1 list.length) then
    some ((gi (rd list r27.1.toNat) 0), (n_spec_l1Cur r27.2))
  else none
def spec_l7bent_l6 : Nat → Int → V → V → V → List V → List V → Option (V × V × V × List V × List V)
  | 0, _, _, _, _, _, _ => none
  | k_ + 1, i4, b0, b1, b2, r3, r4 =>
    Option.bind (spec_l1Below (n_spec_l1Cur b0) 2) fun r37 =>
    bif (decide (((r4.length : Nat) : Int) < (IntKind.i64.wrap (40 + r37.1)))) then
      bif ((roomy (r4.length + 1) 16) && true) then
        spec_l7bent_l6 k_ (IntKind.i64.wrap (i4 + 1)) (n_spec_l1Cur r37.2) (V.agg [(V.int .i64 (gi b1 0)), (V.sl 3 t_impl_Timer 0 none)]) (V.agg [(V.int .i64 (gi b2 0)), (V.sl 4 t_impl_Timer 0 none)]) r3 (r4 ++ [(V.agg [(V.int .i64 (IntKind.i64.wrap (100 + i4))), (V.int .i64 (IntKind.i64.wrap (500 + i4)))])])
      else none
    else some ((n_spec_l1Cur r37.2), (V.agg [(V.int .i64 (gi b1 0)), (V.sl 3 t_impl_Timer 0 none)]), (V.agg [(V.int .i64 (gi b2 0)), (V.sl 4 t_impl_Timer 0 none)]), r3, r4)
def spec_l7bent (c : V) : Option (V × V) :=
  Option.bind (spec_l7draw (n_spec_l1Cur c)) fun r31 =>
  Option.bind (spec_l1Once (n_spec_l1Cur r31.2) 7) fun r32 =>
  bif (!r32.1) then
    some ((n_impl_Wheel r31.1), (n_spec_l1Cur r32.2))
  else Option.bind (spec_l1Below (n_spec_l1Cur r32.2) 5) fun r33 =>
  bif (decide (r33.1 = 0)) then
    Option.bind (spec_l1PickInt (n_spec_l1Cur r33.2) [(V.int .i64 (-1)), (V.int .i64 1000000), (V.int .i64 1000001), (V.int .i64 30)]) fun r34 =>
    some ((V.agg [(V.int .i64 r34.1), (V.inl t_impl_Timer (gl r31.1 1))]), (n_spec_l1Cur r34.2))
  else bif (decide (r33.1 = 1)) then
    Option.bind (spec_l1Below (n_spec_l1Cur r33.2) 9) fun r35 =>
    bif ((roomy (((gl r31.1 1).length) + 1) 16) && true) then
      some ((V.agg [(V.int .i64 (gi r31.1 0)), (V.inl t_impl_Timer ((gl r31.1 1) ++ [(V.agg [(V.int .i64 r35.1), (V.int .i64 99)])]))]), (n_spec_l1Cur r35.2))
    else none
  else bif (decide (r33.1 = 2)) then
    bif (decide ((0 : Int) < (((gl r31.1 1).length : Nat) : Int))) then
      Option.bind (spec_l1PickInt (n_spec_l1Cur r33.2) [(V.int .i64 0), (V.int .i64 (gi r31.1 0)), (V.int .i64 2000000), (V.int .i64 2000001)]) fun r36 =>
      bif (idxOk 0 ((gl r31.1 1).length)) then
        some ((V.agg [(V.int .i64 (gi r31.1 0)), (V.inl t_impl_Timer ((gl r31.1 1).set 0 (V.agg [(V.int .i64 (gi (rd (gl r31.1 1) 0) 0)), (V.int .i64 r36.1)])))]), (n_spec_l1Cur r36.2))
      else none
    else some ((n_impl_Wheel r31.1), (n_spec_l1Cur r33.2))
  else bif (decide (r33.1 = 3)) then
    bif (decide ((0 : Int) < (((gl r31.1 1).length : Nat) : Int))) then
      bif (idxOk 0 ((gl r31.1 1).length)) then
        some ((V.agg [(V.int .i64 (gi r31.1 0)), (V.inl t_impl_Timer ((gl r31.1 1).set 0 (V.agg [(V.int .i64 (-1)), (V.int .i64 (gi (rd (gl r31.1 1) 0) 1))])))]), (n_spec_l1Cur r33.2))
      else none
    else some ((n_impl_Wheel r31.1), (n_spec_l1Cur r33.2))
  else Option.bind (spec_l7bent_l6 ((42 - (gl r31.1 1).length) + 1) 0 (n_spec_l1Cur r33.2) (V.agg [(V.int .i64 0), (V.sl 3 t_impl_Timer 0 none)]) (V.agg [(V.int .i64 (gi r31.1 0)), (V.sl 4 t_impl_Timer 0 none)]) [] (gl r31.1 1)) fun r38 =>
  some ((V.agg [(V.int .i64 (gi r38.2.2.1 0)), (V.inl t_impl_Timer r38.2.2.2.2)]), (n_spec_l1Cur r38.1))
def spec_DrawWheelSet (code : List V) : Option (V × Int × Int) :=
  Option.bind (spec_l1New code) fun r2 =>
  Option.bind (spec_l7bent (n_spec_l1Cur r2)) fun r39 =>
  Option.bind (spec_l1PickInt (n_spec_l1Cur r39.2) [(V.int .i64 0), (V.int .i64 1), (V.int .i64 2), (V.int .i64 3), (V.int .i64 50), (V.int .i64 (-1)), (V.int .i64 2147483647), (V.int .i64 2147483648)]) fun r40 =>
  Option.bind (spec_l1PickInt (n_spec_l1Cur r40.2) [(V.int .i64 1), (V.int .i64 2), (V.int .i64 5), (V.int .i64 9), (V.int .i64 0), (V.int .i64 (-1)), (V.int .i64 1000000), (V.int .i64 1000001)]) fun r41 =>
  some ((n_impl_Wheel r39.1), r40.1, r41.1)
def impl_within (n : Int) (low : Int) (high : Int) : Bool :=
  bif (decide (low ≤ n)) then
    (decide (n ≤ high))
  else false
def impl_isId (id : Int) : Bool :=
  (impl_within id 0 2147483647)
def impl_Wheel_timer_1 (t : V) (a1 : V) : Bool :=
  (decide ((gi t 0) = (gi a1 0)))
def slices_IndexFunc_Timer_l2 : Nat → List V → V → Int → Int → Option (Nat × Int)
  | 0, _, _, _, _ => none
  | k_ + 1, s0, f1_0, v7, v8 =>
    bif (decide (v8 < v7)) then
      bif (idxOk v8 s0.length) then
        bif impl_Wheel_timer_1 (n_impl_Timer (rd s0 v8.toNat)) (V.agg [(V.int .i64 (gi f1_0 0))]) then
          some (0, v8)
        else slices_IndexFunc_Timer_l2 k_ s0 (V.agg [(V.int .i64 (gi f1_0 0))]) v7 (IntKind.i64.wrap (v8 + 1))
      else none
    else some (1, 0)
def slices_IndexFunc_Timer (s : List V) (f_0 : V) : Option (Int) :=
  Option.bind (slices_IndexFunc_Timer_l2 ((((s.length : Nat) : Int) - 0).toNat + 1) s (V.agg [(V.int .i64 (gi f_0 0))]) ((s.length : Nat) : Int) 0) fun r43 =>
  bif (Nat.beq r43.1 0) then
    some r43.2
  else some (-1)
def impl_Wheel_timer (w : V) (id : Int) : Option (Int) :=
  Option.bind (slices_IndexFunc_Timer (gl w 1) (V.agg [(V.int .i64 id)])) fun r44 =>
  some r44
def cmp_isNaN_int (x : Int) : Bool :=
  (!(decide (x = x)))
def cmp_Compare_int (x : Int) (y : Int) : Int :=
  bif cmp_isNaN_int x then
    bif cmp_isNaN_int y then
      0
    else (-1)
  else bif cmp_isNaN_int y then
    1
  else bif (decide (x < y)) then
    (-1)
  else bif (decide (y < x)) then
    1
  else 0
def cmp_Or_int_l3 : Nat → Int → List V → Int → Int → Option (Nat × Int × Int)
  | 0, _, _, _, _ => none
  | k_ + 1, zero3, v6, v7, v8 =>
    bif (decide (v8 < v7)) then
      bif (idxOk v8 v6.length) then
        bif (!(decide ((gi (rd v6 v8.toNat) 0) = zero3))) then
          some (0, (gi (rd v6 v8.toNat) 0), zero3)
        else cmp_Or_int_l3 k_ zero3 v6 v7 (IntKind.i64.wrap (v8 + 1))
      else none
    else some (1, 0, zero3)
def cmp_Or_int (vals : List V) : Option (Int) :=
  Option.bind (cmp_Or_int_l3 ((((vals.length : Nat) : Int) - 0).toNat + 1) 0 vals ((vals.length : Nat) : Int) 0) fun r46 =>
  bif (Nat.beq r46.1 0) then
    some r46.2.1
  else some r46.2.2
def impl_compareTimers (a : V) (b : V) : Option (Int) :=
  Option.bind (cmp_Or_int [(V.int .i64 (cmp_Compare_int (gi a 1) (gi b 1))), (V.int .i64 (cmp_Compare_int (gi a 0) (gi b 0)))]) fun r47 =>
  some r47
def impl_WheelOk_l4 : Nat → List V → Int → Int → V → Option (Nat × Bool)
  | 0, _, _, _, _ => none
  | k_ + 1, v16, v17, v18, b0 =>
    bif (decide (v18 < v17)) then
      bif (idxOk v18 v16.length) then
        bif (!(impl_isId (gi (rd v16 v18.toNat) 0))) then
          some (0, false)
        else Option.bind (impl_Wheel_timer (n_impl_Wheel b0) (gi (rd v16 v18.toNat) 0)) fun r45 =>
        bif (!(decide (r45 = v18))) then
          some (0, false)
        else bif (!(impl_within (gi (rd v16 v18.toNat) 1) (IntKind.i64.wrap ((gi b0 0) + 1)) 2000000)) then
          some (0, false)
        else bif (decide ((0 : Int) < v18)) then
          bif (idxOk (IntKind.i64.wrap (v18 - 1)) ((gl b0 1).length)) then
            Option.bind (impl_compareTimers (n_impl_Timer (rd (gl b0 1) ((IntKind.i64.wrap (v18 - 1)).toNat))) (n_impl_Timer (rd v16 v18.toNat))) fun r48 =>
            bif (decide ((0 : Int) ≤ r48)) then
              some (0, false)
            else impl_WheelOk_l4 k_ v16 v17 (IntKind.i64.wrap (v18 + 1)) (n_impl_Wheel b0)
          else none
        else impl_WheelOk_l4 k_ v16 v17 (IntKind.i64.wrap (v18 + 1)) (n_impl_Wheel b0)
      else none
    else some (1, false)
def impl_WheelOk (w : V) : Option (Bool) :=
  bif (!(impl_within (gi w 0) 0 1000000)) then
    some false
  else bif (decide ((40 : Int) < (((gl w 1).length : Nat) : Int))) then
    some false
  else Option.bind (impl_WheelOk_l4 (((((gl w 1).length : Nat) : Int) - 0).toNat + 1) (gl w 1) (((gl w 1).length : Nat) : Int) 0 (n_impl_Wheel w)) fun r49 =>
  bif (Nat.beq r49.1 0) then
    some r49.2
  else some true
def slices_Clone_Timer (s : List V) : Option (List V) :=
  bif ((roomy (0 + s.length) 16) && true) then
    some s
  else none
def impl_Wheel_own (w : V) : Option (V) :=
  Option.bind (slices_Clone_Timer (gl w 1)) fun r51 =>
  some (V.agg [(V.int .i64 (gi w 0)), (V.inl t_impl_Timer r51)])
def impl_Wheel_stop (w : V) (id : Int) : Option (Bool × V) :=
  Option.bind (impl_Wheel_timer (n_impl_Wheel w) id) fun r54 =>
  bif (decide ((0 : Int) ≤ r54)) then
    Option.bind (delV (gl w 1) r54 (IntKind.i64.wrap (r54 + 1))) fun r55 =>
    some ((decide ((0 : Int) ≤ r54)), (V.agg [(V.int .i64 (gi w 0)), (V.inl t_impl_Timer r55)]))
  else some ((decide ((0 : Int) ≤ r54)), (n_impl_Wheel w))
def impl_Wheel_set (w : V) (id : Int) (after : Int) : Option (V) :=
  Option.bind (impl_Wheel_stop (n_impl_Wheel w) id) fun r56 =>
  bif ((roomy (((gl r56.2 1).length) + 1) 16) && true) then
    Option.bind (srtO cfT ((gl r56.2 1) ++ [(V.agg [(V.int .i64 id), (V.int .i64 (IntKind.i64.wrap ((gi r56.2 0) + after)))])])) fun r57 =>
    some (V.agg [(V.int .i64 (gi r56.2 0)), (V.inl t_impl_Timer r57)])
  else none
def impl_WheelSet (w : V) (id : Int) (after : Int) : Option (V × Bool) :=
  Option.bind (impl_WheelOk (n_impl_Wheel w)) fun r50 =>
  bif (!r50) then
    some ((V.agg [(V.int .i64 0), (V.inl t_impl_Timer [])]), false)
  else Option.bind (impl_Wheel_own (n_impl_Wheel w)) fun r52 =>
  bif (!(impl_isId id)) then
    some ((n_impl_Wheel r52), false)
  else bif (!(impl_within after 1 1000000)) then
    some ((n_impl_Wheel r52), false)
  else Option.bind (impl_Wheel_timer (n_impl_Wheel w) id) fun r53 =>
  bif (decide (r53 < 0)) then
    bif (decide ((((gl w 1).length : Nat) : Int) = 40)) then
      some ((n_impl_Wheel r52), false)
    else Option.bind (impl_Wheel_set (n_impl_Wheel r52) id after) fun r58 =>
    some ((n_impl_Wheel r58), true)
  else Option.bind (impl_Wheel_set (n_impl_Wheel r52) id after) fun r59 =>
  some ((n_impl_Wheel r59), true)
def spec_WheelOk_l4 : Nat → Int → V → Option (Nat × Bool)
  | 0, _, _ => none
  | k_ + 1, i3, b0 =>
    bif (decide (i3 < (((gl b0 1).length : Nat) : Int))) then
      bif (idxOk i3 ((gl b0 1).length)) then
        bif (decide ((gi (rd (gl b0 1) i3.toNat) 0) < 0)) then
          some (0, false)
        else bif (decide ((2147483647 : Int) < (gi (rd (gl b0 1) i3.toNat) 0))) then
          some (0, false)
        else bif (decide ((gi (rd (gl b0 1) i3.toNat) 1) ≤ (gi b0 0))) then
          some (0, false)
        else bif (decide ((2000000 : Int) < (gi (rd (gl b0 1) i3.toNat) 1))) then
          some (0, false)
        else bif (decide ((0 : Int) < i3)) then
          bif (idxOk (IntKind.i64.wrap (i3 - 1)) ((gl b0 1).length)) then
            bif (!(spec_l7ahead (n_impl_Timer (rd (gl b0 1) ((IntKind.i64.wrap (i3 - 1)).toNat))) (n_impl_Timer (rd (gl b0 1) i3.toNat)))) then
              some (0, false)
            else bif ((decide ((0 : Int) ≤ i3)) && (decide (i3 ≤ (((gl b0 1).length : Nat) : Int)))) then
              Option.bind (spec_l7find ((gl b0 1).take i3.toNat) (gi (rd (gl b0 1) i3.toNat) 0)) fun r61 =>
              bif (decide ((0 : Int) ≤ r61)) then
                some (0, false)
              else spec_WheelOk_l4 k_ (IntKind.i64.wrap (i3 + 1)) (n_impl_Wheel b0)
            else none
          else none
        else bif ((decide ((0 : Int) ≤ i3)) && (decide (i3 ≤ (((gl b0 1).length : Nat) : Int)))) then
          Option.bind (spec_l7find ((gl b0 1).take i3.toNat) (gi (rd (gl b0 1) i3.toNat) 0)) fun r62 =>
          bif (decide ((0 : Int) ≤ r62)) then
            some (0, false)
          else spec_WheelOk_l4 k_ (IntKind.i64.wrap (i3 + 1)) (n_impl_Wheel b0)
        else none
      else none
    else some (1, false)
def spec_WheelOk (w : V) : Option (Bool) :=
  bif (decide ((gi w 0) < 0)) then
    some false
  else bif (decide ((1000000 : Int) < (gi w 0))) then
    some false
  else bif (decide ((40 : Int) < (((gl w 1).length : Nat) : Int))) then
    some false
  else Option.bind (spec_WheelOk_l4 (((((gl (n_impl_Wheel w) 1).length : Nat) : Int) - 0).toNat + 1) 0 (n_impl_Wheel w)) fun r63 =>
  bif (Nat.beq r63.1 0) then
    some r63.2
  else some true
def laws_sameWheel_l4 : Nat → Int → V → V → Option (Nat × Bool)
  | 0, _, _, _ => none
  | k_ + 1, i5, b0, b1 =>
    bif (decide (i5 < (((gl b0 1).length : Nat) : Int))) then
      bif (idxOk i5 ((gl b0 1).length)) then
        bif (idxOk i5 ((gl b1 1).length)) then
          bif (!((decide ((gi (rd (gl b0 1) i5.toNat) 0) = (gi (rd (gl b1 1) i5.toNat) 0))) && (decide ((gi (rd (gl b0 1) i5.toNat) 1) = (gi (rd (gl b1 1) i5.toNat) 1))))) then
            some (0, false)
          else laws_sameWheel_l4 k_ (IntKind.i64.wrap (i5 + 1)) (n_impl_Wheel b0) (n_impl_Wheel b1)
        else none
      else none
    else some (1, false)
def laws_sameWheel (a : V) (b : V) : Option (Bool) :=
  bif (!(decide ((gi a 0) = (gi b 0)))) then
    some false
  else bif (!(decide ((((gl a 1).length : Nat) : Int) = (((gl b 1).length : Nat) : Int)))) then
    some false
  else Option.bind (laws_sameWheel_l4 (((((gl (n_impl_Wheel a) 1).length : Nat) : Int) - 0).toNat + 1) 0 (n_impl_Wheel a) (n_impl_Wheel b)) fun r66 =>
  bif (Nat.beq r66.1 0) then
    some r66.2
  else some true
def impl_WheelLeft (w : V) (id : Int) : Option (Int × Bool) :=
  Option.bind (impl_WheelOk (n_impl_Wheel w)) fun r68 =>
  bif (!r68) then
    some (0, false)
  else Option.bind (impl_Wheel_timer (n_impl_Wheel w) id) fun r69 =>
  bif (decide (r69 < 0)) then
    some (0, false)
  else bif (idxOk r69 ((gl w 1).length)) then
    some ((IntKind.i64.wrap ((gi (rd (gl w 1) r69.toNat) 1) - (gi w 0))), true)
  else none
def impl_WheelNext (w : V) : Option (Int × Bool) :=
  Option.bind (impl_WheelOk (n_impl_Wheel w)) fun r71 =>
  bif (!r71) then
    some (0, false)
  else bif (decide ((((gl w 1).length : Nat) : Int) = 0)) then
    some (0, false)
  else bif (idxOk 0 ((gl w 1).length)) then
    some ((IntKind.i64.wrap ((gi (rd (gl w 1) 0) 1) - (gi w 0))), true)
  else none
def impl_WheelStop (w : V) (id : Int) : Option (V × Bool) :=
  Option.bind (impl_WheelOk (n_impl_Wheel w)) fun r74 =>
  bif (!r74) then
    some ((V.agg [(V.int .i64 0), (V.inl t_impl_Timer [])]), false)
  else Option.bind (impl_Wheel_own (n_impl_Wheel w)) fun r75 =>
  Option.bind (impl_Wheel_stop (n_impl_Wheel r75) id) fun r76 =>
  some ((n_impl_Wheel r76.2), r76.1)
def laws_at (code : List V) (i : Int) : Option (Int) :=
  bif (decide (((code.length : Nat) : Int) = 0)) then
    some 0
  else bif (!(decide (((code.length : Nat) : Int) = 0))) then
    bif (idxOk (i.tmod ((code.length : Nat) : Int)) code.length) then
      some (IntKind.i64.wrap (gi (rd code ((i.tmod ((code.length : Nat) : Int)).toNat)) 0))
    else none
  else none
def impl_Wheel_tick_l3 : Nat → V → List V → Option (V × List V)
  | 0, _, _ => none
  | k_ + 1, b0, r1 =>
    bif (decide ((0 : Int) < (((gl b0 1).length : Nat) : Int))) then
      bif (idxOk 0 ((gl b0 1).length)) then
        bif (decide ((gi (rd (gl b0 1) 0) 1) ≤ (gi b0 0))) then
          bif (idxOk 0 ((gl b0 1).length)) then
            bif ((roomy (r1.length + 1) 8) && true) then
              bif (decide ((1 : Int) ≤ (((gl b0 1).length : Nat) : Int))) then
                impl_Wheel_tick_l3 k_ (V.agg [(V.int .i64 (gi b0 0)), (V.inl t_impl_Timer ((gl b0 1).drop 1))]) (r1 ++ [(V.int .i64 (gi (rd (gl b0 1) 0) 0))])
              else none
            else none
          else none
        else some ((n_impl_Wheel b0), r1)
      else none
    else some ((n_impl_Wheel b0), r1)
def impl_Wheel_tick (w : V) (n : Int) : Option (List V × V) :=
  Option.bind (impl_Wheel_tick_l3 (((((gl (V.agg [(V.int .i64 (IntKind.i64.wrap ((gi w 0) + n))), (V.inl t_impl_Timer (gl w 1))]) 1).length : Nat) : Int) - 0).toNat + 1) (V.agg [(V.int .i64 (IntKind.i64.wrap ((gi w 0) + n))), (V.inl t_impl_Timer (gl w 1))]) []) fun r82 =>
  some (r82.2, (n_impl_Wheel r82.1))
def impl_WheelTick (w : V) (n : Int) : Option (V × List V) :=
  Option.bind (impl_WheelOk (n_impl_Wheel w)) fun r80 =>
  bif (!r80) then
    some ((V.agg [(V.int .i64 0), (V.inl t_impl_Timer [])]), [])
  else Option.bind (impl_Wheel_own (n_impl_Wheel w)) fun r81 =>
  bif (!(impl_within n 0 (IntKind.i64.wrap (1000000 - (gi w 0))))) then
    some ((n_impl_Wheel r81), [])
  else Option.bind (impl_Wheel_tick (n_impl_Wheel r81) n) fun r83 =>
  some ((n_impl_Wheel r83.2), r83.1)
def laws_FnWheels_l24 : Nat → Int → Bool → Int → List V → List V → List V → Option (Nat × Bool × Int × Bool × List V)
  | 0, _, _, _, _, _, _ => none
  | k_ + 1, id4, mine24, i25, r0, r1, r2 =>
    bif (decide (i25 < ((r1.length : Nat) : Int))) then
      bif (idxOk i25 r2.length) then
        bif (idxOk i25 r1.length) then
          bif (!(decide ((gi (rd r2 (0 + i25.toNat)) 0) = (gi (rd r1 (0 + i25.toNat)) 0)))) then
            some (0, false, id4, mine24, r0)
          else bif mine24 then
            laws_FnWheels_l24 k_ id4 true (IntKind.i64.wrap (i25 + 1)) r0 r1 r2
          else bif (idxOk i25 r1.length) then
            laws_FnWheels_l24 k_ id4 (decide ((gi (rd r1 (0 + i25.toNat)) 0) = id4)) (IntKind.i64.wrap (i25 + 1)) r0 r1 r2
          else none
        else none
      else none
    else some (1, false, id4, mine24, r0)
def laws_FnWheels_l30 : Nat → Int → Bool → Int → List V → Option (Nat × Bool × Bool)
  | 0, _, _, _, _ => none
  | k_ + 1, id4, mine24, i26, r0 =>
    bif (decide (i26 < ((r0.length : Nat) : Int))) then
      bif (idxOk i26 r0.length) then
        bif (decide ((gi (rd r0 (0 + i26.toNat)) 0) = id4)) then
          some (0, false, mine24)
        else laws_FnWheels_l30 k_ id4 mine24 (IntKind.i64.wrap (i26 + 1)) r0
      else none
    else some (1, false, mine24)
def laws_FnWheels (code : List V) : Option (Bool) :=
  Option.bind (spec_DrawWheelSet code) fun r85 =>
  Option.bind (impl_WheelSet (n_impl_Wheel r85.1) r85.2.1 r85.2.2) fun r86 =>
  Option.bind (spec_WheelOk (n_impl_Wheel r85.1)) fun r87 =>
  bif (!r87) then
    bif (!r86.2) then
      bif (decide ((((gl r86.1 1).length : Nat) : Int) = 0)) then
        Option.bind (impl_WheelOk (V.agg [(V.int .i64 0), (V.inl t_impl_Timer [])])) fun r88 =>
        some r88
      else some false
    else some false
  else bif (!r86.2) then
    Option.bind (laws_sameWheel (n_impl_Wheel r86.1) (n_impl_Wheel r85.1)) fun r89 =>
    some r89
  else Option.bind (impl_WheelLeft (n_impl_Wheel r86.1) r85.2.1) fun r90 =>
  Option.bind (impl_WheelNext (n_impl_Wheel r86.1)) fun r91 =>
  Option.bind (impl_WheelOk (n_impl_Wheel r86.1)) fun r92 =>
  bif (!r92) then
    some false
  else bif (!r90.2) then
    some false
  else bif (!(decide (r90.1 = r85.2.2))) then
    some false
  else bif (!r91.2) then
    some false
  else bif (decide (r85.2.2 < r91.1)) then
    some false
  else Option.bind (impl_WheelStop (n_impl_Wheel r86.1) r85.2.1) fun r93 =>
  Option.bind (impl_WheelLeft (n_impl_Wheel r93.1) r85.2.1) fun r94 =>
  bif (!r93.2) then
    bif r93.2 then
      some (!r94.2)
    else some false
  else bif r94.2 then
    bif r93.2 then
      some (!r94.2)
    else some false
  else bif (decide ((IntKind.i64.wrap (1000000 - (gi r85.1 0))) < r85.2.2)) then
    bif r93.2 then
      some (!r94.2)
    else some false
  else Option.bind (laws_at code 2) fun r95 =>
  bif (!(decide (r85.2.2 = 0))) then
    Option.bind (impl_WheelTick (n_impl_Wheel r86.1) (r95.tmod r85.2.2)) fun r96 =>
    Option.bind (impl_WheelTick (n_impl_Wheel r96.1) (IntKind.i64.wrap (r85.2.2 - (r95.tmod r85.2.2)))) fun r97 =>
    Option.bind (impl_WheelTick (n_impl_Wheel r86.1) r85.2.2) fun r98 =>
    bif ((roomy (0 + r96.2.length) 8) && true) then
      bif ((roomy (r96.2.length + r97.2.length) 8) && true) then
        Option.bind (laws_sameWheel (n_impl_Wheel r97.1) (n_impl_Wheel r98.1)) fun r99 =>
        bif (!r99) then
          some false
        else bif (!(decide ((((r96.2 ++ r97.2).length : Nat) : Int) = ((r98.2.length : Nat) : Int)))) then
          some false
        else Option.bind (laws_FnWheels_l24 ((((r98.2.length : Nat) : Int) - 0).toNat + 1) r85.2.1 false 0 r96.2 r98.2 (r96.2 ++ r97.2)) fun r100 =>
        bif (Nat.beq r100.1 0) then
          some r100.2.1
        else Option.bind (laws_FnWheels_l30 ((((r100.2.2.2.2.length : Nat) : Int) - 0).toNat + 1) r100.2.2.1 r100.2.2.2.1 0 r100.2.2.2.2) fun r101 =>
        bif (Nat.beq r101.1 0) then
          some r101.2.1
        else some r101.2.2
      else none
    else none
  else none
end Go.Eng.R
open Go Go.Eng Go.Proofs
namespace Go.Eng.R
theorem tab_ok : TabOk Try.prog tab := tabB_spec (by kernel_rfl)
theorem mixed : Try.prog.follows .mixedOrders = true := by kernel_rfl
theorem base : Base Try.prog tab := ⟨tab_ok, mixed⟩
def l0 (x : V) : List V := [(V.inl t_byte (gl x 0)), (V.int .i64 (gi x 1)), (V.int .i64 (gi x 2))]
def l1 (x : V) : List V := [(V.int .i64 (gi x 0)), (V.rr t_impl_Timer true (gl x 1))]
def l2 (x : V) : List V := [(V.int .i64 (gi x 0)), (V.int .i64 (gi x 1))]
def h3 (x : V) : V := V.agg [(V.int .i64 (gi x 0)), (V.rr t_impl_Timer true (gl x 1))]
def l4 (x : V) : List V := [(V.int .i64 (gi x 0)), (V.inl t_impl_Timer (gl x 1))]
end Go.Eng.R
open Go Go.Eng Go.Proofs
namespace Go.Eng.R
theorem inf128 : (Try.prog.info? 128).map (·.size) = some 2 := by kernel_rfl
theorem sz128 : ∀ w, (Go.sizeOf 128).run Try.prog w = .ok 2 w := fun w => by kernel_rfl
theorem zv128 : ∀ w, (zeroValue 128).run Try.prog w = .ok (Value.agg #[.int .i64 0, .int .i64 0]) w := fun w => by kernel_rfl
theorem info128 : (Try.prog.info? 128).map (fun i => (i.zero, i.size, i.bytes)) = some (some (Value.agg #[.int .i64 0, .int .i64 0]), 2, 16) := by kernel_rfl
set_option maxHeartbeats 4000000 in
set_option maxRecDepth 1000000 in
theorem delSame128 : DelSame Try.prog 128 := by
  intro a n cap i w hin hn hcm
  go_enter Try.func128, Try.ntmps128
  go_wp2
  all_goals (go_ret; exact ⟨rfl, .refl _ _⟩)
set_option maxHeartbeats 4000000 in
set_option maxRecDepth 1000000 in
theorem del128 : DelOk Try.prog 128 128 2 := by
  intro g n cap i j cur w hg hs hn hcm h1 hij hj
  have hne : ¬ ((i : Int) = (j : Int)) := by omega
  have hb1 : (i : Int) ≤ (j : Int) := by omega
  have hb2 : (j : Int) ≤ (n : Int) := by omega
  have hb3 : (i : Int) ≤ (n : Int) := by omega
  have hb4 : i ≤ cap := by omega
  have hb5 : j ≤ cap := by omega
  obtain ⟨news, hnews⟩ : ∃ news, news = (cur.toList.drop (j * 2)).take ((n - j) * 2) := ⟨_, rfl⟩
  have hnl : news.length = (n - j) * 2 := by rw [hnews]; simp; omega
  have hsrc : ∀ k v, news[k]? = some v → w.cell? ((⟨g, j * 2, none⟩ : Addr).add k) = some v := by
    rw [hnews]; exact src_cells hg (by omega)
  have hone : ∀ v ∈ news, v.oneCell' = true := fun v hv => h1 v (by
    rw [hnews] at hv
    have : (cur.toList.drop (j * 2)).take ((n - j) * 2) = (cur.toList.take (n * 2)).drop (j * 2) := by
      rw [List.drop_take]; congr 1; omega
    rw [this] at hv
    exact List.mem_of_mem_drop hv)
  obtain ⟨c1, hc1⟩ : ∃ c1, c1 = (cur.toList.take (i * 2) ++ news ++ cur.toList.drop (i * 2 + news.length)).toArray := ⟨_, rfl⟩
  have hap : ∀ (W : World) (a : Addr) (m sc : Nat) (ty : TypeId), W.heap[g]? = w.heap[g]? → m = n - j → (m = 0 ∨ a = ⟨g, j * 2, none⟩) →
      (Builtin.append_ #[45, 45] ty #[.slice (some ⟨g, 0, none⟩) i cap, .slice (some a) m sc]).run Try.prog W = .ok (.slice (some ⟨g, 0, none⟩) (i + m) cap) (W.setRow g c1) := by
    intro W a m sc ty hW hm ha
    rw [hm] at ha ⊢
    have hst := run_storeCells_at Try.prog g (i * 2) 128 news 0 cur W (hW.trans hg) (by rw [hnl]; omega) hone
    simp only [Nat.add_zero] at hst
    rw [← hc1] at hst
    have hfc : (Builtin.firstCells 2 (n - j) (.slice (some a) (n - j) sc)).run Try.prog W = .ok news.toArray W := by
      refine run_firstCells_some (P := Try.prog) W 2 (n - j) a (n - j) sc news hnl fun k v hk => ?_
      rcases ha with h | rfl
      · have := (List.getElem?_eq_some_iff.1 hk).1
        rw [hnl] at this; omega
      · have := hsrc k v hk
        rw [← this]
        simp [World.cell?, hW, Addr.add_none]
    have hr : i + (n - j) ≤ cap := by omega
    cases hq : Try.prog.info? 128 with
    | none => have := inf128; rw [hq] at this; simp at this
    | some i0 =>
      have hi : i0.size = 2 := by have := inf128; rw [hq] at this; simpa using this
      simp [Builtin.append_, run_underlying Try.underlying45, sizeOf, typeInfo, hq, hi, Builtin.lenOf, hr, hfc, Addr.add_none, hst]
  have hc1s : c1.size = cap * 2 := by rw [hc1]; simp; omega
  have hc1t : c1.toList.take ((i + (n - j)) * 2) = (cur.toList.take (n * 2)).take (i * 2) ++ (cur.toList.take (n * 2)).drop (j * 2) := by
    rw [hc1]
    simp only [List.append_assoc]
    rw [← List.append_assoc, show (i + (n - j)) * 2 = (cur.toList.take (i * 2) ++ news).length from by simp [hnl]; omega, List.take_left, hnews, List.take_take, Nat.min_eq_left (by omega), List.drop_take]
    congr 2
    omega
  have hsub : n - (j - i) = i + (n - j) := by omega
  have hz : (Value.agg #[.int .i64 0, .int .i64 0]).cells.size = 2 := rfl
  have hz1 : ∀ v ∈ (Value.agg #[.int .i64 0, .int .i64 0]).cells, v.oneCell' = true := by decide
  rw [hsub]
  have hcn : ¬ (cap = i + (n - j)) := by omega
  have hlt : ((i + (n - j) : Nat) : Int) ≤ (n : Int) := by omega
  have hfin : ∀ (W1 : World) (d : Array Value), W1.heap[g]? = some (.cells d 128 (0, 0)) → d.size = cap * 2 → d.toList.take ((i + (n - j)) * 2) = (cur.toList.take (n * 2)).take (i * 2) ++ (cur.toList.take (n * 2)).drop (j * 2) → KeptBut [g] w W1 →
      ∃ W2, (∀ sc, (Builtin.clear_ #[45] 0 #[.slice (some ⟨g, (i + (n - j)) * 2, none⟩) (n - (i + (n - j))) sc]).run Try.prog W1 = .ok (.tuple #[]) W2) ∧
        ∃ cur' : Array Value, W2.heap[g]? = some (.cells cur' 128 (0, 0)) ∧ cur'.size = cap * 2 ∧ cur'.toList.take ((i + (n - j)) * 2) = (cur.toList.take (n * 2)).take (i * 2) ++ (cur.toList.take (n * 2)).drop (j * 2) ∧ KeptBut [g] w W2 := by
    intro W1 d e1 e2 e3 e4
    obtain ⟨tl, t1, t2⟩ := run_clear_k (P := Try.prog) W1 45 128 0 _ 2 Try.underlying45 zv128 hz hz1 (by omega) g ((i + (n - j)) * 2) (n - (i + (n - j))) (by omega) d 128 e1 (by omega)
    refine ⟨W1.setRow g (d.toList.take ((i + (n - j)) * 2) ++ tl ++ d.toList.drop ((i + (n - j)) * 2 + tl.length)).toArray, t2, (d.toList.take ((i + (n - j)) * 2) ++ tl ++ d.toList.drop ((i + (n - j)) * 2 + tl.length)).toArray, setRow_heap W1 g d _ 128 _ e1, ?_, ?_, e4.trans (KeptBut.setRow (by simp) _)⟩
    · simp; omega
    · rw [← e3, List.append_assoc]
      simp only
      rw [show (i + (n - j)) * 2 = (d.toList.take ((i + (n - j)) * 2)).length from by simp; omega]
      simp
  clear hc1 hnews hz hz1 hnl hsrc hone h1
  by_cases hjn : j = n
  · have hk : cur.toList.take ((i + (n - j)) * 2) = (cur.toList.take (n * 2)).take (i * 2) ++ (cur.toList.take (n * 2)).drop (j * 2) := by
      subst hjn
      rw [Nat.sub_self, Nat.add_zero, List.take_take, Nat.min_eq_left (by omega), List.drop_of_length_le (by simp; omega), List.append_nil]
    obtain ⟨W2, hcl, hpost⟩ := hfin w.drew cur hg hs hk (KeptBut.refl _ w).drew
    have e0 : i + (n - j) = i := by omega
    rw [e0] at hcl hpost hcn ⊢
    clear hfin hc1t hap hk hsub hlt e0
    subst hjn
    by_cases hcj : cap = j
    · subst hcj
      go_enter Try.func128, Try.ntmps128
      go_wp2
      go_region
      go_wp2_with (at_builtin; refine wpList_clear_k rfl _ 45 rfl _ rfl (hcl _) ?_)
      go_ret
      exact ⟨rfl, hpost⟩
    · go_enter Try.func128, Try.ntmps128
      go_wp2
      go_region
      go_wp2_with (at_builtin; refine wpList_clear_k rfl _ 45 rfl _ rfl (hcl _) ?_)
      go_ret
      exact ⟨rfl, hpost⟩
  · have hcj : ¬ (cap = j) := by omega
    obtain ⟨W2, hcl, hpost⟩ := hfin (w.drew.setRow g c1) c1 (setRow_heap _ g cur _ 128 _ hg) hc1s hc1t ((KeptBut.refl _ w).drew.trans (KeptBut.setRow (by simp) _))
    clear hfin hc1t
    go_enter Try.func128, Try.ntmps128
    go_wp2
    go_region_law (refine step_append_k rfl _ _ 45 45 rfl _ _ (by simp [Act.eval, Act.put]) (by simp [Act.eval, Act.put]) (hap w.drew ⟨g, j * 2, none⟩ (n - j) (cap - j) 45 rfl rfl (Or.inr rfl)) ?_)
    go_wp2_with (at_builtin; refine wpList_clear_k rfl _ 45 rfl _ rfl (hcl _) ?_)
    go_ret
    exact ⟨rfl, hpost⟩
section
open Go.Shelf Go.RowKit Go.Lib Go.Sort
theorem third_block {W : World} {o1 o2 o3 : Obj} {g : Nat} (hg : g = W.heap.size + 1 + 1) : (((W.alloc o1).alloc o2).alloc o3).drew.heap[g]? = some o3 := by
  subst hg
  have e : (((W.alloc o1).alloc o2).alloc o3).drew.heap = ((W.heap.push o1).push o2).push o3 := rfl
  rw [e, Array.getElem?_push, if_pos (by simp)]
set_option maxHeartbeats 4000000 in
set_option maxRecDepth 1000000 in
theorem or126 (x y r : Int) (h0 : x = 0 → r = y) (h1 : x ≠ 0 → r = x) (W : World) (g : Nat) (hg : W.heap[g]? = some (.cells #[.int .i64 x, .int .i64 y] 3 (0, 0))) :
    Calls Try.prog 126 #[.slice (some ⟨g, 0, none⟩) 2 2] W fun e w' => e = .returned (.int .i64 r) ∧ w' = W := by
  have c0 : W.cell? ⟨g, 0, none⟩ = some (.int .i64 x) := by simp [World.cell?, hg]
  have c1 : W.cell? ⟨g, 1, none⟩ = some (.int .i64 y) := by simp [World.cell?, hg]
  go_enter Try.func126, Try.ntmps126
  go_wp2
  go_rounds 3
  all_goals go_ret
  · have hx : (x != 0) = true := by assumption
    rw [h1 (by simpa using hx)]; exact ⟨rfl, rfl⟩
  · have hx : (x != 0) = false := by assumption
    rw [h0 (by simpa using hx)]; exact ⟨rfl, rfl⟩
  · have hx : (x != 0) = false := by assumption
    have hy : (y != 0) = false := by assumption
    rw [h0 (by simpa using hx), show y = 0 by simpa using hy]; exact ⟨rfl, rfl⟩
def sortL123_ren : Go.Shelf.Ren := ⟨fun | 6 => 123 | 15 => 159 | 14 => 158 | 28 => 193 | 29 => 194 | 20 => 185 | 21 => 186 | 22 => 187 | 23 => 188 | 24 => 189 | 25 => 190 | 26 => 191 | 27 => 192 | 46 => 202 | 47 => 203 | 48 => 204 | 49 => 205 | 50 => 206 | 57 => 210 | n => n, fun | 22 => 45 | 24 => 128 | 25 => 130 | 3 => 3 | 39 => 196 | 0 => 0 | 53 => 224 | 55 => 226 | 4 => 4 | 46 => 218 | 45 => 217 | 50 => 31 | 5 => 5 | 9 => 9 | 66 => 231 | 70 => 104 | 76 => 238 | 77 => 239 | n => n, fun | n => n⟩
theorem sortL123 : Go.Proofs.SlLaysF0.n6 Try.prog sortL123_ren where
  mixed := by kernel_rfl
  f6 := ⟨Try.f123.name, by decide, Try.func123.trans (congrArg some (by kernel_rfl))⟩
  f14 := ⟨Try.f158.name, by decide, Try.func158.trans (congrArg some (by kernel_rfl))⟩
  f15 := Try.func159.trans (congrArg some (by kernel_rfl))
  f20 := ⟨Try.f185.name, by decide, Try.func185.trans (congrArg some (by kernel_rfl))⟩
  f21 := ⟨Try.f186.name, by decide, Try.func186.trans (congrArg some (by kernel_rfl))⟩
  f22 := ⟨Try.f187.name, by decide, Try.func187.trans (congrArg some (by kernel_rfl))⟩
  f23 := ⟨Try.f188.name, by decide, Try.func188.trans (congrArg some (by kernel_rfl))⟩
  f24 := ⟨Try.f189.name, by decide, Try.func189.trans (congrArg some (by kernel_rfl))⟩
  f25 := ⟨Try.f190.name, by decide, Try.func190.trans (congrArg some (by kernel_rfl))⟩
  f26 := ⟨Try.f191.name, by decide, Try.func191.trans (congrArg some (by kernel_rfl))⟩
  f27 := ⟨Try.f192.name, by decide, Try.func192.trans (congrArg some (by kernel_rfl))⟩
  f28 := Try.func193.trans (congrArg some (by kernel_rfl))
  f29 := Try.func194.trans (congrArg some (by kernel_rfl))
  f46 := ⟨Try.f202.name, by decide, Try.func202.trans (congrArg some (by kernel_rfl))⟩
  f47 := Try.func203.trans (congrArg some (by kernel_rfl))
  f48 := Try.func204.trans (congrArg some (by kernel_rfl))
  f49 := ⟨Try.f205.name, by decide, Try.func205.trans (congrArg some (by kernel_rfl))⟩
  f50 := ⟨Try.f206.name, by decide, Try.func206.trans (congrArg some (by kernel_rfl))⟩
  f57 := ⟨Try.f210.name, by decide, Try.func210.trans (congrArg some (by kernel_rfl))⟩
  t0 := Try.underlying0
  a0 := Try.isAgg0
  z0 := Try.sizeOf0
  v0 := Try.zeroValue0
  t3 := Try.underlying3
  a3 := Try.isAgg3
  z3 := Try.sizeOf3
  v3 := Try.zeroValue3
  t4 := Try.underlying4
  a4 := Try.isAgg4
  z4 := Try.sizeOf4
  v4 := Try.zeroValue4
  t5 := Try.underlying5
  a5 := Try.isAgg5
  z5 := Try.sizeOf5
  v5 := Try.zeroValue5
  t9 := Try.underlying9
  a9 := Try.isAgg9
  z9 := Try.sizeOf9
  v9 := Try.zeroValue9
  t22 := Try.underlying45
  a22 := Try.isAgg45
  z22 := Try.sizeOf45
  v22 := Try.zeroValue45
  t25 := Try.underlying130
  a25 := Try.isAgg130
  z25 := Try.sizeOf130
  v25 := Try.zeroValue130
  t39 := Try.underlying196
  a39 := Try.isAgg196
  z39 := Try.sizeOf196
  v39 := Try.zeroValue196
  t45 := Try.underlying217
  a45 := Try.isAgg217
  z45 := Try.sizeOf217
  v45 := Try.zeroValue217
  t46 := Try.underlying218
  a46 := Try.isAgg218
  z46 := Try.sizeOf218
  v46 := Try.zeroValue218
  t50 := Try.underlying31
  a50 := Try.isAgg31
  z50 := Try.sizeOf31
  v50 := Try.zeroValue31
  t53 := Try.underlying224
  a53 := Try.isAgg224
  z53 := Try.sizeOf224
  v53 := Try.zeroValue224
  t55 := Try.underlying226
  a55 := Try.isAgg226
  z55 := Try.sizeOf226
  v55 := Try.zeroValue226
  t66 := Try.underlying231
  a66 := Try.isAgg231
  z66 := Try.sizeOf231
  v66 := Try.zeroValue231
  t70 := Try.underlying104
  a70 := Try.isAgg104
  z70 := Try.sizeOf104
  v70 := Try.zeroValue104
  t76 := Try.underlying238
  a76 := Try.isAgg238
  z76 := Try.sizeOf238
  v76 := Try.zeroValue238
  t77 := Try.underlying239
  a77 := Try.isAgg239
  z77 := Try.sizeOf239
  v77 := Try.zeroValue239
def cmpL127_ren : Go.Shelf.Ren := ⟨fun | 5 => 127 | 7 => 160 | n => n, fun | 22 => 3 | 3 => 3 | 4 => 4 | n => n, fun | n => n⟩
theorem cmpL127 : Go.Proofs.SlLaysC2.n5 Try.prog cmpL127_ren where
  mixed := by kernel_rfl
  f5 := ⟨Try.f127.name, by decide, Try.func127.trans (congrArg some (by kernel_rfl))⟩
  f7 := ⟨Try.f160.name, by decide, Try.func160.trans (congrArg some (by kernel_rfl))⟩
  t3 := Try.underlying3
  a3 := Try.isAgg3
  z3 := Try.sizeOf3
  v3 := Try.zeroValue3
  t4 := Try.underlying4
  a4 := Try.isAgg4
  z4 := Try.sizeOf4
  v4 := Try.zeroValue4
  t22 := Try.underlying3
  a22 := Try.isAgg3
  z22 := Try.sizeOf3
  v22 := Try.zeroValue3
set_option maxHeartbeats 4000000 in
set_option maxRecDepth 1000000 in
theorem cmpT76 (a b : V) (W : World) : Calls Try.prog 76 #[.agg #[.int .i64 (gi a 0), .int .i64 (gi a 1)], .agg #[.int .i64 (gi b 0), .int .i64 (gi b 1)]] W fun e w' => e = .returned (.int .i64 (cfT a b)) ∧ ∃ q os', w' = grow (W.drewN q) os' := by
  have hcon := fun x y W' => AnyG.cmp_Compare_int cmpL127 x y W'
  change ∀ x y W', Calls Try.prog 127 _ _ _ at hcon
  have hor : ∀ (W' : World) (g : Nat), W'.heap[g]? = some (.cells #[.int .i64 (Lib.compareInt (gi a 1) (gi b 1)), .int .i64 (Lib.compareInt (gi a 0) (gi b 0))] 3 (0, 0)) → Calls Try.prog 126 #[.slice (some ⟨g, 0, none⟩) 2 2] W' fun e w' => e = .returned (.int .i64 (cfT a b)) ∧ w' = W' := fun W' g hg => by
    refine or126 _ _ _ ?_ ?_ W' g hg
    · unfold cfT Lib.compareInt
      by_cases h1 : gi a 1 < gi b 1 <;> by_cases h2 : gi b 1 < gi a 1 <;> by_cases h3 : gi a 0 < gi b 0 <;> by_cases h4 : gi b 0 < gi a 0 <;> simp [h1, h2, h3, h4] <;> omega
    · unfold cfT Lib.compareInt
      by_cases h1 : gi a 1 < gi b 1 <;> by_cases h2 : gi b 1 < gi a 1 <;> by_cases h3 : gi a 0 < gi b 0 <;> by_cases h4 : gi b 0 < gi a 0 <;> simp [h1, h2, h3, h4] <;> omega
  generalize cfT a b = r at hor ⊢
  go_enter Try.func76, Try.ntmps76
  go_wp2
  go_region_held3 (fun w' => w'.cell? ⟨W.heap.size, 0, none⟩ = some (.int .i64 (gi a 0)) ∧ w'.cell? ⟨W.heap.size, 1, none⟩ = some (.int .i64 (gi a 1)) ∧ w'.cell? ⟨W.heap.size + 1, 0, none⟩ = some (.int .i64 (gi b 0)) ∧ w'.cell? ⟨W.heap.size + 1, 1, none⟩ = some (.int .i64 (gi b 1))) (go_keep)
    (first | (go_at_call 127; refine (hcon _ _ _).mono ?_; rintro e w' ⟨rfl, rfl⟩) | (go_at_call 126; refine (hor _ _ (third_block (by simp))).mono ?_; rintro e w' ⟨rfl, rfl⟩))
  go_wp2
  go_ret
  rw [alloc_eq_grow, alloc_eq_grow, alloc_eq_grow, grow_grow, grow_grow]
  exact ⟨rfl, 1, _, rfl⟩
theorem sort123 : SortOk Try.prog 123 76 [.int .i64, .int .i64] cfT := by
  refine ⟨cfT_swo, fun w blk cap d hH hblk hsz => ?_⟩
  have aE : ∀ w, (isAgg 128).run Try.prog w = .ok true w := fun w => by kernel_rfl
  have zE : ∀ w, (Go.sizeOf 128).run Try.prog w = .ok 2 w := fun w => by kernel_rfl
  have eg : ∀ args w, (callFunc 76 args).run Try.prog w = .ok (.enter 76 args) w := Go.Proofs.enters_of Try.func76 (by kernel_rfl) rfl
  exact AnyQ.slices_SortFunc_eq sortL123 2 aE zE (fun x => encK [.int .i64, .int .i64] x 0) (fun _ => rfl) (fun x v hv => by simp [encK] at hv; rcases hv with rfl | rfl <;> rfl) cfT cfT_swo 76 #[] blk 0 cap d w eg (fun _ _ _ _ x y => cmpT76 x y _) hH hblk hsz
end
end Go.Eng.R
open Go Go.Eng Go.Proofs
namespace Go.Eng.R
noncomputable def c71 : Cfg := cfgOf (P := Try.prog) (tab := tab) [] false []
def a71_0 (r_ : List V × Int) : List (Ex × St) := [((Ex.exit 0), (⟨[(0, (V.inl t_byte r_.1)), (3, (vi r_.2))], [], 0, []⟩ : St))]
def s71_0 : SS := ⟨[(0, (.one (.inl t_byte))), (3, (.one (.int .i64))), (4, (.one (.int .i64)))], [], 0, []⟩
noncomputable def l71_0 : LE := le0 3 s71_0 (fun st => spec_l1New_l3 ((((((sv st 0).L).length : Nat) : Int) - ((sv st 2).I)).toNat + 1) ((sv st 0).L) ((sv st 1).I) ((sv st 2).I)) a71_0
noncomputable def L71 : Loops := ⟨fun k => (look [(3, [0, 3, 4])] k).getD [], fun _ => [], fun k => (look [(3, [0, 3])] k).getD [], runL [l71_0], [], fun _ => []⟩
theorem t71_0 (k_ : Nat) : ∀ (code0 : List V) (h3 : Int) (i4 : Int), Agr id (pk0 a71_0) (spec_l1New_l3 k_ code0 h3 i4) (rounds c71 L71 (lpB Try.f71 0) k_ (s71_0.mk' (stv [V.inl 0 code0, vi h3, vi i4] []))) := by
  induction k_ with
  | zero => exact fun _ _ _ => g0
  | succ k_ ih => exact fun _ _ _ => gA (g1 (g1 (g1 (ih _ _ _) g0) g4) g4) (by kernel_rfl)
theorem o71 : LoopsOk c71 L71 (bodyOf Try.f71) := GoodAll.ok (l := [l71_0]) (.cons 0 (by kernel_rfl) (gd0 (fun st => (((((sv st 0).L).length : Nat) : Int) - ((sv st 2).I)).toNat + 1) (fun st => t71_0 _ _ _ _) fun st => by kernel_rfl) (.nil)) rfl
noncomputable def e71 : En Try.prog tab := enP base [] false [] Try.func71 (L := L71) o71 [(.one (.inl t_byte))] (fun a => spec_l1New ((rd a 0).L)) (fun r_ : V => ((V.nb t_spec_l1Cur (l0 r_)), [])) [[(.inl t_byte)]] [] [some t_byte] false (by kernel_rfl) fun _ => gA (g2 fun _ => g4) (by kernel_rfl)
noncomputable def e132 : En Try.prog tab := enP base [] false [] Try.func132 noLo [(.rf t_spec_l1Cur [(.inl t_byte), (.int .i64), (.int .i64)])] (fun a => spec_l1Byte ((rd a 0).unbox)) (fun r_ : Int × V => ((vi r_.1), [(V.rf t_spec_l1Cur (l0 r_.2))])) [] [[(.inl t_byte)]] [none] false (by kernel_rfl) fun _ => gA (g1 (g1 g4 g0) g4) (by kernel_rfl)
set_option maxRecDepth 100000 in
noncomputable def e83 : En Try.prog tab := enP base [e132] false [] Try.func83 noLo [(.rf t_spec_l1Cur [(.inl t_byte), (.int .i64), (.int .i64)]), (.one (.int .i64))] (fun a => spec_l1Below ((rd a 0).unbox) ((rd a 1).I)) (fun r_ : Int × V => ((vi r_.1), [(V.rf t_spec_l1Cur (l0 r_.2))])) [] [[(.inl t_byte)]] [none, none] false (by kernel_rfl) fun _ => gA (g1 g4 (g1 (g2 fun _ => g1 g4 g0) (g2 fun _ => g2 fun _ => g2 fun _ => g2 fun _ => g1 g4 g0))) (by kernel_rfl)
noncomputable def c75 : Cfg := cfgOf (P := Try.prog) (tab := tab) [] false []
def a75_0 (r_ : Nat × Int) : List (Ex × St) := [(Ex.ret, (⟨[(4, (vi r_.2))], [], 0, []⟩ : St)), ((Ex.exit 0), (⟨[(4, V.dead)], [], 0, []⟩ : St))]
def s75_0 : SS := ⟨[(0, (.one (.inl t_impl_Timer))), (1, (.one (.int .i64))), (5, (.one (.int .i64)))], [], 0, []⟩
noncomputable def l75_0 : LE := le1 2 s75_0 (fun st => spec_l7find_l2 ((((((sv st 0).L).length : Nat) : Int) - ((sv st 2).I)).toNat + 1) ((sv st 0).L) ((sv st 1).I) ((sv st 2).I)) a75_0
noncomputable def L75 : Loops := ⟨fun k => (look [(2, [0, 1, 5])] k).getD [], fun _ => [], fun k => (look [(2, [4])] k).getD [], runL [l75_0], [], fun _ => []⟩
theorem t75_0 (k_ : Nat) : ∀ (l0 : List V) (id1 : Int) (i5 : Int), Agr id (pk1 a75_0) (spec_l7find_l2 k_ l0 id1 i5) (rounds c75 L75 (lpB Try.f75 0) k_ (s75_0.mk' (stv [V.inl 0 l0, vi id1, vi i5] []))) := by
  induction k_ with
  | zero => exact fun _ _ _ => g0
  | succ k_ ih => exact fun _ _ _ => gA (g1 (g1 (g1 g4 (ih _ _ _)) g0) g4) (by kernel_rfl)
theorem o75 : LoopsOk c75 L75 (bodyOf Try.f75) := GoodAll.ok (l := [l75_0]) (.cons 0 (by kernel_rfl) (gd1 (fun st => (((((sv st 0).L).length : Nat) : Int) - ((sv st 2).I)).toNat + 1) (fun st => t75_0 _ _ _ _) fun st => by kernel_rfl) (.nil)) rfl
noncomputable def e75 : En Try.prog tab := enP base [] false [] Try.func75 (L := L75) o75 [(.one (.inl t_impl_Timer)), (.one (.int .i64))] (fun a => spec_l7find ((rd a 0).L) ((rd a 1).I)) (fun r_ : Int => ((vi r_), [])) [] [] [some t_impl_Timer, none] false (by kernel_rfl) fun _ => gA (g2 fun _ => g1 g4 g4) (by kernel_rfl)
noncomputable def e118 : En Try.prog tab := enP base [e75] false [] Try.func118 noLo [(.rf t_impl_Wheel [(.int .i64), (.rr t_impl_Timer true)]), (.one (.int .i64))] (fun a => spec_l7stop ((rd a 0).unbox) ((rd a 1).I)) (fun r_ : Bool × V => ((V.bool r_.1), [(V.rf t_impl_Wheel (l1 r_.2))])) [] [[.dead, (.rr t_impl_Timer true)]] [none, none] false (by kernel_rfl) fun _ => gA (g2 fun _ => g1 g4 (g1 (g1 (g1 (g1 g4 g0) g0) g0) g0)) (by kernel_rfl)
noncomputable def e74 : En Try.prog tab := enT base [] false [] Try.func74 noLo [(.agg [(.int .i64), (.int .i64)]), (.agg [(.int .i64), (.int .i64)])] (fun a => spec_l7ahead (rd a 0) (rd a 1)) (fun r_ : Bool => ((V.bool r_), [])) [] [] [none, none] false (by kernel_rfl) fun _ => gT (g5 g7 (g5 g7 g7)) (by kernel_rfl)
noncomputable def c62 : Cfg := cfgOf (P := Try.prog) (tab := tab) [e75, e118, e74] false []
def a62_0 (r_ : Int × V × V × List V) : List (Ex × St) := [((Ex.exit 0), (⟨[(0, (V.bp 0 0)), (7, (V.bp 1 0)), (8, (vi r_.1))], [(0, some (Blk.box t_impl_Wheel [(vi (gi r_.2.1 0)), (vs 2 t_impl_Timer)])), (1, some (Blk.box t_impl_Timer (l2 r_.2.2.1))), (2, some (Blk.row t_impl_Timer true r_.2.2.2))], 3, [0]⟩ : St))]
def s62_0 : SS := ⟨[(0, (.one (.bp 0 0))), (7, (.one (.bp 1 0))), (8, (.one (.int .i64)))], [(.box t_impl_Wheel [(.int .i64), (.sl 2 t_impl_Timer)]), (.box t_impl_Timer [(.int .i64), (.int .i64)]), (.row t_impl_Timer true)], 3, [0]⟩
noncomputable def l62_0 : LE := le0 6 s62_0 (fun st => spec_l7set_l6 (((((br st 2).length : Nat) : Int) - ((sv st 2).I)).toNat + 1) ((sv st 2).I) (bc st 0) (bc st 1) (br st 2)) a62_0
noncomputable def L62 : Loops := ⟨fun k => (look [(6, [0, 7, 8])] k).getD [], fun _ => [], fun k => (look [(6, [0, 7, 8])] k).getD [], runL [l62_0], [], fun _ => []⟩
theorem t62_0 (k_ : Nat) : ∀ (i8 : Int) (b0 : V) (b1 : V) (r2 : List V), Agr id (pk0 a62_0) (spec_l7set_l6 k_ i8 b0 b1 r2) (rounds c62 L62 (lpB Try.f62 0) k_ (s62_0.mk' (stv [.dead, .dead, vi i8] [bx b0, bx b1, rb r2]))) := by
  induction k_ with
  | zero => exact fun _ _ _ _ => g0
  | succ k_ ih => exact fun _ _ _ _ => gA (g1 (g1 (g1 (ih _ _ _ _) g4) g0) g4) (by kernel_rfl)
theorem o62 : LoopsOk c62 L62 (bodyOf Try.f62) := GoodAll.ok (l := [l62_0]) (.cons 0 (by kernel_rfl) (gd0 (fun st => ((((br st 2).length : Nat) : Int) - ((sv st 2).I)).toNat + 1) (fun st => t62_0 _ _ _ _ _) fun st => by kernel_rfl) (.nil)) rfl
set_option maxRecDepth 100000 in
noncomputable def e62 : En Try.prog tab := enP base [e75, e118, e74] false [] Try.func62 (L := L62) o62 [(.rf t_impl_Wheel [(.int .i64), (.rr t_impl_Timer true)]), (.one (.int .i64)), (.one (.int .i64))] (fun a => spec_l7set ((rd a 0).unbox) ((rd a 1).I) ((rd a 2).I)) (fun r_ : Bool × V => ((V.bool r_.1), [(V.rf t_impl_Wheel (l1 r_.2))])) [] [[.dead, (.rr t_impl_Timer true)]] [none, none, none] false (by kernel_rfl) fun _ => gA (g1 g4 (g1 g4 (g1 g4 (g1 g4 (g2 fun _ => g1 (g1 g4 (g2 fun _ => g2 fun _ => g1 (g1 (g1 (g1 (g1 g4 g0) g0) g0) g0) g0)) (g2 fun _ => g2 fun _ => g1 (g1 (g1 (g1 (g1 g4 g0) g0) g0) g0) g0)))))) (by kernel_rfl)
noncomputable def c125 : Cfg := cfgOf (P := Try.prog) (tab := tab) [e83, e62] false []
def a125_0 (r_ : V × V × V × List V × List V) : List (Ex × St) := [((Ex.exit 0), (⟨[(2, (V.bp 1 0)), (3, (V.bp 2 0))], [(0, some (Blk.box t_spec_l1Cur (l0 r_.1))), (1, some (Blk.box t_impl_Wheel [(vi (gi r_.2.1 0)), (vs 3 t_impl_Timer)])), (2, some (Blk.box t_impl_Wheel [(vi (gi r_.2.2.1 0)), (vs 4 t_impl_Timer)])), (3, some (Blk.row t_impl_Timer true r_.2.2.2.1)), (4, some (Blk.row t_impl_Timer true r_.2.2.2.2))], 5, [0]⟩ : St))]
def s125_0 : SS := ⟨[(0, (.one (.bp 0 0))), (2, (.one (.bp 1 0))), (3, (.one (.bp 2 0))), (4, (.one (.int .i64))), (5, (.one (.int .i64)))], [(.box t_spec_l1Cur [(.inl t_byte), (.int .i64), (.int .i64)]), (.box t_impl_Wheel [(.int .i64), (.sl 3 t_impl_Timer)]), (.box t_impl_Wheel [(.int .i64), (.sl 4 t_impl_Timer)]), (.row t_impl_Timer true), (.row t_impl_Timer true)], 5, [0]⟩
noncomputable def l125_0 : LE := le0 4 s125_0 (fun st => spec_l7draw_l4 ((((sv st 3).I) - ((sv st 4).I)).toNat + 1) ((sv st 3).I) ((sv st 4).I) (bc st 0) (bc st 1) (bc st 2) (br st 3) (br st 4)) a125_0
noncomputable def L125 : Loops := ⟨fun k => (look [(4, [0, 2, 3, 4, 5])] k).getD [], fun k => (look [(4, [⟨2, some 1, true⟩, ⟨3, some 1, true⟩])] k).getD [], fun k => (look [(4, [2, 3])] k).getD [], runL [l125_0], [], fun _ => []⟩
theorem t125_0 (k_ : Nat) : ∀ (n4 : Int) (i5 : Int) (b0 : V) (b1 : V) (b2 : V) (r3 : List V) (r4 : List V), Agr id (pk0 a125_0) (spec_l7draw_l4 k_ n4 i5 b0 b1 b2 r3 r4) (rounds c125 L125 (lpB Try.f125 0) k_ (s125_0.mk' (stv [.dead, .dead, .dead, vi n4, vi i5] [bx b0, bx b1, bx b2, rb r3, rb r4]))) := by
  induction k_ with
  | zero => exact fun _ _ _ _ _ _ _ => g0
  | succ k_ ih => exact fun _ _ _ _ _ _ _ => gA (g1 (g2 fun _ => g2 fun _ => g2 fun _ => ih _ _ _ _ _ _ _) g4) (by kernel_rfl)
theorem o125 : LoopsOk c125 L125 (bodyOf Try.f125) := GoodAll.ok (l := [l125_0]) (.cons 0 (by kernel_rfl) (gd0 (fun st => (((sv st 3).I) - ((sv st 4).I)).toNat + 1) (fun st => t125_0 _ _ _ _ _ _ _ _) fun st => by kernel_rfl) (.nil)) rfl
noncomputable def e125 : En Try.prog tab := enP base [e83, e62] false [] Try.func125 (L := L125) o125 [(.rf t_spec_l1Cur [(.inl t_byte), (.int .i64), (.int .i64)])] (fun a => spec_l7draw ((rd a 0).unbox)) (fun r_ : V × V => ((h3 r_.1), [(V.rf t_spec_l1Cur (l0 r_.2))])) [[.dead, (.rr t_impl_Timer true)]] [[(.inl t_byte)]] [none] false (by kernel_rfl) fun _ => gA (g2 fun _ => g2 fun _ => g2 fun _ => g4) (by kernel_rfl)
noncomputable def e82 : En Try.prog tab := enP base [e83] false [] Try.func82 noLo [(.rf t_spec_l1Cur [(.inl t_byte), (.int .i64), (.int .i64)]), (.one (.int .i64))] (fun a => spec_l1Once ((rd a 0).unbox) ((rd a 1).I)) (fun r_ : Bool × V => ((V.bool r_.1), [(V.rf t_spec_l1Cur (l0 r_.2))])) [] [[(.inl t_byte)]] [none, none] false (by kernel_rfl) fun _ => gA (g2 fun _ => g4) (by kernel_rfl)
noncomputable def e73 : En Try.prog tab := enP base [e83] false [] Try.func73 noLo [(.rf t_spec_l1Cur [(.inl t_byte), (.int .i64), (.int .i64)]), (.one (.inl t_int'))] (fun a => spec_l1PickInt ((rd a 0).unbox) ((rd a 1).L)) (fun r_ : Int × V => ((vi r_.1), [(V.rf t_spec_l1Cur (l0 r_.2))])) [] [[(.inl t_byte)]] [none, some t_int'] false (by kernel_rfl) fun _ => gA (g2 fun _ => g1 g4 g0) (by kernel_rfl)
noncomputable def c72 : Cfg := cfgOf (P := Try.prog) (tab := tab) [e125, e82, e83, e73] false []
def a72_0 (r_ : V × V × V × List V × List V) : List (Ex × St) := [((Ex.exit 1), (⟨[(2, (V.bp 1 0)), (3, (V.bp 2 0))], [(0, some (Blk.box t_spec_l1Cur (l0 r_.1))), (1, some (Blk.box t_impl_Wheel [(vi (gi r_.2.1 0)), (vs 3 t_impl_Timer)])), (2, some (Blk.box t_impl_Wheel [(vi (gi r_.2.2.1 0)), (vs 4 t_impl_Timer)])), (3, some (Blk.row t_impl_Timer true r_.2.2.2.1)), (4, some (Blk.row t_impl_Timer true r_.2.2.2.2))], 5, [0]⟩ : St))]
def s72_0 : SS := ⟨[(0, (.one (.bp 0 0))), (2, (.one (.bp 1 0))), (3, (.one (.bp 2 0))), (4, (.one (.int .i64)))], [(.box t_spec_l1Cur [(.inl t_byte), (.int .i64), (.int .i64)]), (.box t_impl_Wheel [(.int .i64), (.sl 3 t_impl_Timer)]), (.box t_impl_Wheel [(.int .i64), (.sl 4 t_impl_Timer)]), (.row t_impl_Timer true), (.row t_impl_Timer true)], 5, [0]⟩
noncomputable def l72_0 : LE := le0 6 s72_0 (fun st => spec_l7bent_l6 ((42 - (br st 4).length) + 1) ((sv st 3).I) (bc st 0) (bc st 1) (bc st 2) (br st 3) (br st 4)) a72_0
noncomputable def L72 : Loops := ⟨fun k => (look [(6, [0, 2, 3, 4])] k).getD [], fun k => (look [(6, [⟨2, some 1, true⟩])] k).getD [], fun k => (look [(6, [2, 3])] k).getD [], runL [l72_0], [], fun _ => []⟩
theorem t72_0 (k_ : Nat) : ∀ (i4 : Int) (b0 : V) (b1 : V) (b2 : V) (r3 : List V) (r4 : List V), Agr id (pk0 a72_0) (spec_l7bent_l6 k_ i4 b0 b1 b2 r3 r4) (rounds c72 L72 (lpB Try.f72 0) k_ (s72_0.mk' (stv [.dead, .dead, .dead, vi i4] [bx b0, bx b1, bx b2, rb r3, rb r4]))) := by
  induction k_ with
  | zero => exact fun _ _ _ _ _ _ => g0
  | succ k_ ih => exact fun _ _ _ _ _ _ => gA (g2 fun _ => g1 (g1 (ih _ _ _ _ _ _) g0) g4) (by kernel_rfl)
theorem o72 : LoopsOk c72 L72 (bodyOf Try.f72) := GoodAll.ok (l := [l72_0]) (.cons 0 (by kernel_rfl) (gd0 (fun st => (42 - (br st 4).length) + 1) (fun st => t72_0 _ _ _ _ _ _ _) fun st => by kernel_rfl) (.nil)) rfl
set_option maxRecDepth 100000 in
noncomputable def e72 : En Try.prog tab := enP base [e125, e82, e83, e73] false [] Try.func72 (L := L72) o72 [(.rf t_spec_l1Cur [(.inl t_byte), (.int .i64), (.int .i64)])] (fun a => spec_l7bent ((rd a 0).unbox)) (fun r_ : V × V => ((h3 r_.1), [(V.rf t_spec_l1Cur (l0 r_.2))])) [[.dead, (.rr t_impl_Timer true)]] [[(.inl t_byte)]] [none] false (by kernel_rfl) fun _ => gA (g2 fun _ => g2 fun _ => g1 g4 (g2 fun _ => g1 (g2 fun _ => g4) (g1 (g2 fun _ => g1 g4 g0) (g1 (g1 (g2 fun _ => g1 g4 g0) g4) (g1 (g1 (g1 g4 g0) g4) (g2 fun _ => g4)))))) (by kernel_rfl)
noncomputable def e25 : En Try.prog tab := enP base [e71, e72, e73] false [] Try.func25 noLo [(.one (.inl t_byte))] (fun a => spec_DrawWheelSet ((rd a 0).L)) (fun r_ : V × Int × Int => ((V.tup [(h3 r_.1), (vi r_.2.1), (vi r_.2.2)]), [])) [[.dead, (.rr t_impl_Timer true)]] [] [some t_byte] false (by kernel_rfl) fun _ => gA (g2 fun _ => g2 fun _ => g2 fun _ => g2 fun _ => g4) (by kernel_rfl)
noncomputable def e57 : En Try.prog tab := enT base [] false [] Try.func57 noLo [(.one (.int .i64)), (.one (.int .i64)), (.one (.int .i64))] (fun a => impl_within ((rd a 0).I) ((rd a 1).I) ((rd a 2).I)) (fun r_ : Bool => ((V.bool r_), [])) [] [] [none, none, none] false (by kernel_rfl) fun _ => gT (g5 g7 g7) (by kernel_rfl)
noncomputable def e65 : En Try.prog tab := enT base [e57] false [] Try.func65 noLo [(.one (.int .i64))] (fun a => impl_isId ((rd a 0).I)) (fun r_ : Bool => ((V.bool r_), [])) [] [] [none] false (by kernel_rfl) fun _ => gT g7 (by kernel_rfl)
noncomputable def e122 : En Try.prog tab := enT base [] false [] Try.func122 noLo [(.agg [(.int .i64), (.int .i64)]), (.ep [(.int .i64)] 0)] (fun a => impl_Wheel_timer_1 (rd a 0) ((rd a 1).unbox)) (fun r_ : Bool => ((V.bool r_), [])) [] [] [none] false (by kernel_rfl) fun _ => gT g7 (by kernel_rfl)
noncomputable def c121 : Cfg := cfgOf (P := Try.prog) (tab := tab) [e122] false []
def a121_0 (r_ : Nat × Int) : List (Ex × St) := [(Ex.ret, (⟨[(4, (vi r_.2))], [], 0, []⟩ : St)), ((Ex.exit 0), (⟨[(4, V.dead)], [], 0, []⟩ : St))]
def s121_0 : SS := ⟨[(0, (.one (.inl t_impl_Timer))), (1, (.fn 122 [[(.int .i64)]])), (7, (.one (.int .i64))), (8, (.one (.int .i64)))], [], 0, []⟩
noncomputable def l121_0 : LE := le1 2 s121_0 (fun st => slices_IndexFunc_Timer_l2 ((((sv st 2).I) - ((sv st 3).I)).toNat + 1) ((sv st 0).L) ((rd (sv st 1).caps 0).unbox) ((sv st 2).I) ((sv st 3).I)) a121_0
noncomputable def L121 : Loops := ⟨fun k => (look [(2, [0, 1, 7, 8])] k).getD [], fun _ => [], fun k => (look [(2, [4])] k).getD [], runL [l121_0], [], fun _ => []⟩
theorem t121_0 (k_ : Nat) : ∀ (s0 : List V) (f1_0 : V) (v7 : Int) (v8 : Int), Agr id (pk1 a121_0) (slices_IndexFunc_Timer_l2 k_ s0 f1_0 v7 v8) (rounds c121 L121 (lpB Try.f121 0) k_ (s121_0.mk' (stv [V.inl 0 s0, V.fn 0 [.ep (V.cells f1_0) 0], vi v7, vi v8] []))) := by
  induction k_ with
  | zero => exact fun _ _ _ _ => g0
  | succ k_ ih => exact fun _ _ _ _ => gA (g1 (g1 (g1 g4 (ih _ _ _ _)) g0) g4) (by kernel_rfl)
theorem o121 : LoopsOk c121 L121 (bodyOf Try.f121) := GoodAll.ok (l := [l121_0]) (.cons 0 (by kernel_rfl) (gd1 (fun st => (((sv st 2).I) - ((sv st 3).I)).toNat + 1) (fun st => t121_0 _ _ _ _ _) fun st => by kernel_rfl) (.nil)) rfl
noncomputable def e121 : En Try.prog tab := enP base [e122] false [] Try.func121 (L := L121) o121 [(.one (.inl t_impl_Timer)), (.fn 122 [[(.int .i64)]])] (fun a => slices_IndexFunc_Timer ((rd a 0).L) ((rd (rd a 1).caps 0).unbox)) (fun r_ : Int => ((vi r_), [])) [] [] [some t_impl_Timer, none] false (by kernel_rfl) fun _ => gA (g2 fun _ => g1 g4 g4) (by kernel_rfl)
noncomputable def e66 : En Try.prog tab := enP base [e121] false [] Try.func66 noLo [(.agg [(.int .i64), (.inl t_impl_Timer)]), (.one (.int .i64))] (fun a => impl_Wheel_timer (rd a 0) ((rd a 1).I)) (fun r_ : Int => ((vi r_), [])) [] [] [none, none] false (by kernel_rfl) fun _ => gA (g2 fun _ => g4) (by kernel_rfl)
noncomputable def e160 : En Try.prog tab := enT base [] false [] Try.func160 noLo [(.one (.int .i64))] (fun a => cmp_isNaN_int ((rd a 0).I)) (fun r_ : Bool => ((V.bool r_), [])) [] [] [none] false (by kernel_rfl) fun _ => gT g7 (by kernel_rfl)
noncomputable def e127 : En Try.prog tab := enT base [e160] false [] Try.func127 noLo [(.one (.int .i64)), (.one (.int .i64))] (fun a => cmp_Compare_int ((rd a 0).I) ((rd a 1).I)) (fun r_ : Int => ((vi r_), [])) [] [] [none, none] false (by kernel_rfl) fun _ => gT (g5 (g5 g7 g7) (g5 g7 (g5 g7 (g5 g7 g7)))) (by kernel_rfl)
noncomputable def c126 : Cfg := cfgOf (P := Try.prog) (tab := tab) [] false []
def a126_0 (r_ : Nat × Int × Int) : List (Ex × St) := [(Ex.ret, (⟨[(2, (vi r_.2.1)), (3, (vi r_.2.2))], [], 0, []⟩ : St)), ((Ex.exit 0), (⟨[(2, V.dead), (3, (vi r_.2.2))], [], 0, []⟩ : St))]
def s126_0 : SS := ⟨[(3, (.one (.int .i64))), (6, (.one (.inl t_int'))), (7, (.one (.int .i64))), (8, (.one (.int .i64)))], [], 0, []⟩
noncomputable def l126_0 : LE := le1 3 s126_0 (fun st => cmp_Or_int_l3 ((((sv st 2).I) - ((sv st 3).I)).toNat + 1) ((sv st 0).I) ((sv st 1).L) ((sv st 2).I) ((sv st 3).I)) a126_0
noncomputable def L126 : Loops := ⟨fun k => (look [(3, [3, 6, 7, 8])] k).getD [], fun _ => [], fun k => (look [(3, [2, 3])] k).getD [], runL [l126_0], [], fun _ => []⟩
theorem t126_0 (k_ : Nat) : ∀ (zero3 : Int) (v6 : List V) (v7 : Int) (v8 : Int), Agr id (pk1 a126_0) (cmp_Or_int_l3 k_ zero3 v6 v7 v8) (rounds c126 L126 (lpB Try.f126 0) k_ (s126_0.mk' (stv [vi zero3, V.inl 0 v6, vi v7, vi v8] []))) := by
  induction k_ with
  | zero => exact fun _ _ _ _ => g0
  | succ k_ ih => exact fun _ _ _ _ => gA (g1 (g1 (g1 g4 (ih _ _ _ _)) g0) g4) (by kernel_rfl)
theorem o126 : LoopsOk c126 L126 (bodyOf Try.f126) := GoodAll.ok (l := [l126_0]) (.cons 0 (by kernel_rfl) (gd1 (fun st => (((sv st 2).I) - ((sv st 3).I)).toNat + 1) (fun st => t126_0 _ _ _ _ _) fun st => by kernel_rfl) (.nil)) rfl
noncomputable def e126 : En Try.prog tab := enP base [] false [] Try.func126 (L := L126) o126 [(.one (.inl t_int'))] (fun a => cmp_Or_int ((rd a 0).L)) (fun r_ : Int => ((vi r_), [])) [] [] [some t_int'] false (by kernel_rfl) fun _ => gA (g2 fun _ => g1 g4 g4) (by kernel_rfl)
noncomputable def e76 : En Try.prog tab := enP base [e127, e126] false [] Try.func76 noLo [(.agg [(.int .i64), (.int .i64)]), (.agg [(.int .i64), (.int .i64)])] (fun a => impl_compareTimers (rd a 0) (rd a 1)) (fun r_ : Int => ((vi r_), [])) [] [] [none, none] false (by kernel_rfl) fun _ => gA (g2 fun _ => g4) (by kernel_rfl)
noncomputable def c27 : Cfg := cfgOf (P := Try.prog) (tab := tab) [e57, e65, e66, e76] false []
def a27_0 (r_ : Nat × Bool) : List (Ex × St) := [(Ex.ret, (⟨[(2, (V.bool r_.2))], [], 0, []⟩ : St)), ((Ex.exit 0), (⟨[(2, V.dead)], [], 0, []⟩ : St))]
def s27_0 : SS := ⟨[(1, (.one (.bp 0 0))), (16, (.one (.inl t_impl_Timer))), (17, (.one (.int .i64))), (18, (.one (.int .i64)))], [(.box t_impl_Wheel [(.int .i64), (.inl t_impl_Timer)])], 1, []⟩
noncomputable def l27_0 : LE := le1 4 s27_0 (fun st => impl_WheelOk_l4 ((((sv st 2).I) - ((sv st 3).I)).toNat + 1) ((sv st 1).L) ((sv st 2).I) ((sv st 3).I) (bc st 0)) a27_0
noncomputable def L27 : Loops := ⟨fun k => (look [(4, [1, 16, 17, 18])] k).getD [], fun _ => [], fun k => (look [(4, [2])] k).getD [], runL [l27_0], [], fun _ => []⟩
set_option maxRecDepth 100000 in
theorem t27_0 (k_ : Nat) : ∀ (v16 : List V) (v17 : Int) (v18 : Int) (b0 : V), Agr id (pk1 a27_0) (impl_WheelOk_l4 k_ v16 v17 v18 b0) (rounds c27 L27 (lpB Try.f27 0) k_ (s27_0.mk' (stv [.dead, V.inl 0 v16, vi v17, vi v18] [bx b0]))) := by
  induction k_ with
  | zero => exact fun _ _ _ _ => g0
  | succ k_ ih => exact fun _ _ _ _ => gA (g1 (g1 (g1 g4 (g2 fun _ => g1 g4 (g1 g4 (g1 (g1 (g2 fun _ => g1 g4 (ih _ _ _ _)) g0) (ih _ _ _ _))))) g0) g4) (by kernel_rfl)
theorem o27 : LoopsOk c27 L27 (bodyOf Try.f27) := GoodAll.ok (l := [l27_0]) (.cons 0 (by kernel_rfl) (gd1 (fun st => (((sv st 2).I) - ((sv st 3).I)).toNat + 1) (fun st => t27_0 _ _ _ _ _) fun st => by kernel_rfl) (.nil)) rfl
noncomputable def e27 : En Try.prog tab := enP base [e57, e65, e66, e76] false [] Try.func27 (L := L27) o27 [(.agg [(.int .i64), (.inl t_impl_Timer)])] (fun a => impl_WheelOk (rd a 0)) (fun r_ : Bool => ((V.bool r_), [])) [] [] [none] false (by kernel_rfl) fun _ => gA (g1 g4 (g1 g4 (g2 fun _ => g1 g4 g4))) (by kernel_rfl)
noncomputable def e120 : En Try.prog tab := enN base [] false [] Try.func120 noLo t_impl_Timer slices_Clone_Timer (fun r_ : List V => ((V.rr t_impl_Timer true r_), [])) [[(.rr t_impl_Timer true)]] [] [some t_impl_Timer] false (by kernel_rfl) (fun _ => gA (g1 g4 g0) (by kernel_rfl)) (by
  have h : evalW (wkF [[(.rr t_impl_Timer true)]] []) (cfgOf (P := Try.prog) (tab := tab) [] false []) noL Try.f120 [V.nl t_impl_Timer] = (some (wkF [[(.rr t_impl_Timer true)]] [] ((V.nil t_impl_Timer), []))) := by kernel_rfl
  rw [h, slices_Clone_Timer]
  clear h
  intro r h; revert h; simp only [List.length_nil]; intro h; first | (cases h; kernel_rfl) | (revert h; simp [roomy]; intro h; subst h; kernel_rfl))
noncomputable def e64 : En Try.prog tab := enP base [e120] false [] Try.func64 noLo [(.agg [(.int .i64), (.inl t_impl_Timer)])] (fun a => impl_Wheel_own (rd a 0)) (fun r_ : V => ((h3 r_), [])) [[.dead, (.rr t_impl_Timer true)]] [] [none] false (by kernel_rfl) fun _ => gA (g2 fun _ => g4) (by kernel_rfl)
noncomputable def e128 : En Try.prog tab := enDel base Try.func128 (by kernel_rfl) t_impl_Timer rfl true del128 delSame128 [some t_impl_Timer, none, none]
noncomputable def e77 : En Try.prog tab := enP base [e66, e128] false [] Try.func77 noLo [(.rf t_impl_Wheel [(.int .i64), (.rr t_impl_Timer true)]), (.one (.int .i64))] (fun a => impl_Wheel_stop ((rd a 0).unbox) ((rd a 1).I)) (fun r_ : Bool × V => ((V.bool r_.1), [(V.rf t_impl_Wheel (l1 r_.2))])) [] [[.dead, (.rr t_impl_Timer true)]] [none, none] false (by kernel_rfl) fun _ => gA (g2 fun _ => g1 (g2 fun _ => g4) g4) (by kernel_rfl)
noncomputable def e123 : En Try.prog tab := enSort base Try.func123 (by kernel_rfl) t_impl_Timer rfl true 76 cfT rfl sort123 [some t_impl_Timer, none]
noncomputable def e67 : En Try.prog tab := enP base [e77, e123] false [] Try.func67 noLo [(.rf t_impl_Wheel [(.int .i64), (.rr t_impl_Timer true)]), (.one (.int .i64)), (.one (.int .i64))] (fun a => impl_Wheel_set ((rd a 0).unbox) ((rd a 1).I) ((rd a 2).I)) (fun r_ : V => ((V.tup []), [(V.rf t_impl_Wheel (l1 r_))])) [] [[.dead, (.rr t_impl_Timer true)]] [none, none, none] false (by kernel_rfl) fun _ => gA (g2 fun _ => g1 (g2 fun _ => g4) g0) (by kernel_rfl)
set_option maxRecDepth 100000 in
noncomputable def e21 : En Try.prog tab := enP base [e27, e64, e65, e57, e66, e67] false [] Try.func21 noLo [(.agg [(.int .i64), (.inl t_impl_Timer)]), (.one (.int .i64)), (.one (.int .i64))] (fun a => impl_WheelSet (rd a 0) ((rd a 1).I) ((rd a 2).I)) (fun r_ : V × Bool => ((V.tup [(h3 r_.1), (V.bool r_.2)]), [])) [[.dead, (.rr t_impl_Timer true)]] [] [none, none, none] false (by kernel_rfl) fun _ => gA (g2 fun _ => g1 g4 (g2 fun _ => g1 g4 (g1 g4 (g2 fun _ => g1 (g1 g4 (g2 fun _ => g4)) (g2 fun _ => g4))))) (by kernel_rfl)
noncomputable def c26 : Cfg := cfgOf (P := Try.prog) (tab := tab) [e74, e75] false []
def a26_0 (r_ : Nat × Bool) : List (Ex × St) := [(Ex.ret, (⟨[(2, (V.bool r_.2))], [], 0, []⟩ : St)), ((Ex.exit 0), (⟨[(2, V.dead)], [], 0, []⟩ : St))]
def s26_0 : SS := ⟨[(1, (.one (.bp 0 0))), (3, (.one (.int .i64)))], [(.box t_impl_Wheel [(.int .i64), (.inl t_impl_Timer)])], 1, []⟩
noncomputable def l26_0 : LE := le1 4 s26_0 (fun st => spec_WheelOk_l4 (((((gl (bc st 0) 1).length : Nat) : Int) - ((sv st 1).I)).toNat + 1) ((sv st 1).I) (bc st 0)) a26_0
noncomputable def L26 : Loops := ⟨fun k => (look [(4, [1, 3])] k).getD [], fun _ => [], fun k => (look [(4, [2])] k).getD [], runL [l26_0], [], fun _ => []⟩
set_option maxRecDepth 100000 in
theorem t26_0 (k_ : Nat) : ∀ (i3 : Int) (b0 : V), Agr id (pk1 a26_0) (spec_WheelOk_l4 k_ i3 b0) (rounds c26 L26 (lpB Try.f26 0) k_ (s26_0.mk' (stv [.dead, vi i3] [bx b0]))) := by
  induction k_ with
  | zero => exact fun _ _ => g0
  | succ k_ ih => exact fun _ _ => gA (g1 (g1 (g1 g4 (g1 g4 (g1 g4 (g1 g4 (g1 (g1 (g1 g4 (g1 (g2 fun _ => g1 g4 (ih _ _)) g0)) g0) (g1 (g2 fun _ => g1 g4 (ih _ _)) g0)))))) g0) g4) (by kernel_rfl)
theorem o26 : LoopsOk c26 L26 (bodyOf Try.f26) := GoodAll.ok (l := [l26_0]) (.cons 0 (by kernel_rfl) (gd1 (fun st => ((((gl (bc st 0) 1).length : Nat) : Int) - ((sv st 1).I)).toNat + 1) (fun st => t26_0 _ _ _) fun st => by kernel_rfl) (.nil)) rfl
noncomputable def e26 : En Try.prog tab := enP base [e74, e75] false [] Try.func26 (L := L26) o26 [(.agg [(.int .i64), (.inl t_impl_Timer)])] (fun a => spec_WheelOk (rd a 0)) (fun r_ : Bool => ((V.bool r_), [])) [] [] [none] false (by kernel_rfl) fun _ => gA (g1 g4 (g1 g4 (g1 g4 (g2 fun _ => g1 g4 g4)))) (by kernel_rfl)
noncomputable def c28 : Cfg := cfgOf (P := Try.prog) (tab := tab) [] false []
def a28_0 (r_ : Nat × Bool) : List (Ex × St) := [(Ex.ret, (⟨[(4, (V.bool r_.2))], [], 0, []⟩ : St)), ((Ex.exit 0), (⟨[(4, V.dead)], [], 0, []⟩ : St))]
def s28_0 : SS := ⟨[(2, (.one (.bp 0 0))), (3, (.one (.bp 1 0))), (5, (.one (.int .i64)))], [(.box t_impl_Wheel [(.int .i64), (.inl t_impl_Timer)]), (.box t_impl_Wheel [(.int .i64), (.inl t_impl_Timer)])], 2, []⟩
noncomputable def l28_0 : LE := le1 4 s28_0 (fun st => laws_sameWheel_l4 (((((gl (bc st 0) 1).length : Nat) : Int) - ((sv st 2).I)).toNat + 1) ((sv st 2).I) (bc st 0) (bc st 1)) a28_0
noncomputable def L28 : Loops := ⟨fun k => (look [(4, [2, 3, 5])] k).getD [], fun _ => [], fun k => (look [(4, [4])] k).getD [], runL [l28_0], [], fun _ => []⟩
theorem t28_0 (k_ : Nat) : ∀ (i5 : Int) (b0 : V) (b1 : V), Agr id (pk1 a28_0) (laws_sameWheel_l4 k_ i5 b0 b1) (rounds c28 L28 (lpB Try.f28 0) k_ (s28_0.mk' (stv [.dead, .dead, vi i5] [bx b0, bx b1]))) := by
  induction k_ with
  | zero => exact fun _ _ _ => g0
  | succ k_ ih => exact fun _ _ _ => gA (g1 (g1 (g1 (g1 g4 (ih _ _ _)) g0) g0) g4) (by kernel_rfl)
theorem o28 : LoopsOk c28 L28 (bodyOf Try.f28) := GoodAll.ok (l := [l28_0]) (.cons 0 (by kernel_rfl) (gd1 (fun st => ((((gl (bc st 0) 1).length : Nat) : Int) - ((sv st 2).I)).toNat + 1) (fun st => t28_0 _ _ _ _) fun st => by kernel_rfl) (.nil)) rfl
noncomputable def e28 : En Try.prog tab := enP base [] false [] Try.func28 (L := L28) o28 [(.agg [(.int .i64), (.inl t_impl_Timer)]), (.agg [(.int .i64), (.inl t_impl_Timer)])] (fun a => laws_sameWheel (rd a 0) (rd a 1)) (fun r_ : Bool => ((V.bool r_), [])) [] [] [none, none] false (by kernel_rfl) fun _ => gA (g1 g4 (g1 g4 (g2 fun _ => g1 g4 g4))) (by kernel_rfl)
noncomputable def e29 : En Try.prog tab := enP base [e27, e66] false [] Try.func29 noLo [(.agg [(.int .i64), (.inl t_impl_Timer)]), (.one (.int .i64))] (fun a => impl_WheelLeft (rd a 0) ((rd a 1).I)) (fun r_ : Int × Bool => ((V.tup [(vi r_.1), (V.bool r_.2)]), [])) [] [] [none, none] false (by kernel_rfl) fun _ => gA (g2 fun _ => g1 g4 (g2 fun _ => g1 g4 (g1 g4 g0))) (by kernel_rfl)
noncomputable def e30 : En Try.prog tab := enP base [e27] false [] Try.func30 noLo [(.agg [(.int .i64), (.inl t_impl_Timer)])] (fun a => impl_WheelNext (rd a 0)) (fun r_ : Int × Bool => ((V.tup [(vi r_.1), (V.bool r_.2)]), [])) [] [] [none] false (by kernel_rfl) fun _ => gA (g2 fun _ => g1 g4 (g1 g4 (g1 g4 g0))) (by kernel_rfl)
noncomputable def e31 : En Try.prog tab := enP base [e27, e64, e77] false [] Try.func31 noLo [(.agg [(.int .i64), (.inl t_impl_Timer)]), (.one (.int .i64))] (fun a => impl_WheelStop (rd a 0) ((rd a 1).I)) (fun r_ : V × Bool => ((V.tup [(h3 r_.1), (V.bool r_.2)]), [])) [[.dead, (.rr t_impl_Timer true)]] [] [none, none] false (by kernel_rfl) fun _ => gA (g2 fun _ => g1 g4 (g2 fun _ => g2 fun _ => g4)) (by kernel_rfl)
noncomputable def e32 : En Try.prog tab := enP base [] false [] Try.func32 noLo [(.one (.inl t_byte)), (.one (.int .i64))] (fun a => laws_at ((rd a 0).L) ((rd a 1).I)) (fun r_ : Int => ((vi r_), [])) [] [] [some t_byte, none] false (by kernel_rfl) fun _ => gA (g1 g4 (g1 (g1 g4 g0) g0)) (by kernel_rfl)
noncomputable def c78 : Cfg := cfgOf (P := Try.prog) (tab := tab) [] false []
def a78_0 (r_ : V × List V) : List (Ex × St) := [((Ex.exit 0), (⟨[(5, (vs 1 t_int'))], [(0, some (Blk.box t_impl_Wheel (l4 r_.1))), (1, some (Blk.row t_int' true r_.2))], 2, [0]⟩ : St))]
def s78_0 : SS := ⟨[(0, (.one (.bp 0 0))), (5, (.one (.sl 1 t_int')))], [(.box t_impl_Wheel [(.int .i64), (.inl t_impl_Timer)]), (.row t_int' true)], 2, [0]⟩
noncomputable def l78_0 : LE := le0 3 s78_0 (fun st => impl_Wheel_tick_l3 (((((gl (bc st 0) 1).length : Nat) : Int) - 0).toNat + 1) (bc st 0) (br st 1)) a78_0
noncomputable def L78 : Loops := ⟨fun k => (look [(3, [0, 5])] k).getD [], fun k => (look [(3, [⟨5, none, true⟩, ⟨0, some 1001, true⟩])] k).getD [], fun k => (look [(3, [5])] k).getD [], runL [l78_0], [], fun _ => []⟩
set_option maxRecDepth 100000 in
theorem t78_0 (k_ : Nat) : ∀ (b0 : V) (r1 : List V), Agr id (pk0 a78_0) (impl_Wheel_tick_l3 k_ b0 r1) (rounds c78 L78 (lpB Try.f78 0) k_ (s78_0.mk' (stv [] [bx b0, rb r1]))) := by
  induction k_ with
  | zero => exact fun _ _ => g0
  | succ k_ ih => exact fun _ _ => gA (g1 (g1 (g1 (g1 (g1 (g1 (ih _ _) g0) g0) g0) g4) g0) g4) (by kernel_rfl)
theorem o78 : LoopsOk c78 L78 (bodyOf Try.f78) := GoodAll.ok (l := [l78_0]) (.cons 0 (by kernel_rfl) (gd0 (fun st => ((((gl (bc st 0) 1).length : Nat) : Int) - 0).toNat + 1) (fun st => t78_0 _ _ _) fun st => by kernel_rfl) (.nil)) rfl
noncomputable def e78 : En Try.prog tab := enP base [] false [] Try.func78 (L := L78) o78 [(.rf t_impl_Wheel [(.int .i64), (.rr t_impl_Timer true)]), (.one (.int .i64))] (fun a => impl_Wheel_tick ((rd a 0).unbox) ((rd a 1).I)) (fun r_ : List V × V => ((V.rr t_int' true r_.1), [(V.rf t_impl_Wheel (l4 r_.2))])) [[(.rr t_int' true)]] [[.dead, (.inl t_impl_Timer)]] [none, none] false (by kernel_rfl) fun _ => gA (g2 fun _ => g4) (by kernel_rfl)
noncomputable def e33 : En Try.prog tab := enP base [e27, e64, e57, e78] false [] Try.func33 noLo [(.agg [(.int .i64), (.inl t_impl_Timer)]), (.one (.int .i64))] (fun a => impl_WheelTick (rd a 0) ((rd a 1).I)) (fun r_ : V × List V => ((V.tup [(n_impl_Wheel r_.1), (V.rr t_int' true r_.2)]), [])) [[.dead, (.inl t_impl_Timer)], [(.rr t_int' true)]] [] [none, none] false (by kernel_rfl) fun _ => gA (g2 fun _ => g1 g4 (g2 fun _ => g1 g4 (g2 fun _ => g4))) (by kernel_rfl)
noncomputable def c5 : Cfg := cfgOf (P := Try.prog) (tab := tab) [e25, e21, e26, e27, e28, e29, e30, e31, e32, e33] false []
def a5_0 (r_ : Nat × Bool × Int × Bool × List V) : List (Ex × St) := [(Ex.ret, (⟨[(2, (V.bool r_.2.1)), (4, (vi r_.2.2.1)), (18, (vs 0 t_int')), (24, (V.bool r_.2.2.2.1))], [(0, some (Blk.row t_int' true r_.2.2.2.2))], 1, []⟩ : St)), ((Ex.exit 0), (⟨[(2, V.dead), (4, (vi r_.2.2.1)), (18, (vs 0 t_int')), (24, (V.bool r_.2.2.2.1))], [(0, some (Blk.row t_int' true r_.2.2.2.2))], 1, []⟩ : St))]
def s5_0 : SS := ⟨[(4, (.one (.int .i64))), (18, (.one (.sl 0 t_int'))), (22, (.one (.sl 1 t_int'))), (23, (.one (.sl 2 t_int'))), (24, (.one .bool)), (25, (.one (.int .i64)))], [(.row t_int' true), (.row t_int' true), (.row t_int' true)], 3, []⟩
noncomputable def l5_0 : LE := le1 24 s5_0 (fun st => laws_FnWheels_l24 (((((br st 1).length : Nat) : Int) - ((sv st 5).I)).toNat + 1) ((sv st 0).I) ((sv st 4).B) ((sv st 5).I) (br st 0) (br st 1) (br st 2)) a5_0
def a5_1 (r_ : Nat × Bool × Bool) : List (Ex × St) := [(Ex.ret, (⟨[(2, (V.bool r_.2.1)), (24, (V.bool r_.2.2))], [], 0, []⟩ : St)), ((Ex.exit 2), (⟨[(2, V.dead), (24, (V.bool r_.2.2))], [], 0, []⟩ : St))]
def s5_1 : SS := ⟨[(4, (.one (.int .i64))), (18, (.one (.sl 0 t_int'))), (24, (.one .bool)), (26, (.one (.int .i64)))], [(.row t_int' true)], 1, []⟩
noncomputable def l5_1 : LE := le1 30 s5_1 (fun st => laws_FnWheels_l30 (((((br st 0).length : Nat) : Int) - ((sv st 3).I)).toNat + 1) ((sv st 0).I) ((sv st 2).B) ((sv st 3).I) (br st 0)) a5_1
noncomputable def L5 : Loops := ⟨fun k => (look [(24, [4, 18, 22, 23, 24, 25]), (30, [4, 18, 24, 26])] k).getD [], fun _ => [], fun k => (look [(24, [2, 4, 18, 24]), (30, [2, 24])] k).getD [], runL [l5_0, l5_1], [], fun k => (look [(16, [⟨6, some 1001, true⟩])] k).getD []⟩
set_option maxRecDepth 100000 in
theorem t5_0 (k_ : Nat) : ∀ (id4 : Int) (mine24 : Bool) (i25 : Int) (r0 : List V) (r1 : List V) (r2 : List V), Agr id (pk1 a5_0) (laws_FnWheels_l24 k_ id4 mine24 i25 r0 r1 r2) (rounds c5 L5 (lpB Try.f5 0) k_ (s5_0.mk' (stv [vi id4, .dead, .dead, .dead, V.bool mine24, vi i25] [rb r0, rb r1, rb r2]))) := by
  induction k_ with
  | zero => exact fun _ _ _ _ _ _ => g0
  | succ k_ ih => exact fun _ _ _ _ _ _ => gA (g1 (g1 (g1 (g1 g4 (g1 (ih _ _ _ _ _ _) (g1 (ih _ _ _ _ _ _) g0))) g0) g0) g4) (by kernel_rfl)
theorem t5_1 (k_ : Nat) : ∀ (id4 : Int) (mine24 : Bool) (i26 : Int) (r0 : List V), Agr id (pk1 a5_1) (laws_FnWheels_l30 k_ id4 mine24 i26 r0) (rounds c5 L5 (lpB Try.f5 1) k_ (s5_1.mk' (stv [vi id4, .dead, V.bool mine24, vi i26] [rb r0]))) := by
  induction k_ with
  | zero => exact fun _ _ _ _ => g0
  | succ k_ ih => exact fun _ _ _ _ => gA (g1 (g1 (g1 g4 (ih _ _ _ _)) g0) g4) (by kernel_rfl)
theorem o5 : LoopsOk c5 L5 (bodyOf Try.f5) := GoodAll.ok (l := [l5_0, l5_1]) (.cons 0 (by kernel_rfl) (gd1 (fun st => ((((br st 1).length : Nat) : Int) - ((sv st 5).I)).toNat + 1) (fun st => t5_0 _ _ _ _ _ _ _) fun st => by kernel_rfl) (.cons 1 (by kernel_rfl) (gd1 (fun st => ((((br st 0).length : Nat) : Int) - ((sv st 3).I)).toNat + 1) (fun st => t5_1 _ _ _ _ _) fun st => by kernel_rfl) (.nil))) rfl
set_option maxRecDepth 100000 in
noncomputable def e5 : En Try.prog tab := enP base [e25, e21, e26, e27, e28, e29, e30, e31, e32, e33] false [] Try.func5 (L := L5) o5 [(.one (.inl t_byte))] (fun a => laws_FnWheels ((rd a 0).L)) (fun r_ : Bool => ((V.bool r_), [])) [] [] [some t_byte] false (by kernel_rfl) fun _ => gA (g2 fun _ => g2 fun _ => g2 fun _ => g1 (g1 (g1 (g2 fun _ => g4) g4) g4) (g1 (g2 fun _ => g4) (g2 fun _ => g2 fun _ => g2 fun _ => g1 g4 (g1 g4 (g1 g4 (g1 g4 (g1 g4 (g2 fun _ => g2 fun _ => g1 (g1 g4 g4) (g1 (g1 g4 g4) (g1 (g1 g4 g4) (g2 fun _ => g1 (g2 fun _ => g2 fun _ => g2 fun _ => g1 (g1 (g2 fun _ => g1 g4 (g1 g4 (g2 fun _ => g1 g4 (g2 fun _ => g1 g4 g4)))) g0) g0) g0))))))))))) (by kernel_rfl)
end Go.Eng.R
open Go Go.Eng
namespace Go.Eng.R
def M_byte (x : V) (k : Int) : Prop := gi x 0 = IntKind.u8.wrap k
def M_int (x : V) (k : Int) : Prop := gi x 0 = k
def M_bool (x : V) (k : Int) : Prop := gb x 0 = decide (k.tmod 3 = 0)
def cnv_byte (x : V) : V := .int .u8 (gi x 0)
def cnv_int (x : V) : V := .int .i64 (gi x 0)
def cnv_bool (x : V) : V := .bool (gb x 0)
theorem cnv_int_W (x : V) (h : W_int x) : W_int (cnv_int x) := h
theorem cnv_int_z (x : V) : z0 (cnv_int x) = z0 x := rfl
theorem cnv_int_c (x : V) : c1 (cnv_int x) = c1 x := rfl
theorem cnv_bool_W (x : V) (h : W_bool x) : W_bool (cnv_bool x) := h
theorem cnv_bool_z (x : V) : z0 (cnv_bool x) = z0 x := rfl
theorem cnv_bool_c (x : V) : c1 (cnv_bool x) = c1 x := rfl
theorem cnv_byte_W (x : V) (h : W_byte x) : W_byte (cnv_byte x) := h
theorem cnv_byte_z (x : V) : z0 (cnv_byte x) = z0 x := rfl
theorem cnv_byte_c (x : V) : c1 (cnv_byte x) = c1 x := rfl
def W_Timer (x : V) : Prop := I64 (gi x 0) ∧ I64 (gi x 1)
def z_Timer (x : V) : Nat := 0
def c_Timer (x : V) : Nat := 1 + 1
def ct_Timer (x : V) : Nat := 0
def M_Timer (x : V) (k : Int) : Prop := gi x 0 = k ∧ gi x 1 = k + 1
def cnv_Timer (x : V) : V := V.agg [(V.int .i64 (gi x 0)), (V.int .i64 (gi x 1))]
theorem cnv_Timer_W (x : V) (h : W_Timer x) : W_Timer (cnv_Timer x) := ⟨h.1, h.2⟩
theorem cnv_Timer_z (x : V) : z_Timer (cnv_Timer x) = z_Timer x := rfl
theorem cnv_Timer_c (x : V) : c_Timer (cnv_Timer x) = c_Timer x := rfl
theorem cnv_Timer_ct (x : V) : ct_Timer (cnv_Timer x) = ct_Timer x := rfl
theorem c_Timer_cz (x : V) : c_Timer x ≤ 2 * (1 + z_Timer x) := by
  simp only [c_Timer, z_Timer]; omega
theorem ct_Timer_cz (x : V) : ct_Timer x ≤ 2 * z_Timer x := by
  simp only [ct_Timer, z_Timer]; omega
def W_Wheel (x : V) : Prop := I64 (gi x 0) ∧ LW W_Timer (gl x 1)
def z_Wheel (x : V) : Nat := zS z_Timer (gl x 1)
def c_Wheel (x : V) : Nat := 1 + sumL c_Timer (gl x 1)
def ct_Wheel (x : V) : Nat := sumL c_Timer (gl x 1)
def M_Wheel (x : V) (k : Int) : Prop := gi x 0 = k ∧ MS c_Timer M_Timer (gl x 1) (k + 1)
def cnv_Wheel (x : V) : V := V.agg [(V.int .i64 (gi x 0)), V.inl t_impl_Timer ((gl x 1).map cnv_Timer)]
theorem cnv_Wheel_W (x : V) (h : W_Wheel x) : W_Wheel (cnv_Wheel x) := ⟨h.1, LW.map (h := cnv_Timer) cnv_Timer_W (h.2)⟩
theorem cnv_Wheel_z (x : V) : z_Wheel (cnv_Wheel x) = z_Wheel x := by
  simp only [z_Wheel, show gl (cnv_Wheel x) 1 = (gl x 1).map cnv_Timer from rfl, zS_map (h := cnv_Timer) cnv_Timer_z (gl x 1)]
theorem cnv_Wheel_c (x : V) : c_Wheel (cnv_Wheel x) = c_Wheel x := by
  simp only [c_Wheel, show gl (cnv_Wheel x) 1 = (gl x 1).map cnv_Timer from rfl, sumL_map (h := cnv_Timer) cnv_Timer_c (gl x 1)]
theorem cnv_Wheel_ct (x : V) : ct_Wheel (cnv_Wheel x) = ct_Wheel x := by
  simp only [ct_Wheel, show gl (cnv_Wheel x) 1 = (gl x 1).map cnv_Timer from rfl, sumL_map (h := cnv_Timer) cnv_Timer_c (gl x 1)]
theorem c_Wheel_cz (x : V) : c_Wheel x ≤ 2 * (1 + z_Wheel x) := by
  have h0 : sumL c_Timer (gl x 1) ≤ 2 * zS z_Timer (gl x 1) := sumL_mul 2 fun y _ => c_Timer_cz y
  simp only [c_Wheel, z_Wheel]; omega
theorem ct_Wheel_cz (x : V) : ct_Wheel x ≤ 2 * z_Wheel x := by
  have h0 : sumL c_Timer (gl x 1) ≤ 2 * zS z_Timer (gl x 1) := sumL_mul 2 fun y _ => c_Timer_cz y
  simp only [ct_Wheel, z_Wheel]; omega
def W_Item (x : V) : Prop := I64 (gi x 0) ∧ I64 (gi x 1) ∧ I64 (gi x 2) ∧ I64 (gi x 3) ∧ LW W_byte (gl x 4) ∧ LW W_byte (gl x 5) ∧ I64 (gi x 6)
def z_Item (x : V) : Nat := zS z0 (gl x 4) + zS z0 (gl x 5)
def c_Item (x : V) : Nat := 1 + 1 + 1 + 1 + sumL c1 (gl x 4) + sumL c1 (gl x 5) + 1
def ct_Item (x : V) : Nat := sumL c1 (gl x 4) + sumL c1 (gl x 5)
def M_Item (x : V) (k : Int) : Prop := gi x 0 = k ∧ gi x 1 = k + 1 ∧ gi x 2 = k + 1 + 1 ∧ gi x 3 = k + 1 + 1 + 1 ∧ MS c1 M_byte (gl x 4) (k + 1 + 1 + 1 + 1) ∧ MS c1 M_byte (gl x 5) (k + 1 + 1 + 1 + 1 + ((sumL c1 (gl x 4) : Nat) : Int)) ∧ gi x 6 = k + 1 + 1 + 1 + 1 + ((sumL c1 (gl x 4) : Nat) : Int) + ((sumL c1 (gl x 5) : Nat) : Int)
def cnv_Item (x : V) : V := V.agg [(V.int .i64 (gi x 0)), (V.int .i64 (gi x 1)), (V.int .i64 (gi x 2)), (V.int .i64 (gi x 3)), V.inl t_byte ((gl x 4).map cnv_byte), V.inl t_byte ((gl x 5).map cnv_byte), (V.int .i64 (gi x 6))]
theorem cnv_Item_W (x : V) (h : W_Item x) : W_Item (cnv_Item x) := ⟨h.1, h.2.1, h.2.2.1, h.2.2.2.1, LW.map (h := cnv_byte) cnv_byte_W (h.2.2.2.2.1), LW.map (h := cnv_byte) cnv_byte_W (h.2.2.2.2.2.1), h.2.2.2.2.2.2⟩
theorem cnv_Item_z (x : V) : z_Item (cnv_Item x) = z_Item x := by
  simp only [z_Item, show gl (cnv_Item x) 4 = (gl x 4).map cnv_byte from rfl, show gl (cnv_Item x) 5 = (gl x 5).map cnv_byte from rfl, zS_map (h := cnv_byte) cnv_byte_z (gl x 4), zS_map (h := cnv_byte) cnv_byte_z (gl x 5)]
theorem cnv_Item_c (x : V) : c_Item (cnv_Item x) = c_Item x := by
  simp only [c_Item, show gl (cnv_Item x) 4 = (gl x 4).map cnv_byte from rfl, show gl (cnv_Item x) 5 = (gl x 5).map cnv_byte from rfl, sumL_map (h := cnv_byte) cnv_byte_c (gl x 4), sumL_map (h := cnv_byte) cnv_byte_c (gl x 5)]
theorem cnv_Item_ct (x : V) : ct_Item (cnv_Item x) = ct_Item x := by
  simp only [ct_Item, show gl (cnv_Item x) 4 = (gl x 4).map cnv_byte from rfl, show gl (cnv_Item x) 5 = (gl x 5).map cnv_byte from rfl, sumL_map (h := cnv_byte) cnv_byte_c (gl x 4), sumL_map (h := cnv_byte) cnv_byte_c (gl x 5)]
theorem c_Item_cz (x : V) : c_Item x ≤ 5 * (1 + z_Item x) := by
  have h0 : sumL c1 (gl x 4) ≤ 1 * zS z0 (gl x 4) := by rw [sumL_c1, zS_z0]; omega
  have h1 : sumL c1 (gl x 5) ≤ 1 * zS z0 (gl x 5) := by rw [sumL_c1, zS_z0]; omega
  simp only [c_Item, z_Item]; omega
theorem ct_Item_cz (x : V) : ct_Item x ≤ 5 * z_Item x := by
  have h0 : sumL c1 (gl x 4) ≤ 1 * zS z0 (gl x 4) := by rw [sumL_c1, zS_z0]; omega
  have h1 : sumL c1 (gl x 5) ≤ 1 * zS z0 (gl x 5) := by rw [sumL_c1, zS_z0]; omega
  simp only [ct_Item, z_Item]; omega
def W_Node (x : V) : Prop := I64 (gi x 0) ∧ I64 (gi x 1) ∧ I64 (gi x 2) ∧ LW W_Item (gl x 3) ∧ I64 (gi x 4) ∧ I64 (gi x 5) ∧ I64 (gi x 6) ∧ I64 (gi x 7) ∧ LW W_bool (gl x 8) ∧ LW W_int (gl x 9) ∧ LW W_int (gl x 10)
def z_Node (x : V) : Nat := zS z_Item (gl x 3) + zS z0 (gl x 8) + zS z0 (gl x 9) + zS z0 (gl x 10)
def c_Node (x : V) : Nat := 1 + 1 + 1 + sumL c_Item (gl x 3) + 1 + 1 + 1 + 1 + sumL c1 (gl x 8) + sumL c1 (gl x 9) + sumL c1 (gl x 10)
def ct_Node (x : V) : Nat := sumL c_Item (gl x 3) + sumL c1 (gl x 8) + sumL c1 (gl x 9) + sumL c1 (gl x 10)
def M_Node (x : V) (k : Int) : Prop := gi x 0 = k ∧ gi x 1 = k + 1 ∧ gi x 2 = k + 1 + 1 ∧ MS c_Item M_Item (gl x 3) (k + 1 + 1 + 1) ∧ gi x 4 = k + 1 + 1 + 1 + ((sumL c_Item (gl x 3) : Nat) : Int) ∧ gi x 5 = k + 1 + 1 + 1 + ((sumL c_Item (gl x 3) : Nat) : Int) + 1 ∧ gi x 6 = k + 1 + 1 + 1 + ((sumL c_Item (gl x 3) : Nat) : Int) + 1 + 1 ∧ gi x 7 = k + 1 + 1 + 1 + ((sumL c_Item (gl x 3) : Nat) : Int) + 1 + 1 + 1 ∧ MS c1 M_bool (gl x 8) (k + 1 + 1 + 1 + ((sumL c_Item (gl x 3) : Nat) : Int) + 1 + 1 + 1 + 1) ∧ MS c1 M_int (gl x 9) (k + 1 + 1 + 1 + ((sumL c_Item (gl x 3) : Nat) : Int) + 1 + 1 + 1 + 1 + ((sumL c1 (gl x 8) : Nat) : Int)) ∧ MS c1 M_int (gl x 10) (k + 1 + 1 + 1 + ((sumL c_Item (gl x 3) : Nat) : Int) + 1 + 1 + 1 + 1 + ((sumL c1 (gl x 8) : Nat) : Int) + ((sumL c1 (gl x 9) : Nat) : Int))
def cnv_Node (x : V) : V := V.agg [(V.int .i64 (gi x 0)), (V.int .i64 (gi x 1)), (V.int .i64 (gi x 2)), V.inl t_impl_Item ((gl x 3).map cnv_Item), (V.int .i64 (gi x 4)), (V.int .i64 (gi x 5)), (V.int .i64 (gi x 6)), (V.int .i64 (gi x 7)), V.inl t_bool ((gl x 8).map cnv_bool), V.inl t_int' ((gl x 9).map cnv_int), V.inl t_int' ((gl x 10).map cnv_int)]
theorem cnv_Node_W (x : V) (h : W_Node x) : W_Node (cnv_Node x) := ⟨h.1, h.2.1, h.2.2.1, LW.map (h := cnv_Item) cnv_Item_W (h.2.2.2.1), h.2.2.2.2.1, h.2.2.2.2.2.1, h.2.2.2.2.2.2.1, h.2.2.2.2.2.2.2.1, LW.map (h := cnv_bool) cnv_bool_W (h.2.2.2.2.2.2.2.2.1), LW.map (h := cnv_int) cnv_int_W (h.2.2.2.2.2.2.2.2.2.1), LW.map (h := cnv_int) cnv_int_W (h.2.2.2.2.2.2.2.2.2.2)⟩
theorem cnv_Node_z (x : V) : z_Node (cnv_Node x) = z_Node x := by
  simp only [z_Node, show gl (cnv_Node x) 3 = (gl x 3).map cnv_Item from rfl, show gl (cnv_Node x) 8 = (gl x 8).map cnv_bool from rfl, show gl (cnv_Node x) 9 = (gl x 9).map cnv_int from rfl, show gl (cnv_Node x) 10 = (gl x 10).map cnv_int from rfl, zS_map (h := cnv_Item) cnv_Item_z (gl x 3), zS_map (h := cnv_bool) cnv_bool_z (gl x 8), zS_map (h := cnv_int) cnv_int_z (gl x 9), zS_map (h := cnv_int) cnv_int_z (gl x 10)]
theorem cnv_Node_c (x : V) : c_Node (cnv_Node x) = c_Node x := by
  simp only [c_Node, show gl (cnv_Node x) 3 = (gl x 3).map cnv_Item from rfl, show gl (cnv_Node x) 8 = (gl x 8).map cnv_bool from rfl, show gl (cnv_Node x) 9 = (gl x 9).map cnv_int from rfl, show gl (cnv_Node x) 10 = (gl x 10).map cnv_int from rfl, sumL_map (h := cnv_Item) cnv_Item_c (gl x 3), sumL_map (h := cnv_bool) cnv_bool_c (gl x 8), sumL_map (h := cnv_int) cnv_int_c (gl x 9), sumL_map (h := cnv_int) cnv_int_c (gl x 10)]
theorem cnv_Node_ct (x : V) : ct_Node (cnv_Node x) = ct_Node x := by
  simp only [ct_Node, show gl (cnv_Node x) 3 = (gl x 3).map cnv_Item from rfl, show gl (cnv_Node x) 8 = (gl x 8).map cnv_bool from rfl, show gl (cnv_Node x) 9 = (gl x 9).map cnv_int from rfl, show gl (cnv_Node x) 10 = (gl x 10).map cnv_int from rfl, sumL_map (h := cnv_Item) cnv_Item_c (gl x 3), sumL_map (h := cnv_bool) cnv_bool_c (gl x 8), sumL_map (h := cnv_int) cnv_int_c (gl x 9), sumL_map (h := cnv_int) cnv_int_c (gl x 10)]
theorem c_Node_cz (x : V) : c_Node x ≤ 7 * (1 + z_Node x) := by
  have h0 : sumL c_Item (gl x 3) ≤ 5 * zS z_Item (gl x 3) := sumL_mul 5 fun y _ => c_Item_cz y
  have h1 : sumL c1 (gl x 8) ≤ 1 * zS z0 (gl x 8) := by rw [sumL_c1, zS_z0]; omega
  have h2 : sumL c1 (gl x 9) ≤ 1 * zS z0 (gl x 9) := by rw [sumL_c1, zS_z0]; omega
  have h3 : sumL c1 (gl x 10) ≤ 1 * zS z0 (gl x 10) := by rw [sumL_c1, zS_z0]; omega
  simp only [c_Node, z_Node]; omega
theorem ct_Node_cz (x : V) : ct_Node x ≤ 7 * z_Node x := by
  have h0 : sumL c_Item (gl x 3) ≤ 5 * zS z_Item (gl x 3) := sumL_mul 5 fun y _ => c_Item_cz y
  have h1 : sumL c1 (gl x 8) ≤ 1 * zS z0 (gl x 8) := by rw [sumL_c1, zS_z0]; omega
  have h2 : sumL c1 (gl x 9) ≤ 1 * zS z0 (gl x 9) := by rw [sumL_c1, zS_z0]; omega
  have h3 : sumL c1 (gl x 10) ≤ 1 * zS z0 (gl x 10) := by rw [sumL_c1, zS_z0]; omega
  simp only [ct_Node, z_Node]; omega
def W_Msg (x : V) : Prop := I64 (gi x 0) ∧ I64 (gi x 1) ∧ I64 (gi x 2) ∧ I64 (gi x 3) ∧ I64 (gi x 4) ∧ I64 (gi x 5) ∧ LW W_Item (gl x 6) ∧ I64 (gi x 7) ∧ True
def z_Msg (x : V) : Nat := zS z_Item (gl x 6)
def c_Msg (x : V) : Nat := 1 + 1 + 1 + 1 + 1 + 1 + sumL c_Item (gl x 6) + 1 + 1
def ct_Msg (x : V) : Nat := sumL c_Item (gl x 6)
def M_Msg (x : V) (k : Int) : Prop := gi x 0 = k ∧ gi x 1 = k + 1 ∧ gi x 2 = k + 1 + 1 ∧ gi x 3 = k + 1 + 1 + 1 ∧ gi x 4 = k + 1 + 1 + 1 + 1 ∧ gi x 5 = k + 1 + 1 + 1 + 1 + 1 ∧ MS c_Item M_Item (gl x 6) (k + 1 + 1 + 1 + 1 + 1 + 1) ∧ gi x 7 = k + 1 + 1 + 1 + 1 + 1 + 1 + ((sumL c_Item (gl x 6) : Nat) : Int) ∧ gb x 8 = decide ((k + 1 + 1 + 1 + 1 + 1 + 1 + ((sumL c_Item (gl x 6) : Nat) : Int) + 1).tmod 3 = 0)
def cnv_Msg (x : V) : V := V.agg [(V.int .i64 (gi x 0)), (V.int .i64 (gi x 1)), (V.int .i64 (gi x 2)), (V.int .i64 (gi x 3)), (V.int .i64 (gi x 4)), (V.int .i64 (gi x 5)), V.inl t_impl_Item ((gl x 6).map cnv_Item), (V.int .i64 (gi x 7)), (V.bool (gb x 8))]
theorem cnv_Msg_W (x : V) (h : W_Msg x) : W_Msg (cnv_Msg x) := ⟨h.1, h.2.1, h.2.2.1, h.2.2.2.1, h.2.2.2.2.1, h.2.2.2.2.2.1, LW.map (h := cnv_Item) cnv_Item_W (h.2.2.2.2.2.2.1), h.2.2.2.2.2.2.2.1, h.2.2.2.2.2.2.2.2⟩
theorem cnv_Msg_z (x : V) : z_Msg (cnv_Msg x) = z_Msg x := by
  simp only [z_Msg, show gl (cnv_Msg x) 6 = (gl x 6).map cnv_Item from rfl, zS_map (h := cnv_Item) cnv_Item_z (gl x 6)]
theorem cnv_Msg_c (x : V) : c_Msg (cnv_Msg x) = c_Msg x := by
  simp only [c_Msg, show gl (cnv_Msg x) 6 = (gl x 6).map cnv_Item from rfl, sumL_map (h := cnv_Item) cnv_Item_c (gl x 6)]
theorem cnv_Msg_ct (x : V) : ct_Msg (cnv_Msg x) = ct_Msg x := by
  simp only [ct_Msg, show gl (cnv_Msg x) 6 = (gl x 6).map cnv_Item from rfl, sumL_map (h := cnv_Item) cnv_Item_c (gl x 6)]
theorem c_Msg_cz (x : V) : c_Msg x ≤ 8 * (1 + z_Msg x) := by
  have h0 : sumL c_Item (gl x 6) ≤ 5 * zS z_Item (gl x 6) := sumL_mul 5 fun y _ => c_Item_cz y
  simp only [c_Msg, z_Msg]; omega
theorem ct_Msg_cz (x : V) : ct_Msg x ≤ 8 * z_Msg x := by
  have h0 : sumL c_Item (gl x 6) ≤ 5 * zS z_Item (gl x 6) := sumL_mul 5 fun y _ => c_Item_cz y
  simp only [ct_Msg, z_Msg]; omega
def W_Op (x : V) : Prop := I64 (gi x 0) ∧ LW W_byte (gl x 1) ∧ LW W_byte (gl x 2) ∧ I64 (gi x 3)
def z_Op (x : V) : Nat := zS z0 (gl x 1) + zS z0 (gl x 2)
def c_Op (x : V) : Nat := 1 + sumL c1 (gl x 1) + sumL c1 (gl x 2) + 1
def ct_Op (x : V) : Nat := sumL c1 (gl x 1) + sumL c1 (gl x 2)
def M_Op (x : V) (k : Int) : Prop := gi x 0 = k ∧ MS c1 M_byte (gl x 1) (k + 1) ∧ MS c1 M_byte (gl x 2) (k + 1 + ((sumL c1 (gl x 1) : Nat) : Int)) ∧ gi x 3 = k + 1 + ((sumL c1 (gl x 1) : Nat) : Int) + ((sumL c1 (gl x 2) : Nat) : Int)
def cnv_Op (x : V) : V := V.agg [(V.int .i64 (gi x 0)), V.inl t_byte ((gl x 1).map cnv_byte), V.inl t_byte ((gl x 2).map cnv_byte), (V.int .i64 (gi x 3))]
theorem cnv_Op_W (x : V) (h : W_Op x) : W_Op (cnv_Op x) := ⟨h.1, LW.map (h := cnv_byte) cnv_byte_W (h.2.1), LW.map (h := cnv_byte) cnv_byte_W (h.2.2.1), h.2.2.2⟩
theorem cnv_Op_z (x : V) : z_Op (cnv_Op x) = z_Op x := by
  simp only [z_Op, show gl (cnv_Op x) 1 = (gl x 1).map cnv_byte from rfl, show gl (cnv_Op x) 2 = (gl x 2).map cnv_byte from rfl, zS_map (h := cnv_byte) cnv_byte_z (gl x 1), zS_map (h := cnv_byte) cnv_byte_z (gl x 2)]
theorem cnv_Op_c (x : V) : c_Op (cnv_Op x) = c_Op x := by
  simp only [c_Op, show gl (cnv_Op x) 1 = (gl x 1).map cnv_byte from rfl, show gl (cnv_Op x) 2 = (gl x 2).map cnv_byte from rfl, sumL_map (h := cnv_byte) cnv_byte_c (gl x 1), sumL_map (h := cnv_byte) cnv_byte_c (gl x 2)]
theorem cnv_Op_ct (x : V) : ct_Op (cnv_Op x) = ct_Op x := by
  simp only [ct_Op, show gl (cnv_Op x) 1 = (gl x 1).map cnv_byte from rfl, show gl (cnv_Op x) 2 = (gl x 2).map cnv_byte from rfl, sumL_map (h := cnv_byte) cnv_byte_c (gl x 1), sumL_map (h := cnv_byte) cnv_byte_c (gl x 2)]
theorem c_Op_cz (x : V) : c_Op x ≤ 2 * (1 + z_Op x) := by
  have h0 : sumL c1 (gl x 1) ≤ 1 * zS z0 (gl x 1) := by rw [sumL_c1, zS_z0]; omega
  have h1 : sumL c1 (gl x 2) ≤ 1 * zS z0 (gl x 2) := by rw [sumL_c1, zS_z0]; omega
  simp only [c_Op, z_Op]; omega
theorem ct_Op_cz (x : V) : ct_Op x ≤ 2 * z_Op x := by
  have h0 : sumL c1 (gl x 1) ≤ 1 * zS z0 (gl x 1) := by rw [sumL_c1, zS_z0]; omega
  have h1 : sumL c1 (gl x 2) ≤ 1 * zS z0 (gl x 2) := by rw [sumL_c1, zS_z0]; omega
  simp only [ct_Op, z_Op]; omega
def W_Cmd (x : V) : Prop := I64 (gi x 0) ∧ I64 (gi x 1) ∧ I64 (gi x 2) ∧ LW W_byte (gl x 3) ∧ LW W_byte (gl x 4) ∧ I64 (gi x 5)
def z_Cmd (x : V) : Nat := zS z0 (gl x 3) + zS z0 (gl x 4)
def c_Cmd (x : V) : Nat := 1 + 1 + 1 + sumL c1 (gl x 3) + sumL c1 (gl x 4) + 1
def ct_Cmd (x : V) : Nat := sumL c1 (gl x 3) + sumL c1 (gl x 4)
def M_Cmd (x : V) (k : Int) : Prop := gi x 0 = k ∧ gi x 1 = k + 1 ∧ gi x 2 = k + 1 + 1 ∧ MS c1 M_byte (gl x 3) (k + 1 + 1 + 1) ∧ MS c1 M_byte (gl x 4) (k + 1 + 1 + 1 + ((sumL c1 (gl x 3) : Nat) : Int)) ∧ gi x 5 = k + 1 + 1 + 1 + ((sumL c1 (gl x 3) : Nat) : Int) + ((sumL c1 (gl x 4) : Nat) : Int)
def cnv_Cmd (x : V) : V := V.agg [(V.int .i64 (gi x 0)), (V.int .i64 (gi x 1)), (V.int .i64 (gi x 2)), V.inl t_byte ((gl x 3).map cnv_byte), V.inl t_byte ((gl x 4).map cnv_byte), (V.int .i64 (gi x 5))]
theorem cnv_Cmd_W (x : V) (h : W_Cmd x) : W_Cmd (cnv_Cmd x) := ⟨h.1, h.2.1, h.2.2.1, LW.map (h := cnv_byte) cnv_byte_W (h.2.2.2.1), LW.map (h := cnv_byte) cnv_byte_W (h.2.2.2.2.1), h.2.2.2.2.2⟩
theorem cnv_Cmd_z (x : V) : z_Cmd (cnv_Cmd x) = z_Cmd x := by
  simp only [z_Cmd, show gl (cnv_Cmd x) 3 = (gl x 3).map cnv_byte from rfl, show gl (cnv_Cmd x) 4 = (gl x 4).map cnv_byte from rfl, zS_map (h := cnv_byte) cnv_byte_z (gl x 3), zS_map (h := cnv_byte) cnv_byte_z (gl x 4)]
theorem cnv_Cmd_c (x : V) : c_Cmd (cnv_Cmd x) = c_Cmd x := by
  simp only [c_Cmd, show gl (cnv_Cmd x) 3 = (gl x 3).map cnv_byte from rfl, show gl (cnv_Cmd x) 4 = (gl x 4).map cnv_byte from rfl, sumL_map (h := cnv_byte) cnv_byte_c (gl x 3), sumL_map (h := cnv_byte) cnv_byte_c (gl x 4)]
theorem cnv_Cmd_ct (x : V) : ct_Cmd (cnv_Cmd x) = ct_Cmd x := by
  simp only [ct_Cmd, show gl (cnv_Cmd x) 3 = (gl x 3).map cnv_byte from rfl, show gl (cnv_Cmd x) 4 = (gl x 4).map cnv_byte from rfl, sumL_map (h := cnv_byte) cnv_byte_c (gl x 3), sumL_map (h := cnv_byte) cnv_byte_c (gl x 4)]
theorem c_Cmd_cz (x : V) : c_Cmd x ≤ 4 * (1 + z_Cmd x) := by
  have h0 : sumL c1 (gl x 3) ≤ 1 * zS z0 (gl x 3) := by rw [sumL_c1, zS_z0]; omega
  have h1 : sumL c1 (gl x 4) ≤ 1 * zS z0 (gl x 4) := by rw [sumL_c1, zS_z0]; omega
  simp only [c_Cmd, z_Cmd]; omega
theorem ct_Cmd_cz (x : V) : ct_Cmd x ≤ 4 * z_Cmd x := by
  have h0 : sumL c1 (gl x 3) ≤ 1 * zS z0 (gl x 3) := by rw [sumL_c1, zS_z0]; omega
  have h1 : sumL c1 (gl x 4) ≤ 1 * zS z0 (gl x 4) := by rw [sumL_c1, zS_z0]; omega
  simp only [ct_Cmd, z_Cmd]; omega
def W_Row (x : V) : Prop := LW W_byte (gl x 0) ∧ LW W_byte (gl x 1) ∧ I64 (gi x 2) ∧ I64 (gi x 3)
def z_Row (x : V) : Nat := zS z0 (gl x 0) + zS z0 (gl x 1)
def c_Row (x : V) : Nat := sumL c1 (gl x 0) + sumL c1 (gl x 1) + 1 + 1
def ct_Row (x : V) : Nat := sumL c1 (gl x 0) + sumL c1 (gl x 1)
def M_Row (x : V) (k : Int) : Prop := MS c1 M_byte (gl x 0) (k) ∧ MS c1 M_byte (gl x 1) (k + ((sumL c1 (gl x 0) : Nat) : Int)) ∧ gi x 2 = k + ((sumL c1 (gl x 0) : Nat) : Int) + ((sumL c1 (gl x 1) : Nat) : Int) ∧ gi x 3 = k + ((sumL c1 (gl x 0) : Nat) : Int) + ((sumL c1 (gl x 1) : Nat) : Int) + 1
def cnv_Row (x : V) : V := V.agg [V.inl t_byte ((gl x 0).map cnv_byte), V.inl t_byte ((gl x 1).map cnv_byte), (V.int .i64 (gi x 2)), (V.int .i64 (gi x 3))]
theorem cnv_Row_W (x : V) (h : W_Row x) : W_Row (cnv_Row x) := ⟨LW.map (h := cnv_byte) cnv_byte_W (h.1), LW.map (h := cnv_byte) cnv_byte_W (h.2.1), h.2.2.1, h.2.2.2⟩
theorem cnv_Row_z (x : V) : z_Row (cnv_Row x) = z_Row x := by
  simp only [z_Row, show gl (cnv_Row x) 0 = (gl x 0).map cnv_byte from rfl, show gl (cnv_Row x) 1 = (gl x 1).map cnv_byte from rfl, zS_map (h := cnv_byte) cnv_byte_z (gl x 0), zS_map (h := cnv_byte) cnv_byte_z (gl x 1)]
theorem cnv_Row_c (x : V) : c_Row (cnv_Row x) = c_Row x := by
  simp only [c_Row, show gl (cnv_Row x) 0 = (gl x 0).map cnv_byte from rfl, show gl (cnv_Row x) 1 = (gl x 1).map cnv_byte from rfl, sumL_map (h := cnv_byte) cnv_byte_c (gl x 0), sumL_map (h := cnv_byte) cnv_byte_c (gl x 1)]
theorem cnv_Row_ct (x : V) : ct_Row (cnv_Row x) = ct_Row x := by
  simp only [ct_Row, show gl (cnv_Row x) 0 = (gl x 0).map cnv_byte from rfl, show gl (cnv_Row x) 1 = (gl x 1).map cnv_byte from rfl, sumL_map (h := cnv_byte) cnv_byte_c (gl x 0), sumL_map (h := cnv_byte) cnv_byte_c (gl x 1)]
theorem c_Row_cz (x : V) : c_Row x ≤ 2 * (1 + z_Row x) := by
  have h0 : sumL c1 (gl x 0) ≤ 1 * zS z0 (gl x 0) := by rw [sumL_c1, zS_z0]; omega
  have h1 : sumL c1 (gl x 1) ≤ 1 * zS z0 (gl x 1) := by rw [sumL_c1, zS_z0]; omega
  simp only [c_Row, z_Row]; omega
theorem ct_Row_cz (x : V) : ct_Row x ≤ 2 * z_Row x := by
  have h0 : sumL c1 (gl x 0) ≤ 1 * zS z0 (gl x 0) := by rw [sumL_c1, zS_z0]; omega
  have h1 : sumL c1 (gl x 1) ≤ 1 * zS z0 (gl x 1) := by rw [sumL_c1, zS_z0]; omega
  simp only [ct_Row, z_Row]; omega
def W_Tomb (x : V) : Prop := LW W_byte (gl x 0) ∧ I64 (gi x 1)
def z_Tomb (x : V) : Nat := zS z0 (gl x 0)
def c_Tomb (x : V) : Nat := sumL c1 (gl x 0) + 1
def ct_Tomb (x : V) : Nat := sumL c1 (gl x 0)
def M_Tomb (x : V) (k : Int) : Prop := MS c1 M_byte (gl x 0) (k) ∧ gi x 1 = k + ((sumL c1 (gl x 0) : Nat) : Int)
def cnv_Tomb (x : V) : V := V.agg [V.inl t_byte ((gl x 0).map cnv_byte), (V.int .i64 (gi x 1))]
theorem cnv_Tomb_W (x : V) (h : W_Tomb x) : W_Tomb (cnv_Tomb x) := ⟨LW.map (h := cnv_byte) cnv_byte_W (h.1), h.2⟩
theorem cnv_Tomb_z (x : V) : z_Tomb (cnv_Tomb x) = z_Tomb x := by
  simp only [z_Tomb, show gl (cnv_Tomb x) 0 = (gl x 0).map cnv_byte from rfl, zS_map (h := cnv_byte) cnv_byte_z (gl x 0)]
theorem cnv_Tomb_c (x : V) : c_Tomb (cnv_Tomb x) = c_Tomb x := by
  simp only [c_Tomb, show gl (cnv_Tomb x) 0 = (gl x 0).map cnv_byte from rfl, sumL_map (h := cnv_byte) cnv_byte_c (gl x 0)]
theorem cnv_Tomb_ct (x : V) : ct_Tomb (cnv_Tomb x) = ct_Tomb x := by
  simp only [ct_Tomb, show gl (cnv_Tomb x) 0 = (gl x 0).map cnv_byte from rfl, sumL_map (h := cnv_byte) cnv_byte_c (gl x 0)]
theorem c_Tomb_cz (x : V) : c_Tomb x ≤ 1 * (1 + z_Tomb x) := by
  have h0 : sumL c1 (gl x 0) ≤ 1 * zS z0 (gl x 0) := by rw [sumL_c1, zS_z0]; omega
  simp only [c_Tomb, z_Tomb]; omega
theorem ct_Tomb_cz (x : V) : ct_Tomb x ≤ 1 * z_Tomb x := by
  have h0 : sumL c1 (gl x 0) ≤ 1 * zS z0 (gl x 0) := by rw [sumL_c1, zS_z0]; omega
  simp only [ct_Tomb, z_Tomb]; omega
def W_Session (x : V) : Prop := I64 (gi x 0) ∧ True
def z_Session (x : V) : Nat := 0
def c_Session (x : V) : Nat := 1 + 1
def ct_Session (x : V) : Nat := 0
def M_Session (x : V) (k : Int) : Prop := gi x 0 = k ∧ gb x 1 = decide ((k + 1).tmod 3 = 0)
def cnv_Session (x : V) : V := V.agg [(V.int .i64 (gi x 0)), (V.bool (gb x 1))]
theorem cnv_Session_W (x : V) (h : W_Session x) : W_Session (cnv_Session x) := ⟨h.1, h.2⟩
theorem cnv_Session_z (x : V) : z_Session (cnv_Session x) = z_Session x := rfl
theorem cnv_Session_c (x : V) : c_Session (cnv_Session x) = c_Session x := rfl
theorem cnv_Session_ct (x : V) : ct_Session (cnv_Session x) = ct_Session x := rfl
theorem c_Session_cz (x : V) : c_Session x ≤ 2 * (1 + z_Session x) := by
  simp only [c_Session, z_Session]; omega
theorem ct_Session_cz (x : V) : ct_Session x ≤ 2 * z_Session x := by
  simp only [ct_Session, z_Session]; omega
def W_Last (x : V) : Prop := I64 (gi x 0) ∧ I64 (gi x 1) ∧ I64 (gi x 2) ∧ I64 (gi x 3)
def z_Last (x : V) : Nat := 0
def c_Last (x : V) : Nat := 1 + 1 + 1 + 1
def ct_Last (x : V) : Nat := 0
def M_Last (x : V) (k : Int) : Prop := gi x 0 = k ∧ gi x 1 = k + 1 ∧ gi x 2 = k + 1 + 1 ∧ gi x 3 = k + 1 + 1 + 1
def cnv_Last (x : V) : V := V.agg [(V.int .i64 (gi x 0)), (V.int .i64 (gi x 1)), (V.int .i64 (gi x 2)), (V.int .i64 (gi x 3))]
theorem cnv_Last_W (x : V) (h : W_Last x) : W_Last (cnv_Last x) := ⟨h.1, h.2.1, h.2.2.1, h.2.2.2⟩
theorem cnv_Last_z (x : V) : z_Last (cnv_Last x) = z_Last x := rfl
theorem cnv_Last_c (x : V) : c_Last (cnv_Last x) = c_Last x := rfl
theorem cnv_Last_ct (x : V) : ct_Last (cnv_Last x) = ct_Last x := rfl
theorem c_Last_cz (x : V) : c_Last x ≤ 4 * (1 + z_Last x) := by
  simp only [c_Last, z_Last]; omega
theorem ct_Last_cz (x : V) : ct_Last x ≤ 4 * z_Last x := by
  simp only [ct_Last, z_Last]; omega
def W_State (x : V) : Prop := I64 (gi x 0) ∧ LW W_Row (gl x 1) ∧ LW W_Tomb (gl x 2) ∧ I64 (gi x 3) ∧ LW W_Session (gl x 4) ∧ LW W_Last (gl x 5)
def z_State (x : V) : Nat := zS z_Row (gl x 1) + zS z_Tomb (gl x 2) + zS z_Session (gl x 4) + zS z_Last (gl x 5)
def c_State (x : V) : Nat := 1 + sumL c_Row (gl x 1) + sumL c_Tomb (gl x 2) + 1 + sumL c_Session (gl x 4) + sumL c_Last (gl x 5)
def ct_State (x : V) : Nat := sumL c_Row (gl x 1) + sumL c_Tomb (gl x 2) + sumL c_Session (gl x 4) + sumL c_Last (gl x 5)
def M_State (x : V) (k : Int) : Prop := gi x 0 = k ∧ MS c_Row M_Row (gl x 1) (k + 1) ∧ MS c_Tomb M_Tomb (gl x 2) (k + 1 + ((sumL c_Row (gl x 1) : Nat) : Int)) ∧ gi x 3 = k + 1 + ((sumL c_Row (gl x 1) : Nat) : Int) + ((sumL c_Tomb (gl x 2) : Nat) : Int) ∧ MS c_Session M_Session (gl x 4) (k + 1 + ((sumL c_Row (gl x 1) : Nat) : Int) + ((sumL c_Tomb (gl x 2) : Nat) : Int) + 1) ∧ MS c_Last M_Last (gl x 5) (k + 1 + ((sumL c_Row (gl x 1) : Nat) : Int) + ((sumL c_Tomb (gl x 2) : Nat) : Int) + 1 + ((sumL c_Session (gl x 4) : Nat) : Int))
def cnv_State (x : V) : V := V.agg [(V.int .i64 (gi x 0)), V.inl t_impl_Row ((gl x 1).map cnv_Row), V.inl t_impl_Tomb ((gl x 2).map cnv_Tomb), (V.int .i64 (gi x 3)), V.inl t_impl_Session ((gl x 4).map cnv_Session), V.inl t_impl_Last ((gl x 5).map cnv_Last)]
theorem cnv_State_W (x : V) (h : W_State x) : W_State (cnv_State x) := ⟨h.1, LW.map (h := cnv_Row) cnv_Row_W (h.2.1), LW.map (h := cnv_Tomb) cnv_Tomb_W (h.2.2.1), h.2.2.2.1, LW.map (h := cnv_Session) cnv_Session_W (h.2.2.2.2.1), LW.map (h := cnv_Last) cnv_Last_W (h.2.2.2.2.2)⟩
theorem cnv_State_z (x : V) : z_State (cnv_State x) = z_State x := by
  simp only [z_State, show gl (cnv_State x) 1 = (gl x 1).map cnv_Row from rfl, show gl (cnv_State x) 2 = (gl x 2).map cnv_Tomb from rfl, show gl (cnv_State x) 4 = (gl x 4).map cnv_Session from rfl, show gl (cnv_State x) 5 = (gl x 5).map cnv_Last from rfl, zS_map (h := cnv_Row) cnv_Row_z (gl x 1), zS_map (h := cnv_Tomb) cnv_Tomb_z (gl x 2), zS_map (h := cnv_Session) cnv_Session_z (gl x 4), zS_map (h := cnv_Last) cnv_Last_z (gl x 5)]
theorem cnv_State_c (x : V) : c_State (cnv_State x) = c_State x := by
  simp only [c_State, show gl (cnv_State x) 1 = (gl x 1).map cnv_Row from rfl, show gl (cnv_State x) 2 = (gl x 2).map cnv_Tomb from rfl, show gl (cnv_State x) 4 = (gl x 4).map cnv_Session from rfl, show gl (cnv_State x) 5 = (gl x 5).map cnv_Last from rfl, sumL_map (h := cnv_Row) cnv_Row_c (gl x 1), sumL_map (h := cnv_Tomb) cnv_Tomb_c (gl x 2), sumL_map (h := cnv_Session) cnv_Session_c (gl x 4), sumL_map (h := cnv_Last) cnv_Last_c (gl x 5)]
theorem cnv_State_ct (x : V) : ct_State (cnv_State x) = ct_State x := by
  simp only [ct_State, show gl (cnv_State x) 1 = (gl x 1).map cnv_Row from rfl, show gl (cnv_State x) 2 = (gl x 2).map cnv_Tomb from rfl, show gl (cnv_State x) 4 = (gl x 4).map cnv_Session from rfl, show gl (cnv_State x) 5 = (gl x 5).map cnv_Last from rfl, sumL_map (h := cnv_Row) cnv_Row_c (gl x 1), sumL_map (h := cnv_Tomb) cnv_Tomb_c (gl x 2), sumL_map (h := cnv_Session) cnv_Session_c (gl x 4), sumL_map (h := cnv_Last) cnv_Last_c (gl x 5)]
theorem c_State_cz (x : V) : c_State x ≤ 4 * (1 + z_State x) := by
  have h0 : sumL c_Row (gl x 1) ≤ 2 * zS z_Row (gl x 1) := sumL_mul 2 fun y _ => c_Row_cz y
  have h1 : sumL c_Tomb (gl x 2) ≤ 1 * zS z_Tomb (gl x 2) := sumL_mul 1 fun y _ => c_Tomb_cz y
  have h2 : sumL c_Session (gl x 4) ≤ 2 * zS z_Session (gl x 4) := sumL_mul 2 fun y _ => c_Session_cz y
  have h3 : sumL c_Last (gl x 5) ≤ 4 * zS z_Last (gl x 5) := sumL_mul 4 fun y _ => c_Last_cz y
  simp only [c_State, z_State]; omega
theorem ct_State_cz (x : V) : ct_State x ≤ 4 * z_State x := by
  have h0 : sumL c_Row (gl x 1) ≤ 2 * zS z_Row (gl x 1) := sumL_mul 2 fun y _ => c_Row_cz y
  have h1 : sumL c_Tomb (gl x 2) ≤ 1 * zS z_Tomb (gl x 2) := sumL_mul 1 fun y _ => c_Tomb_cz y
  have h2 : sumL c_Session (gl x 4) ≤ 2 * zS z_Session (gl x 4) := sumL_mul 2 fun y _ => c_Session_cz y
  have h3 : sumL c_Last (gl x 5) ≤ 4 * zS z_Last (gl x 5) := sumL_mul 4 fun y _ => c_Last_cz y
  simp only [ct_State, z_State]; omega
def W_entry (x : V) : Prop := LW W_byte (gl x 0) ∧ I64 (gi x 1)
def z_entry (x : V) : Nat := zS z0 (gl x 0)
def c_entry (x : V) : Nat := sumL c1 (gl x 0) + 1
def ct_entry (x : V) : Nat := sumL c1 (gl x 0)
def M_entry (x : V) (k : Int) : Prop := MS c1 M_byte (gl x 0) (k) ∧ gi x 1 = k + ((sumL c1 (gl x 0) : Nat) : Int)
def cnv_entry (x : V) : V := V.agg [V.inl t_byte ((gl x 0).map cnv_byte), (V.int .i64 (gi x 1))]
theorem cnv_entry_W (x : V) (h : W_entry x) : W_entry (cnv_entry x) := ⟨LW.map (h := cnv_byte) cnv_byte_W (h.1), h.2⟩
theorem cnv_entry_z (x : V) : z_entry (cnv_entry x) = z_entry x := by
  simp only [z_entry, show gl (cnv_entry x) 0 = (gl x 0).map cnv_byte from rfl, zS_map (h := cnv_byte) cnv_byte_z (gl x 0)]
theorem cnv_entry_c (x : V) : c_entry (cnv_entry x) = c_entry x := by
  simp only [c_entry, show gl (cnv_entry x) 0 = (gl x 0).map cnv_byte from rfl, sumL_map (h := cnv_byte) cnv_byte_c (gl x 0)]
theorem cnv_entry_ct (x : V) : ct_entry (cnv_entry x) = ct_entry x := by
  simp only [ct_entry, show gl (cnv_entry x) 0 = (gl x 0).map cnv_byte from rfl, sumL_map (h := cnv_byte) cnv_byte_c (gl x 0)]
theorem c_entry_cz (x : V) : c_entry x ≤ 1 * (1 + z_entry x) := by
  have h0 : sumL c1 (gl x 0) ≤ 1 * zS z0 (gl x 0) := by rw [sumL_c1, zS_z0]; omega
  simp only [c_entry, z_entry]; omega
theorem ct_entry_cz (x : V) : ct_entry x ≤ 1 * z_entry x := by
  have h0 : sumL c1 (gl x 0) ≤ 1 * zS z0 (gl x 0) := by rw [sumL_c1, zS_z0]; omega
  simp only [ct_entry, z_entry]; omega
def W_server (x : V) : Prop := I64 (gi x 0) ∧ I64 (gi x 1) ∧ I64 (gi x 2) ∧ LW W_Item (gl x 3) ∧ I64 (gi x 4) ∧ I64 (gi x 5) ∧ I64 (gi x 6) ∧ I64 (gi x 7) ∧ LW W_bool (gl x 8) ∧ LW W_int (gl x 9) ∧ LW W_int (gl x 10) ∧ LW W_Msg (gl x 11)
def z_server (x : V) : Nat := zS z_Item (gl x 3) + zS z0 (gl x 8) + zS z0 (gl x 9) + zS z0 (gl x 10) + zS z_Msg (gl x 11)
def c_server (x : V) : Nat := 1 + 1 + 1 + sumL c_Item (gl x 3) + 1 + 1 + 1 + 1 + sumL c1 (gl x 8) + sumL c1 (gl x 9) + sumL c1 (gl x 10) + sumL c_Msg (gl x 11)
def ct_server (x : V) : Nat := sumL c_Item (gl x 3) + sumL c1 (gl x 8) + sumL c1 (gl x 9) + sumL c1 (gl x 10) + sumL c_Msg (gl x 11)
def M_server (x : V) (k : Int) : Prop := gi x 0 = k ∧ gi x 1 = k + 1 ∧ gi x 2 = k + 1 + 1 ∧ MS c_Item M_Item (gl x 3) (k + 1 + 1 + 1) ∧ gi x 4 = k + 1 + 1 + 1 + ((sumL c_Item (gl x 3) : Nat) : Int) ∧ gi x 5 = k + 1 + 1 + 1 + ((sumL c_Item (gl x 3) : Nat) : Int) + 1 ∧ gi x 6 = k + 1 + 1 + 1 + ((sumL c_Item (gl x 3) : Nat) : Int) + 1 + 1 ∧ gi x 7 = k + 1 + 1 + 1 + ((sumL c_Item (gl x 3) : Nat) : Int) + 1 + 1 + 1 ∧ MS c1 M_bool (gl x 8) (k + 1 + 1 + 1 + ((sumL c_Item (gl x 3) : Nat) : Int) + 1 + 1 + 1 + 1) ∧ MS c1 M_int (gl x 9) (k + 1 + 1 + 1 + ((sumL c_Item (gl x 3) : Nat) : Int) + 1 + 1 + 1 + 1 + ((sumL c1 (gl x 8) : Nat) : Int)) ∧ MS c1 M_int (gl x 10) (k + 1 + 1 + 1 + ((sumL c_Item (gl x 3) : Nat) : Int) + 1 + 1 + 1 + 1 + ((sumL c1 (gl x 8) : Nat) : Int) + ((sumL c1 (gl x 9) : Nat) : Int)) ∧ MS c_Msg M_Msg (gl x 11) (k + 1 + 1 + 1 + ((sumL c_Item (gl x 3) : Nat) : Int) + 1 + 1 + 1 + 1 + ((sumL c1 (gl x 8) : Nat) : Int) + ((sumL c1 (gl x 9) : Nat) : Int) + ((sumL c1 (gl x 10) : Nat) : Int))
def cnv_server (x : V) : V := V.agg [(V.int .i64 (gi x 0)), (V.int .i64 (gi x 1)), (V.int .i64 (gi x 2)), V.inl t_impl_Item ((gl x 3).map cnv_Item), (V.int .i64 (gi x 4)), (V.int .i64 (gi x 5)), (V.int .i64 (gi x 6)), (V.int .i64 (gi x 7)), V.inl t_bool ((gl x 8).map cnv_bool), V.inl t_int' ((gl x 9).map cnv_int), V.inl t_int' ((gl x 10).map cnv_int), V.inl t_impl_Msg ((gl x 11).map cnv_Msg)]
theorem cnv_server_W (x : V) (h : W_server x) : W_server (cnv_server x) := ⟨h.1, h.2.1, h.2.2.1, LW.map (h := cnv_Item) cnv_Item_W (h.2.2.2.1), h.2.2.2.2.1, h.2.2.2.2.2.1, h.2.2.2.2.2.2.1, h.2.2.2.2.2.2.2.1, LW.map (h := cnv_bool) cnv_bool_W (h.2.2.2.2.2.2.2.2.1), LW.map (h := cnv_int) cnv_int_W (h.2.2.2.2.2.2.2.2.2.1), LW.map (h := cnv_int) cnv_int_W (h.2.2.2.2.2.2.2.2.2.2.1), LW.map (h := cnv_Msg) cnv_Msg_W (h.2.2.2.2.2.2.2.2.2.2.2)⟩
theorem cnv_server_z (x : V) : z_server (cnv_server x) = z_server x := by
  simp only [z_server, show gl (cnv_server x) 3 = (gl x 3).map cnv_Item from rfl, show gl (cnv_server x) 8 = (gl x 8).map cnv_bool from rfl, show gl (cnv_server x) 9 = (gl x 9).map cnv_int from rfl, show gl (cnv_server x) 10 = (gl x 10).map cnv_int from rfl, show gl (cnv_server x) 11 = (gl x 11).map cnv_Msg from rfl, zS_map (h := cnv_Item) cnv_Item_z (gl x 3), zS_map (h := cnv_bool) cnv_bool_z (gl x 8), zS_map (h := cnv_int) cnv_int_z (gl x 9), zS_map (h := cnv_int) cnv_int_z (gl x 10), zS_map (h := cnv_Msg) cnv_Msg_z (gl x 11)]
theorem cnv_server_c (x : V) : c_server (cnv_server x) = c_server x := by
  simp only [c_server, show gl (cnv_server x) 3 = (gl x 3).map cnv_Item from rfl, show gl (cnv_server x) 8 = (gl x 8).map cnv_bool from rfl, show gl (cnv_server x) 9 = (gl x 9).map cnv_int from rfl, show gl (cnv_server x) 10 = (gl x 10).map cnv_int from rfl, show gl (cnv_server x) 11 = (gl x 11).map cnv_Msg from rfl, sumL_map (h := cnv_Item) cnv_Item_c (gl x 3), sumL_map (h := cnv_bool) cnv_bool_c (gl x 8), sumL_map (h := cnv_int) cnv_int_c (gl x 9), sumL_map (h := cnv_int) cnv_int_c (gl x 10), sumL_map (h := cnv_Msg) cnv_Msg_c (gl x 11)]
theorem cnv_server_ct (x : V) : ct_server (cnv_server x) = ct_server x := by
  simp only [ct_server, show gl (cnv_server x) 3 = (gl x 3).map cnv_Item from rfl, show gl (cnv_server x) 8 = (gl x 8).map cnv_bool from rfl, show gl (cnv_server x) 9 = (gl x 9).map cnv_int from rfl, show gl (cnv_server x) 10 = (gl x 10).map cnv_int from rfl, show gl (cnv_server x) 11 = (gl x 11).map cnv_Msg from rfl, sumL_map (h := cnv_Item) cnv_Item_c (gl x 3), sumL_map (h := cnv_bool) cnv_bool_c (gl x 8), sumL_map (h := cnv_int) cnv_int_c (gl x 9), sumL_map (h := cnv_int) cnv_int_c (gl x 10), sumL_map (h := cnv_Msg) cnv_Msg_c (gl x 11)]
theorem c_server_cz (x : V) : c_server x ≤ 8 * (1 + z_server x) := by
  have h0 : sumL c_Item (gl x 3) ≤ 5 * zS z_Item (gl x 3) := sumL_mul 5 fun y _ => c_Item_cz y
  have h1 : sumL c1 (gl x 8) ≤ 1 * zS z0 (gl x 8) := by rw [sumL_c1, zS_z0]; omega
  have h2 : sumL c1 (gl x 9) ≤ 1 * zS z0 (gl x 9) := by rw [sumL_c1, zS_z0]; omega
  have h3 : sumL c1 (gl x 10) ≤ 1 * zS z0 (gl x 10) := by rw [sumL_c1, zS_z0]; omega
  have h4 : sumL c_Msg (gl x 11) ≤ 8 * zS z_Msg (gl x 11) := sumL_mul 8 fun y _ => c_Msg_cz y
  simp only [c_server, z_server]; omega
theorem ct_server_cz (x : V) : ct_server x ≤ 8 * z_server x := by
  have h0 : sumL c_Item (gl x 3) ≤ 5 * zS z_Item (gl x 3) := sumL_mul 5 fun y _ => c_Item_cz y
  have h1 : sumL c1 (gl x 8) ≤ 1 * zS z0 (gl x 8) := by rw [sumL_c1, zS_z0]; omega
  have h2 : sumL c1 (gl x 9) ≤ 1 * zS z0 (gl x 9) := by rw [sumL_c1, zS_z0]; omega
  have h3 : sumL c1 (gl x 10) ≤ 1 * zS z0 (gl x 10) := by rw [sumL_c1, zS_z0]; omega
  have h4 : sumL c_Msg (gl x 11) ≤ 8 * zS z_Msg (gl x 11) := sumL_mul 8 fun y _ => c_Msg_cz y
  simp only [ct_server, z_server]; omega
def W_Reply (x : V) : Prop := I64 (gi x 0) ∧ I64 (gi x 1)
def z_Reply (x : V) : Nat := 0
def c_Reply (x : V) : Nat := 1 + 1
def ct_Reply (x : V) : Nat := 0
def M_Reply (x : V) (k : Int) : Prop := gi x 0 = k ∧ gi x 1 = k + 1
def cnv_Reply (x : V) : V := V.agg [(V.int .i64 (gi x 0)), (V.int .i64 (gi x 1))]
theorem cnv_Reply_W (x : V) (h : W_Reply x) : W_Reply (cnv_Reply x) := ⟨h.1, h.2⟩
theorem cnv_Reply_z (x : V) : z_Reply (cnv_Reply x) = z_Reply x := rfl
theorem cnv_Reply_c (x : V) : c_Reply (cnv_Reply x) = c_Reply x := rfl
theorem cnv_Reply_ct (x : V) : ct_Reply (cnv_Reply x) = ct_Reply x := rfl
theorem c_Reply_cz (x : V) : c_Reply x ≤ 2 * (1 + z_Reply x) := by
  simp only [c_Reply, z_Reply]; omega
theorem ct_Reply_cz (x : V) : ct_Reply x ≤ 2 * z_Reply x := by
  simp only [ct_Reply, z_Reply]; omega
end Go.Eng.R
open Go Go.Eng
namespace Go.Eng.R
def ltT (a b : V) : Bool := decide (gi a 1 < gi b 1 ∨ gi a 1 = gi b 1 ∧ gi a 0 < gi b 0)
theorem ahead_eq (a b : V) : spec_l7ahead a b = ltT a b := by
  unfold spec_l7ahead ltT
  by_cases h1 : gi a 1 < gi b 1 <;> by_cases h2 : gi a 1 = gi b 1 <;> simp [h1, h2]
theorem or_eq (x y : Int) : cmp_Or_int [.int .i64 x, .int .i64 y] = some (bif decide (x = 0) then y else x) := by
  have e : cmp_Or_int [.int .i64 x, .int .i64 y] = Option.bind (cmp_Or_int_l3 3 0 [.int .i64 x, .int .i64 y] 2 0) fun r22 => bif (Nat.beq r22.1 0) then some r22.2.1 else some r22.2.2 := rfl
  rw [e]
  have g0 : gi (rd [V.int .i64 x, V.int .i64 y] 0) 0 = x := rfl
  have g1 : gi (rd [V.int .i64 x, V.int .i64 y] 1) 0 = y := rfl
  have w0 : IntKind.i64.wrap (0 + 1) = 1 := by decide
  have w1 : IntKind.i64.wrap (1 + 1) = 2 := by decide
  have i0 : idxOk 0 [V.int .i64 x, V.int .i64 y].length = true := rfl
  have i1 : idxOk 1 [V.int .i64 x, V.int .i64 y].length = true := rfl
  have d0 : decide ((0 : Int) < 2) = true := rfl
  have d1 : decide ((1 : Int) < 2) = true := rfl
  have d2 : decide ((2 : Int) < 2) = false := rfl
  have t0 : (0 : Int).toNat = 0 := rfl
  have t1 : (1 : Int).toNat = 1 := rfl
  simp only [cmp_Or_int_l3, d0, d1, d2, i0, i1, t0, t1, g0, g1, w0, w1, cond_true, cond_false]
  by_cases hx : x = 0
  · subst hx
    by_cases hy : y = 0
    · subst hy; rfl
    · simp [hy]
  · simp [hx]
theorem cmp_eq (a b : V) : impl_compareTimers a b = some (cfT a b) := by
  have c : ∀ x y : Int, cmp_Compare_int x y = bif decide (x < y) then -1 else bif decide (y < x) then 1 else 0 := fun x y => by
    unfold cmp_Compare_int cmp_isNaN_int
    simp
  unfold impl_compareTimers cfT
  rw [or_eq, c, c]
  simp only [Option.bind_some]
  by_cases h1 : gi a 1 < gi b 1 <;> by_cases h2 : gi b 1 < gi a 1 <;> simp [h1, h2]
theorem cfT_neg (a b : V) : decide ((0 : Int) ≤ cfT a b) = !ltT a b := by
  have := cfT_lt a b
  unfold Go.Proofs.ltOf at this
  have e : ltT a b = decide (cfT a b < 0) := this.symm
  rw [e]
  by_cases h : cfT a b < 0
  · rw [decide_eq_true h, decide_eq_false (by omega)]; rfl
  · rw [decide_eq_false h, decide_eq_true (by omega)]; rfl
def fT (l : List V) (id : Int) : Int := match firstI (fun i => decide (gi (rd l i) 0 = id)) 0 l.length with | some j => (j : Int) | none => -1
theorem fT_cases (l : List V) (id : Int) : (fT l id = -1 ∧ ∀ j, j < l.length → gi (rd l j) 0 ≠ id) ∨ ∃ k : Nat, fT l id = (k : Int) ∧ k < l.length ∧ gi (rd l k) 0 = id ∧ ∀ j : Nat, j < k → gi (rd l j) 0 ≠ id := by
  unfold fT
  cases hf : firstI (fun i => decide (gi (rd l i) 0 = id)) 0 l.length with
  | none =>
    rw [firstI_none] at hf
    exact .inl ⟨rfl, fun j hj => by have := hf j (by omega) (by omega); simpa using this⟩
  | some k =>
    obtain ⟨-, h1, h2, h3⟩ := firstI_some hf
    exact .inr ⟨k, rfl, by omega, by simpa using h2, fun j hj => by have := h3 j (by omega) hj; simpa using this⟩
theorem l7find_eq {l : List V} (hl : l.length ≤ 9223372036854775807) (id : Int) : spec_l7find l id = some (fT l id) := by
  unfold spec_l7find fT
  rw [fuel_eq, show (0 : Int) = ((0 : Nat) : Int) from rfl, find_loop (F := fun m i => spec_l7find_l2 m l id i) (n := l.length) (q := fun i => decide (gi (rd l i) 0 = id)) (out := fun j => some (0, j)) (no := some (1, 0)) ?_ ?_ (l.length + 1) 0 (by omega) (by omega)]
  · rw [Nat.sub_zero]
    cases firstI (fun i => decide (gi (rd l i) 0 = id)) 0 l.length <;> rfl
  · intro m i hi
    simp only [spec_l7find_l2, lt_nat hi, idxOk_nat hi, Int.toNat_natCast, cond_true, wr_succ hi hl]
  · intro m; simp only [spec_l7find_l2, lt_self, cond_false]
theorem timer_eq {w : V} (hl : (gl w 1).length ≤ 9223372036854775807) (id : Int) : impl_Wheel_timer (n_impl_Wheel w) id = some (fT (gl w 1) id) := by
  unfold impl_Wheel_timer slices_IndexFunc_Timer fT
  rw [show gl (n_impl_Wheel w) 1 = gl w 1 from rfl, fuel_eq, show (0 : Int) = ((0 : Nat) : Int) from rfl, find_loop (F := fun m i => slices_IndexFunc_Timer_l2 m (gl w 1) (V.agg [(V.int .i64 (gi (V.agg [(V.int .i64 id)]) 0))]) (((gl w 1).length : Nat) : Int) i) (n := (gl w 1).length) (q := fun i => decide (gi (rd (gl w 1) i) 0 = id)) (out := fun j => some (0, j)) (no := some (1, 0)) ?_ ?_ ((gl w 1).length + 1) 0 (by omega) (by omega)]
  · rw [Nat.sub_zero]
    cases firstI (fun i => decide (gi (rd (gl w 1) i) 0 = id)) 0 (gl w 1).length <;> rfl
  · intro m i hi
    simp only [slices_IndexFunc_Timer_l2, lt_nat hi, idxOk_nat hi, Int.toNat_natCast, cond_true, wr_succ hi hl]
    rfl
  · intro m; simp only [slices_IndexFunc_Timer_l2, lt_self, cond_false]
theorem rd_take {l : List V} {i j : Nat} (h : j < i) : rd (l.take i) j = rd l j := by simp [rd, List.getD, h]
theorem fT_self {l : List V} {i : Nat} (hi : i < l.length) : decide (fT l (gi (rd l i) 0) = (i : Int)) = decide (fT (l.take i) (gi (rd l i) 0) < 0) := by
  have hlen : (l.take i).length = i := by simp; omega
  rcases fT_cases (l.take i) (gi (rd l i) 0) with ⟨e, h⟩ | ⟨k, e, h1, h2, h3⟩
  · rw [e, decide_eq_true (p := (-1 : Int) < 0) (by decide)]
    rcases fT_cases l (gi (rd l i) 0) with ⟨e', h'⟩ | ⟨k', e', k1, k2, k3⟩
    · exact absurd rfl (h' i hi)
    · rw [e', decide_eq_true_eq]
      rcases Nat.lt_trichotomy k' i with c | c | c
      · exact absurd (by rw [rd_take c]; exact k2) (h k' (by omega))
      · omega
      · exact absurd rfl (k3 i c)
  · rw [hlen] at h1
    rw [rd_take h1] at h2
    rw [e, decide_eq_false (p := ((k : Nat) : Int) < 0) (by omega), decide_eq_false_iff_not]
    rcases fT_cases l (gi (rd l i) 0) with ⟨e', h'⟩ | ⟨k', e', k1, k2, k3⟩
    · exact absurd rfl (h' i hi)
    · rw [e']
      intro c
      have c : k' = i := by omega
      exact k3 k (by omega) h2
def okT (w : V) (i : Nat) : Bool := decide (0 ≤ gi (rd (gl w 1) i) 0 ∧ gi (rd (gl w 1) i) 0 ≤ 2147483647 ∧ gi w 0 < gi (rd (gl w 1) i) 1 ∧ gi (rd (gl w 1) i) 1 ≤ 2000000) && ((decide (i = 0) || ltT (rd (gl w 1) (i - 1)) (rd (gl w 1) i)) && decide (fT ((gl w 1).take i) (gi (rd (gl w 1) i) 0) < 0))
def okW (w : V) : Bool := decide (0 ≤ gi w 0 ∧ gi w 0 ≤ 1000000 ∧ (gl w 1).length ≤ 40) && (List.range (gl w 1).length).all (okT w)
theorem wrp {k n : Nat} (h0 : 0 < k) (h : k ≤ n) (hn : n ≤ 9223372036854775807) : IntKind.i64.wrap ((k : Int) - 1) = ((k - 1 : Nat) : Int) := by rw [wr64' (by omega) (by omega)]; omega
theorem spec_WheelOk_eq {w : V} (hw : W_Wheel w) : spec_WheelOk (n_impl_Wheel w) = some (okW w) := by
  have hl := hw.2.1
  unfold spec_WheelOk okW
  simp only [show gl (n_impl_Wheel w) 1 = gl w 1 from rfl, show gi (n_impl_Wheel w) 0 = gi w 0 from rfl, show n_impl_Wheel (n_impl_Wheel w) = n_impl_Wheel w from rfl]
  by_cases h1 : gi w 0 < 0
  · rw [decide_eq_true h1, decide_eq_false (p := 0 ≤ gi w 0 ∧ gi w 0 ≤ 1000000 ∧ (gl w 1).length ≤ 40) (by omega)]; rfl
  by_cases h2 : 1000000 < gi w 0
  · rw [decide_eq_false h1, decide_eq_true h2, decide_eq_false (p := 0 ≤ gi w 0 ∧ gi w 0 ≤ 1000000 ∧ (gl w 1).length ≤ 40) (by omega)]; rfl
  by_cases h3 : (40 : Int) < (((gl w 1).length : Nat) : Int)
  · rw [decide_eq_false h1, decide_eq_false h2, decide_eq_true h3, decide_eq_false (p := 0 ≤ gi w 0 ∧ gi w 0 ≤ 1000000 ∧ (gl w 1).length ≤ 40) (by omega)]; rfl
  rw [decide_eq_false h1, decide_eq_false h2, decide_eq_false h3, decide_eq_true (p := 0 ≤ gi w 0 ∧ gi w 0 ≤ 1000000 ∧ (gl w 1).length ≤ 40) (by omega), Bool.true_and]
  simp only [cond_false]
  rw [fuel_eq, all_loopI (F := fun m i => spec_WheelOk_l4 m i (n_impl_Wheel w)) (n := (gl w 1).length) (q := okT w) (yes := some (1, false)) (no := some (0, false)) ?_ ?_]
  · cases (List.range (gl w 1).length).all (okT w) <;> rfl
  · intro m i hi
    have hi' : i ≤ (gl w 1).length := Nat.le_of_lt hi
    simp only [spec_WheelOk_l4, show gl (n_impl_Wheel w) 1 = gl w 1 from rfl, show gi (n_impl_Wheel w) 0 = gi w 0 from rfl, show n_impl_Wheel (n_impl_Wheel w) = n_impl_Wheel w from rfl, lt_nat hi, idxOk_nat hi, Int.toNat_natCast, cond_true, wr_succ hi hl]
    by_cases g1 : gi (rd (gl w 1) i) 0 < 0
    · rw [decide_eq_true g1, show okT w i = false from by unfold okT; rw [decide_eq_false (by omega)]; rfl]; rfl
    by_cases g2 : 2147483647 < gi (rd (gl w 1) i) 0
    · rw [decide_eq_false g1, decide_eq_true g2, show okT w i = false from by unfold okT; rw [decide_eq_false (by omega)]; rfl]; rfl
    by_cases g3 : gi (rd (gl w 1) i) 1 ≤ gi w 0
    · rw [decide_eq_false g1, decide_eq_false g2, decide_eq_true g3, show okT w i = false from by unfold okT; rw [decide_eq_false (by omega)]; rfl]; rfl
    by_cases g4 : 2000000 < gi (rd (gl w 1) i) 1
    · rw [decide_eq_false g1, decide_eq_false g2, decide_eq_false g3, decide_eq_true g4, show okT w i = false from by unfold okT; rw [decide_eq_false (by omega)]; rfl]; rfl
    rw [decide_eq_false g1, decide_eq_false g2, decide_eq_false g3, decide_eq_false g4, decide_eq_true (p := (0 : Int) ≤ (i : Int)) (by omega), decide_eq_true (p := (i : Int) ≤ (((gl w 1).length : Nat) : Int)) (by omega)]
    rw [show okT w i = ((decide (i = 0) || ltT (rd (gl w 1) (i - 1)) (rd (gl w 1) i)) && decide (fT ((gl w 1).take i) (gi (rd (gl w 1) i) 0) < 0)) from by unfold okT; rw [decide_eq_true (by omega), Bool.true_and]]
    simp only [cond_false, Bool.and_self, cond_true, l7find_eq (l := (gl w 1).take i) (by simp; omega), Option.bind_some]
    by_cases h0 : i = 0
    · subst h0
      rw [decide_eq_false (p := (0 : Int) < ((0 : Nat) : Int)) (by omega)]
      by_cases hf : fT ((gl w 1).take 0) (gi (rd (gl w 1) 0) 0) < 0
      · rw [decide_eq_true hf, decide_eq_false (p := (0 : Int) ≤ fT ((gl w 1).take 0) (gi (rd (gl w 1) 0) 0)) (by omega)]; rfl
      · rw [decide_eq_false hf, decide_eq_true (p := (0 : Int) ≤ fT ((gl w 1).take 0) (gi (rd (gl w 1) 0) 0)) (by omega)]; rfl
    · rw [decide_eq_true (p := (0 : Int) < (i : Int)) (by omega), wrp (by omega) hi' hl, idxOk_nat (show i - 1 < (gl w 1).length by omega), Int.toNat_natCast, decide_eq_false h0, ahead_eq, show ltT (n_impl_Timer (rd (gl w 1) (i - 1))) (n_impl_Timer (rd (gl w 1) i)) = ltT (rd (gl w 1) (i - 1)) (rd (gl w 1) i) from rfl]
      cases ltT (rd (gl w 1) (i - 1)) (rd (gl w 1) i) with
      | false => rfl
      | true =>
        by_cases hf : fT ((gl w 1).take i) (gi (rd (gl w 1) i) 0) < 0
        · rw [decide_eq_true hf, decide_eq_false (p := (0 : Int) ≤ fT ((gl w 1).take i) (gi (rd (gl w 1) i) 0)) (by omega)]; rfl
        · rw [decide_eq_false hf, decide_eq_true (p := (0 : Int) ≤ fT ((gl w 1).take i) (gi (rd (gl w 1) i) 0)) (by omega)]; rfl
  · intro m; simp only [spec_WheelOk_l4, show gl (n_impl_Wheel w) 1 = gl w 1 from rfl, lt_self, cond_false]
theorem within_eq (n lo hi : Int) : impl_within n lo hi = decide (lo ≤ n ∧ n ≤ hi) := by
  unfold impl_within
  by_cases h : lo ≤ n <;> simp [h]
theorem impl_WheelOk_eq {w : V} (hw : W_Wheel w) : impl_WheelOk (n_impl_Wheel w) = some (okW w) := by
  have hl := hw.2.1
  unfold impl_WheelOk okW
  simp only [show gl (n_impl_Wheel w) 1 = gl w 1 from rfl, show gi (n_impl_Wheel w) 0 = gi w 0 from rfl, show n_impl_Wheel (n_impl_Wheel w) = n_impl_Wheel w from rfl, within_eq]
  by_cases h1 : 0 ≤ gi w 0 ∧ gi w 0 ≤ 1000000
  case neg => rw [decide_eq_false h1, decide_eq_false (p := 0 ≤ gi w 0 ∧ gi w 0 ≤ 1000000 ∧ (gl w 1).length ≤ 40) (by omega)]; rfl
  by_cases h3 : (40 : Int) < (((gl w 1).length : Nat) : Int)
  · rw [decide_eq_true h1, decide_eq_true h3, decide_eq_false (p := 0 ≤ gi w 0 ∧ gi w 0 ≤ 1000000 ∧ (gl w 1).length ≤ 40) (by omega)]; rfl
  rw [decide_eq_true h1, decide_eq_false h3, decide_eq_true (p := 0 ≤ gi w 0 ∧ gi w 0 ≤ 1000000 ∧ (gl w 1).length ≤ 40) (by omega), Bool.true_and]
  simp only [cond_false, Bool.not_true]
  rw [fuel_eq, all_loopI (F := fun m i => impl_WheelOk_l4 m (gl w 1) (((gl w 1).length : Nat) : Int) i (n_impl_Wheel w)) (n := (gl w 1).length) (q := okT w) (yes := some (1, false)) (no := some (0, false)) ?_ ?_]
  · cases (List.range (gl w 1).length).all (okT w) <;> rfl
  · intro m i hi
    have hi' : i ≤ (gl w 1).length := Nat.le_of_lt hi
    have hwr : IntKind.i64.wrap (gi w 0 + 1) = gi w 0 + 1 := wr64' (by omega) (by omega)
    simp only [impl_WheelOk_l4, impl_isId, within_eq, show gl (n_impl_Wheel w) 1 = gl w 1 from rfl, show gi (n_impl_Wheel w) 0 = gi w 0 from rfl, show n_impl_Wheel (n_impl_Wheel w) = n_impl_Wheel w from rfl, lt_nat hi, idxOk_nat hi, Int.toNat_natCast, cond_true, wr_succ hi hl, timer_eq hl, Option.bind_some, fT_self hi, hwr]
    by_cases g1 : 0 ≤ gi (rd (gl w 1) i) 0 ∧ gi (rd (gl w 1) i) 0 ≤ 2147483647
    case neg => rw [decide_eq_false g1, show okT w i = false from by unfold okT; rw [decide_eq_false (by omega)]; rfl]; rfl
    by_cases hf : fT ((gl w 1).take i) (gi (rd (gl w 1) i) 0) < 0
    case neg => rw [decide_eq_true g1, decide_eq_false hf, show okT w i = false from by unfold okT; rw [decide_eq_false hf]; simp]; rfl
    by_cases g3 : gi w 0 + 1 ≤ gi (rd (gl w 1) i) 1 ∧ gi (rd (gl w 1) i) 1 ≤ 2000000
    case neg => rw [decide_eq_true g1, decide_eq_true hf, decide_eq_false g3, show okT w i = false from by unfold okT; rw [decide_eq_false (by omega)]; rfl]; rfl
    rw [decide_eq_true g1, decide_eq_true hf, decide_eq_true g3]
    rw [show okT w i = (decide (i = 0) || ltT (rd (gl w 1) (i - 1)) (rd (gl w 1) i)) from by unfold okT; rw [decide_eq_true (by omega), decide_eq_true hf, Bool.true_and, Bool.and_true]]
    simp only [cond_false, Bool.not_true]
    by_cases h0 : i = 0
    · subst h0
      rw [decide_eq_false (p := (0 : Int) < ((0 : Nat) : Int)) (by omega)]
      rfl
    · rw [decide_eq_true (p := (0 : Int) < (i : Int)) (by omega), wrp (by omega) hi' hl, idxOk_nat (show i - 1 < (gl w 1).length by omega), Int.toNat_natCast, decide_eq_false h0, cmp_eq]
      simp only [Option.bind_some, cond_true, cfT_neg, show ltT (n_impl_Timer (rd (gl w 1) (i - 1))) (n_impl_Timer (rd (gl w 1) i)) = ltT (rd (gl w 1) (i - 1)) (rd (gl w 1) i) from rfl]
      cases ltT (rd (gl w 1) (i - 1)) (rd (gl w 1) i) <;> rfl
  · intro m; simp only [impl_WheelOk_l4, lt_self, cond_false]
end Go.Eng.R
open Go Go.Eng
namespace Go.Eng.R
theorem ltT_iff (a b : V) : ltT a b = true ↔ (gi a 1 < gi b 1 ∨ gi a 1 = gi b 1 ∧ gi a 0 < gi b 0) := by unfold ltT; rw [decide_eq_true_eq]
theorem ltT_trans {a b c : V} (h1 : ltT a b = true) (h2 : ltT b c = true) : ltT a c = true := by rw [ltT_iff] at *; omega
theorem ltT_asymm {a b : V} (h1 : ltT a b = true) : ltT b a = false := by
  rw [ltT_iff] at h1
  cases h : ltT b a with
  | false => rfl
  | true => rw [ltT_iff] at h; omega
theorem ltT_tri {a b : V} (h1 : ltT a b = false) (h2 : gi a 0 ≠ gi b 0) : ltT b a = true := by
  rw [ltT_iff]
  have : ¬ (gi a 1 < gi b 1 ∨ gi a 1 = gi b 1 ∧ gi a 0 < gi b 0) := by rw [← ltT_iff, h1]; simp
  omega
structure Good (l : List V) : Prop where
  asc : l.Pairwise fun a b => ltT a b = true
  ids : l.Pairwise fun a b => gi a 0 ≠ gi b 0
theorem okW_spec {w : V} (h : okW w = true) : 0 ≤ gi w 0 ∧ gi w 0 ≤ 1000000 ∧ (gl w 1).length ≤ 40 ∧ Good (gl w 1) := by
  unfold okW at h
  simp only [Bool.and_eq_true, decide_eq_true_eq, List.all_eq_true, List.mem_range] at h
  obtain ⟨⟨h1, h2, h3⟩, h4⟩ := h
  have hq : ∀ i, i < (gl w 1).length → (i = 0 ∨ ltT (rd (gl w 1) (i - 1)) (rd (gl w 1) i) = true) ∧ fT ((gl w 1).take i) (gi (rd (gl w 1) i) 0) < 0 := fun i hi => by
    have := h4 i hi
    unfold okT at this
    simp only [Bool.and_eq_true, Bool.or_eq_true, decide_eq_true_eq] at this
    exact this.2
  have hasc : ∀ j i, i < j → j < (gl w 1).length → ltT (rd (gl w 1) i) (rd (gl w 1) j) = true := by
    intro j
    induction j with
    | zero => intro i hi; omega
    | succ j ih =>
      intro i hi hj
      have hs := (hq (j + 1) hj).1
      rcases hs with hs | hs
      · omega
      rcases Nat.eq_or_lt_of_le (Nat.le_of_lt_succ hi) with e | e
      · subst e; exact hs
      · exact ltT_trans (ih i e (by omega)) hs
  refine ⟨h1, h2, h3, ⟨?_, ?_⟩⟩
  · rw [List.pairwise_iff_getElem]
    intro i j hi hj hij
    have := hasc j i hij hj
    rw [rd_eq hi, rd_eq hj] at this
    exact this
  · rw [List.pairwise_iff_getElem]
    intro i j hi hj hij
    have h5 := (hq j hj).2
    have hlen : ((gl w 1).take j).length = j := by simp; omega
    rcases fT_cases ((gl w 1).take j) (gi (rd (gl w 1) j) 0) with ⟨e, h⟩ | ⟨k, e, h1, h2, h3⟩
    · have := h i (by omega)
      rw [rd_take hij, rd_eq hi, rd_eq hj] at this
      exact this
    · omega
theorem Good.sub {l l' : List V} (h : Good l) (hs : l'.Sublist l) : Good l' := ⟨h.asc.sublist hs, h.ids.sublist hs⟩
theorem sort_eq {l s : List V} (hs : s.Pairwise fun a b => ltT a b = true) (hp : l.Perm s) : srtV cfT l = s := by
  have hsp := srtV_perm cfT cfT_swo l
  refine List.Perm.eq_of_pairwise (le := fun a b => ltT b a = false) ?_ ?_ ?_ (hsp.trans hp)
  · intro a b ha hb h1 h2
    have ha : a ∈ s := (hsp.trans hp).mem_iff.1 ha
    obtain ⟨i, hi, rfl⟩ := List.getElem_of_mem ha
    obtain ⟨j, hj, rfl⟩ := List.getElem_of_mem hb
    rw [List.pairwise_iff_getElem] at hs
    rcases Nat.lt_trichotomy i j with c | c | c
    · have := hs i j hi hj c; rw [this] at h2; cases h2
    · subst c; rfl
    · have := hs j i hj hi c; rw [this] at h1; cases h1
  · rw [List.pairwise_iff_getElem]
    intro i j hi hj hij
    have hl : (srtV cfT l).length = l.length := srtV_length cfT cfT_swo l
    have := srtV_sorted cfT cfT_swo l i j hij (by omega)
    rw [show (srtV cfT l).getD j default = (srtV cfT l)[j] from by simp [List.getD, hj], show (srtV cfT l).getD i default = (srtV cfT l)[i] from by simp [List.getD, hi]] at this
    have h2 := cfT_lt (srtV cfT l)[j] (srtV cfT l)[i]
    unfold Go.Proofs.ltOf at h2
    rw [h2] at this
    exact this
  · exact hs.imp fun h => ltT_asymm h
def stopL (l : List V) (id : Int) : List V := match firstI (fun i => decide (gi (rd l i) 0 = id)) 0 l.length with | some k => l.take k ++ l.drop (k + 1) | none => l
theorem stopL_cases (l : List V) (id : Int) : (fT l id = -1 ∧ stopL l id = l ∧ ∀ j, j < l.length → gi (rd l j) 0 ≠ id) ∨ ∃ k : Nat, fT l id = (k : Int) ∧ k < l.length ∧ gi (rd l k) 0 = id ∧ stopL l id = l.take k ++ l.drop (k + 1) := by
  unfold fT stopL
  cases hf : firstI (fun i => decide (gi (rd l i) 0 = id)) 0 l.length with
  | none =>
    rw [firstI_none] at hf
    exact .inl ⟨rfl, rfl, fun j hj => by have := hf j (by omega) (by omega); simpa using this⟩
  | some k =>
    obtain ⟨-, h1, h2, h3⟩ := firstI_some hf
    exact .inr ⟨k, rfl, by omega, by simpa using h2, rfl⟩
theorem stopL_sub (l : List V) (id : Int) : (stopL l id).Sublist l := by
  rcases stopL_cases l id with ⟨_, e, _⟩ | ⟨k, _, _, _, e⟩
  · rw [e]; exact List.Sublist.refl _
  · rw [e]
    have h1 : (l.take k ++ l.drop (k + 1)).Sublist (l.take k ++ l.drop k) := (List.Sublist.refl _).append (by rw [← List.drop_drop]; exact List.drop_sublist _ _)
    rwa [List.take_append_drop] at h1
theorem stopL_no {l : List V} {id : Int} (h : Good l) : ∀ x ∈ stopL l id, gi x 0 ≠ id := by
  rcases stopL_cases l id with ⟨_, e, h2⟩ | ⟨k, _, hk, h2, e⟩
  · rw [e]
    intro x hx
    obtain ⟨j, hj, rfl⟩ := List.getElem_of_mem hx
    have := h2 j hj
    rwa [rd_eq hj] at this
  · rw [e]
    intro x hx hxi
    rw [rd_eq hk] at h2
    have hp := h.ids
    rw [List.pairwise_iff_getElem] at hp
    rcases List.mem_append.1 hx with hx | hx
    · obtain ⟨j, hj, rfl⟩ := List.getElem_of_mem hx
      simp only [List.length_take] at hj
      rw [List.getElem_take] at hxi
      exact hp j k (by omega) hk (by omega) (hxi.trans h2.symm)
    · obtain ⟨j, hj, rfl⟩ := List.getElem_of_mem hx
      simp only [List.length_drop] at hj
      rw [List.getElem_drop] at hxi
      exact hp k (k + 1 + j) hk (by omega) (by omega) (h2.trans hxi.symm)
theorem stopL_len (l : List V) (id : Int) : (stopL l id).length ≤ l.length := (stopL_sub l id).length_le
theorem spec_stop_eq {w : V} (hl : (gl w 1).length ≤ 4194304) (id : Int) : ∃ b, spec_l7stop (n_impl_Wheel w) id = some (b, V.agg [V.int .i64 (gi w 0), V.inl t_impl_Timer (stopL (gl w 1) id)]) := by
  unfold spec_l7stop
  rw [show gl (n_impl_Wheel w) 1 = gl w 1 from rfl, show gi (n_impl_Wheel w) 0 = gi w 0 from rfl, l7find_eq (by omega)]
  simp only [Option.bind_some]
  rcases stopL_cases (gl w 1) id with ⟨e, e2, _⟩ | ⟨k, e, hk, _, e2⟩
  · rw [e, e2]; exact ⟨false, rfl⟩
  · rw [e, e2, decide_eq_false (p := (k : Int) < 0) (by omega), decide_eq_true (p := (0 : Int) ≤ (k : Int)) (by omega), decide_eq_true (p := (k : Int) ≤ (((gl w 1).length : Nat) : Int)) (by omega), wr_succ hk (by omega), decide_eq_true (p := (0 : Int) ≤ ((k + 1 : Nat) : Int)) (by omega), decide_eq_true (p := ((k + 1 : Nat) : Int) ≤ (((gl w 1).length : Nat) : Int)) (by omega)]
    simp only [cond_false, Bool.and_self, cond_true, Int.toNat_natCast, Nat.zero_add, Bool.and_true]
    rw [roomy_of (n := ((gl w 1).take k).length) (by simp; omega) (by simp; omega), roomy_of (n := ((gl w 1).take k).length + ((gl w 1).drop (k + 1)).length) (by simp; omega) (by simp; omega)]
    exact ⟨true, rfl⟩
theorem impl_stop_eq {w : V} (hl : (gl w 1).length ≤ 4194304) (id : Int) : ∃ b, impl_Wheel_stop (n_impl_Wheel w) id = some (b, V.agg [V.int .i64 (gi w 0), V.inl t_impl_Timer (stopL (gl w 1) id)]) := by
  unfold impl_Wheel_stop
  rw [show n_impl_Wheel (n_impl_Wheel w) = n_impl_Wheel w from rfl, timer_eq (by omega), show gl (n_impl_Wheel w) 1 = gl w 1 from rfl, show gi (n_impl_Wheel w) 0 = gi w 0 from rfl]
  simp only [Option.bind_some]
  rcases stopL_cases (gl w 1) id with ⟨e, e2, _⟩ | ⟨k, e, hk, _, e2⟩
  · rw [e, e2]; exact ⟨_, rfl⟩
  · rw [e, e2, decide_eq_true (p := (0 : Int) ≤ (k : Int)) (by omega), wr_succ hk (by omega)]
    unfold delV
    rw [decide_eq_true (p := (0 : Int) ≤ (k : Int)) (by omega), decide_eq_true (p := (k : Int) ≤ ((k + 1 : Nat) : Int)) (by omega), decide_eq_true (p := ((k + 1 : Nat) : Int) ≤ (((gl w 1).length : Nat) : Int)) (by omega), decide_eq_true (p := (gl w 1).length ≤ 9223372036854775807) (by omega)]
    simp only [Bool.and_self, cond_true, Int.toNat_natCast, Option.bind_some]
    exact ⟨true, rfl⟩
def putL (l : List V) (t : V) : List V := (l.takeWhile fun x => ltT x t) ++ [t] ++ (l.dropWhile fun x => ltT x t)
theorem putL_good {l : List V} {t : V} (h : Good l) (hno : ∀ x ∈ l, gi x 0 ≠ gi t 0) : (putL l t).Pairwise fun a b => ltT a b = true := by
  have hall : ∀ x ∈ l.takeWhile (fun x => ltT x t), ltT x t = true := fun x hx => by
    have := List.all_takeWhile (p := fun x => ltT x t) (l := l)
    rw [List.all_eq_true] at this
    exact this x hx
  have happ : l.takeWhile (fun x => ltT x t) ++ l.dropWhile (fun x => ltT x t) = l := List.takeWhile_append_dropWhile
  have hasc := h.asc
  rw [← happ, List.pairwise_append] at hasc
  obtain ⟨p1, p2, p3⟩ := hasc
  have hdrop : ∀ y ∈ l.dropWhile (fun x => ltT x t), ltT t y = true := fun y hy => by
    have hsub : ∀ z ∈ l.dropWhile (fun x => ltT x t), z ∈ l := fun z hz => by rw [← happ]; exact List.mem_append_right _ hz
    cases hd : l.dropWhile (fun x => ltT x t) with
    | nil => rw [hd] at hy; cases hy
    | cons z r =>
      have hz : ltT z t = false := by
        have := List.head_dropWhile_not (p := fun x => ltT x t) (l := l) (by rw [hd]; simp)
        simpa [hd] using this
      have htz : ltT t z = true := ltT_tri hz (hno z (hsub z (by rw [hd]; simp)))
      rw [hd] at hy p2
      rcases List.mem_cons.1 hy with rfl | hy
      · exact htz
      · exact ltT_trans htz ((List.pairwise_cons.1 p2).1 y hy)
  unfold putL
  rw [List.append_assoc, List.pairwise_append]
  refine ⟨p1, ?_, fun a ha b hb => ?_⟩
  · simp only [List.singleton_append, List.pairwise_cons]
    exact ⟨hdrop, p2⟩
  · simp only [List.singleton_append, List.mem_cons] at hb
    rcases hb with rfl | hb
    · exact hall a ha
    · exact p3 a ha b hb
theorem putL_perm (l : List V) (t : V) : (l ++ [t]).Perm (putL l t) := by
  unfold putL
  have happ : l.takeWhile (fun x => ltT x t) ++ l.dropWhile (fun x => ltT x t) = l := List.takeWhile_append_dropWhile
  have h1 : (l ++ [t]).Perm (t :: l) := List.perm_append_comm
  have h2 : (l.takeWhile (fun x => ltT x t) ++ [t] ++ l.dropWhile (fun x => ltT x t)).Perm (t :: (l.takeWhile (fun x => ltT x t) ++ l.dropWhile (fun x => ltT x t))) := by
    rw [List.append_assoc]
    exact List.perm_middle
  rw [happ] at h2
  exact h1.trans h2.symm
end Go.Eng.R
open Go Go.Eng
namespace Go.Eng.R
theorem while_loop2 {ρ : Type} {F : Nat → Int → ρ} {n n0 : Nat} {p : Nat → Bool} {out : Int → ρ} (hp : ∀ i, i < n0 → p i = true) (hp0 : n0 < n → p n0 = false) (hn : n0 ≤ n)
    (h1 : ∀ m (i : Nat), i < n → F (m + 1) (i : Int) = bif p i then F m ((i + 1 : Nat) : Int) else out (i : Int)) (h0 : ∀ m, F (m + 1) (n : Int) = out (n : Int)) :
    ∀ m (i : Nat), i ≤ n0 → n - i < m → F m (i : Int) = out (n0 : Int)
  | 0, i, _, h => by omega
  | m + 1, i, hi, hm => by
    rcases Nat.eq_or_lt_of_le hi with h | h
    · subst h
      rcases Nat.eq_or_lt_of_le hn with h | h
      · subst h; exact h0 m
      · rw [h1 m i h, hp0 h]; rfl
    · rw [h1 m i (by omega), hp i h, cond_true]
      exact while_loop2 hp hp0 hn h1 h0 m (i + 1) (by omega) (by omega)
theorem take_tw (p : V → Bool) (l : List V) : l.take (l.takeWhile p).length = l.takeWhile p := by
  have := List.take_left (l₁ := l.takeWhile p) (l₂ := l.dropWhile p)
  rwa [List.takeWhile_append_dropWhile] at this
theorem drop_tw (p : V → Bool) (l : List V) : l.drop (l.takeWhile p).length = l.dropWhile p := by
  have := List.drop_left (l₁ := l.takeWhile p) (l₂ := l.dropWhile p)
  rwa [List.takeWhile_append_dropWhile] at this
def mkT (w : V) (id after : Int) : V := V.agg [V.int .i64 id, V.int .i64 (IntKind.i64.wrap (gi w 0 + after))]
def setW (w : V) (id after : Int) : V := V.agg [V.int .i64 (gi w 0), V.inl t_impl_Timer (putL (stopL (gl w 1) id) (mkT w id after))]
theorem ins_loop {w T : V} {r : List V} (hT : n_impl_Timer T = T) (hl : r.length ≤ 4194304) (now : Int) :
    spec_l7set_l6 (r.length + 1) 0 (V.agg [V.int .i64 now, V.sl 2 t_impl_Timer 0 none]) T r = some ((((r.takeWhile fun x => ltT x T).length : Nat) : Int), V.agg [V.int .i64 now, V.sl 2 t_impl_Timer 0 none], T, r) := by
  obtain ⟨h1, h2, h3⟩ := takeWhile_spec (l := r) (p := fun x => ltT x T)
  have key := while_loop2 (F := fun m i => spec_l7set_l6 m i (V.agg [V.int .i64 now, V.sl 2 t_impl_Timer 0 none]) T r) (n := r.length) (n0 := (r.takeWhile fun x => ltT x T).length) (p := fun i => ltT (rd r i) T) (out := fun i => some (i, V.agg [V.int .i64 now, V.sl 2 t_impl_Timer 0 none], T, r)) h1 h2 h3 ?_ ?_ (r.length + 1) 0 (by omega) (by omega)
  · exact key
  · intro m i hi
    simp only [spec_l7set_l6, lt_nat hi, idxOk_nat hi, Int.toNat_natCast, cond_true, wr_succ hi (Nat.le_of_lt (by omega)), Nat.zero_add, ahead_eq, hT]
    rfl
  · intro m
    simp only [spec_l7set_l6, lt_self, cond_false, hT]
    rfl
theorem spec_set_eq {w : V} (hl : (gl w 1).length ≤ 4194303) (id after : Int) :
    spec_l7set (n_impl_Wheel w) id after = some (bif decide (0 ≤ id ∧ id ≤ 2147483647 ∧ 1 ≤ after ∧ after ≤ 1000000 ∧ (0 ≤ fT (gl w 1) id ∨ (gl w 1).length < 40)) then (true, setW w id after) else (false, n_impl_Wheel w)) := by
  have hbody : (Option.bind (spec_l7stop (n_impl_Wheel w) id) fun r14 =>
      Option.bind (spec_l7set_l6 (((((gl r14.2 1).length : Nat) : Int) - 0).toNat + 1) 0 (V.agg [(V.int .i64 (gi r14.2 0)), (V.sl 2 t_impl_Timer 0 none)]) (V.agg [(V.int .i64 id), (V.int .i64 (IntKind.i64.wrap ((gi r14.2 0) + after)))]) (gl r14.2 1)) fun r15 =>
      bif ((decide ((0 : Int) ≤ r15.1)) && (decide (r15.1 ≤ ((r15.2.2.2.length : Nat) : Int)))) then
        bif ((roomy (0 + ((r15.2.2.2.take r15.1.toNat).length)) 16) && true) then
          bif ((roomy (((r15.2.2.2.take r15.1.toNat).length) + 1) 16) && true) then
            bif ((decide ((0 : Int) ≤ r15.1)) && (decide (r15.1 ≤ ((r15.2.2.2.length : Nat) : Int)))) then
              bif ((roomy ((((r15.2.2.2.take r15.1.toNat) ++ [(n_impl_Timer r15.2.2.1)]).length) + ((r15.2.2.2.drop (0 + r15.1.toNat)).length)) 16) && true) then
                some (true, (V.agg [(V.int .i64 (gi r15.2.1 0)), (V.inl t_impl_Timer (((r15.2.2.2.take r15.1.toNat) ++ [(n_impl_Timer r15.2.2.1)]) ++ (r15.2.2.2.drop (0 + r15.1.toNat))))]))
              else none
            else none
          else none
        else none
      else none) = some (true, setW w id after) := by
    obtain ⟨b, hb⟩ := spec_stop_eq (w := w) (by omega) id
    rw [hb]
    simp only [Option.bind_some]
    have hsl := stopL_len (gl w 1) id
    have e0 : gi (V.agg [V.int .i64 (gi w 0), V.inl t_impl_Timer (stopL (gl w 1) id)]) 0 = gi w 0 := rfl
    have e1 : gl (V.agg [V.int .i64 (gi w 0), V.inl t_impl_Timer (stopL (gl w 1) id)]) 1 = stopL (gl w 1) id := rfl
    rw [e0, e1, fuel_eq, ins_loop (w := w) rfl (by omega)]
    simp only [Option.bind_some]
    have htw := (takeWhile_spec (l := stopL (gl w 1) id) (p := fun x => ltT x (V.agg [(V.int .i64 id), (V.int .i64 (IntKind.i64.wrap ((gi w 0) + after)))]))).2.2
    rw [decide_eq_true (p := (0 : Int) ≤ (((stopL (gl w 1) id).takeWhile fun x => ltT x (V.agg [(V.int .i64 id), (V.int .i64 (IntKind.i64.wrap ((gi w 0) + after)))])).length : Int)) (by omega),
      decide_eq_true (p := ((((stopL (gl w 1) id).takeWhile fun x => ltT x (V.agg [(V.int .i64 id), (V.int .i64 (IntKind.i64.wrap ((gi w 0) + after)))])).length : Nat) : Int) ≤ (((stopL (gl w 1) id).length : Nat) : Int)) (by omega)]
    simp only [Bool.and_self, cond_true, Int.toNat_natCast, Nat.zero_add, Bool.and_true, take_tw, drop_tw]
    have hdl : ((stopL (gl w 1) id).dropWhile fun x => ltT x (V.agg [(V.int .i64 id), (V.int .i64 (IntKind.i64.wrap ((gi w 0) + after)))])).length ≤ (stopL (gl w 1) id).length := (List.dropWhile_suffix _).sublist.length_le
    rw [roomy_of (by omega) (by omega), roomy_of (by omega) (by omega), roomy_of (by simp; omega) (by simp; omega)]
    rfl
  unfold spec_l7set
  simp only [show n_impl_Wheel (n_impl_Wheel w) = n_impl_Wheel w from rfl]
  by_cases h1 : id < 0
  · rw [decide_eq_true h1, decide_eq_false (p := 0 ≤ id ∧ id ≤ 2147483647 ∧ 1 ≤ after ∧ after ≤ 1000000 ∧ (0 ≤ fT (gl w 1) id ∨ (gl w 1).length < 40)) (by omega)]; rfl
  by_cases h2 : 2147483647 < id
  · rw [decide_eq_false h1, decide_eq_true h2, decide_eq_false (p := 0 ≤ id ∧ id ≤ 2147483647 ∧ 1 ≤ after ∧ after ≤ 1000000 ∧ (0 ≤ fT (gl w 1) id ∨ (gl w 1).length < 40)) (by omega)]; rfl
  by_cases h3 : after < 1
  · rw [decide_eq_false h1, decide_eq_false h2, decide_eq_true h3, decide_eq_false (p := 0 ≤ id ∧ id ≤ 2147483647 ∧ 1 ≤ after ∧ after ≤ 1000000 ∧ (0 ≤ fT (gl w 1) id ∨ (gl w 1).length < 40)) (by omega)]; rfl
  by_cases h4 : 1000000 < after
  · rw [decide_eq_false h1, decide_eq_false h2, decide_eq_false h3, decide_eq_true h4, decide_eq_false (p := 0 ≤ id ∧ id ≤ 2147483647 ∧ 1 ≤ after ∧ after ≤ 1000000 ∧ (0 ≤ fT (gl w 1) id ∨ (gl w 1).length < 40)) (by omega)]; rfl
  rw [decide_eq_false h1, decide_eq_false h2, decide_eq_false h3, decide_eq_false h4, show gl (n_impl_Wheel w) 1 = gl w 1 from rfl, l7find_eq (by omega)]
  simp only [cond_false, Option.bind_some]
  by_cases h5 : fT (gl w 1) id < 0
  · rw [decide_eq_true h5]
    by_cases h6 : (40 : Int) ≤ (((gl w 1).length : Nat) : Int)
    · rw [decide_eq_true h6, decide_eq_false (p := 0 ≤ id ∧ id ≤ 2147483647 ∧ 1 ≤ after ∧ after ≤ 1000000 ∧ (0 ≤ fT (gl w 1) id ∨ (gl w 1).length < 40)) (by omega)]; rfl
    · rw [decide_eq_false h6, decide_eq_true (p := 0 ≤ id ∧ id ≤ 2147483647 ∧ 1 ≤ after ∧ after ≤ 1000000 ∧ (0 ≤ fT (gl w 1) id ∨ (gl w 1).length < 40)) (by omega)]
      simp only [cond_true, cond_false]
      exact hbody
  · rw [decide_eq_false h5, decide_eq_true (p := 0 ≤ id ∧ id ≤ 2147483647 ∧ 1 ≤ after ∧ after ≤ 1000000 ∧ (0 ≤ fT (gl w 1) id ∨ (gl w 1).length < 40)) (by omega)]
    simp only [cond_true, cond_false]
    exact hbody
theorem impl_set_eq {w : V} (hl : (gl w 1).length ≤ 4194303) (hg : Good (gl w 1)) (id after : Int) : impl_Wheel_set (n_impl_Wheel w) id after = some (setW w id after) := by
  obtain ⟨b, hb⟩ := impl_stop_eq (w := w) (by omega) id
  have hsl := stopL_len (gl w 1) id
  unfold impl_Wheel_set
  rw [show n_impl_Wheel (n_impl_Wheel w) = n_impl_Wheel w from rfl, hb]
  simp only [Option.bind_some]
  have e0 : gi (V.agg [V.int .i64 (gi w 0), V.inl t_impl_Timer (stopL (gl w 1) id)]) 0 = gi w 0 := rfl
  have e1 : gl (V.agg [V.int .i64 (gi w 0), V.inl t_impl_Timer (stopL (gl w 1) id)]) 1 = stopL (gl w 1) id := rfl
  rw [e0, e1, roomy_of (by omega) (by omega)]
  unfold srtO
  rw [decide_eq_true (p := 0 < (stopL (gl w 1) id ++ [V.agg [V.int .i64 id, V.int .i64 (IntKind.i64.wrap (gi w 0 + after))]]).length) (by simp), decide_eq_true (p := (stopL (gl w 1) id ++ [V.agg [V.int .i64 id, V.int .i64 (IntKind.i64.wrap (gi w 0 + after))]]).length < 4611686018427387904) (by simp; omega)]
  simp only [Bool.and_self, cond_true, Option.bind_some]
  rw [show V.agg [V.int .i64 id, V.int .i64 (IntKind.i64.wrap (gi w 0 + after))] = mkT w id after from rfl, sort_eq (putL_good (hg.sub (stopL_sub _ id)) (t := mkT w id after) (stopL_no hg)) (putL_perm _ _)]
  rfl
theorem setW_W {w : V} (hw : W_Wheel w) (hl : (gl w 1).length ≤ 4194303) {id : Int} (hid : I64 id) {after : Int} (ha : I64 (gi w 0 + after)) : W_Wheel (setW w id after) ∧ (gl (setW w id after) 1).length ≤ (gl w 1).length + 1 := by
  have hp := putL_perm (stopL (gl w 1) id) (mkT w id after)
  have hlen : (putL (stopL (gl w 1) id) (mkT w id after)).length = (stopL (gl w 1) id).length + 1 := by rw [← hp.length_eq]; simp
  have hsl := stopL_len (gl w 1) id
  refine ⟨⟨hw.1, ⟨?_, fun x hx => ?_⟩⟩, ?_⟩
  · show (putL (stopL (gl w 1) id) (mkT w id after)).length ≤ _
    omega
  · have hx : x ∈ putL (stopL (gl w 1) id) (mkT w id after) := hx
    rcases List.mem_append.1 (hp.mem_iff.2 hx) with h | h
    · exact hw.2.2 x ((stopL_sub _ _).mem h)
    · simp only [List.mem_singleton] at h
      subst h
      exact ⟨hid, by show I64 (IntKind.i64.wrap (gi w 0 + after)); rw [wr64 ha]; exact ha⟩
  · show (putL (stopL (gl w 1) id) (mkT w id after)).length ≤ _
    omega
def zeroW : V := V.agg [V.int .i64 0, V.inl t_impl_Timer []]
end Go.Eng.R
open Go Go.Eng
namespace Go.Eng.R
theorem bAnd_le (a : Int) {b : Int} (h0 : 0 ≤ b) (h1 : b ≤ 9223372036854775807) : 0 ≤ bAnd .i64 a b ∧ bAnd .i64 a b ≤ b := by
  unfold bAnd
  have e : (BitVec.ofInt (IntKind.bits .i64) b).toNat = b.toNat := by
    rw [BitVec.toNat_ofInt]
    rw [Int.emod_eq_of_lt h0 (by show b < ((2 ^ 64 : Nat) : Int); omega)]
  have h : (BitVec.ofInt (IntKind.bits .i64) a &&& BitVec.ofInt (IntKind.bits .i64) b).toNat ≤ b.toNat := by
    rw [BitVec.toNat_and, e]
    exact Nat.and_le_right
  rw [wr64' (by omega) (by omega)]
  omega
def CurOk (c : V) : Prop := LW W_byte (gl c 0) ∧ 0 ≤ gi c 1 ∧ gi c 1 ≤ (((gl c 0).length : Nat) : Int)
theorem byte_ok {c : V} (h : CurOk c) : ∃ x c', spec_l1Byte (n_spec_l1Cur c) = some (x, c') ∧ CurOk c' ∧ 0 ≤ x ∧ x ≤ 255 ∧ gl c' 0 = gl c 0 := by
  obtain ⟨h1, h2, h3⟩ := h
  have hl := h1.1
  unfold spec_l1Byte
  simp only [show gl (n_spec_l1Cur c) 0 = gl c 0 from rfl, show gi (n_spec_l1Cur c) 1 = gi c 1 from rfl]
  by_cases hc : gi c 1 < (((gl c 0).length : Nat) : Int)
  · rw [decide_eq_true hc, show idxOk (gi c 1) (gl c 0).length = true from by simp [idxOk]; omega]
    simp only [cond_true]
    refine ⟨_, _, rfl, ⟨h1, ?_, ?_⟩, (bAnd_le _ (by decide) (by decide)).1, (bAnd_le _ (by decide) (by decide)).2, rfl⟩
    · show 0 ≤ IntKind.i64.wrap (gi c 1 + 1)
      rw [wr64' (by omega) (by omega)]; omega
    · show IntKind.i64.wrap (gi c 1 + 1) ≤ _
      rw [wr64' (by omega) (by omega)]; show gi c 1 + 1 ≤ (((gl c 0).length : Nat) : Int); omega
  · rw [decide_eq_false hc]
    simp only [cond_false]
    exact ⟨_, _, rfl, ⟨h1, h2, h3⟩, (bAnd_le _ (by decide) (by decide)).1, (bAnd_le _ (by decide) (by decide)).2, rfl⟩
theorem tmod_lt {x n : Int} (hx : 0 ≤ x) (hn : 0 < n) : 0 ≤ x.tmod n ∧ x.tmod n < n := by
  rw [Int.tmod_eq_emod_of_nonneg hx]
  exact ⟨Int.emod_nonneg _ (by omega), Int.emod_lt_of_pos _ hn⟩
theorem below_ok {c : V} (h : CurOk c) {n : Int} (hn : 0 < n) : ∃ x c', spec_l1Below (n_spec_l1Cur c) n = some (x, c') ∧ CurOk c' ∧ 0 ≤ x ∧ x < n := by
  unfold spec_l1Below
  rw [decide_eq_false (p := n ≤ 0) (by omega), decide_eq_false (p := n = 0) (by omega)]
  simp only [cond_false, show n_spec_l1Cur (n_spec_l1Cur c) = n_spec_l1Cur c from rfl]
  obtain ⟨x, c', e, h', x0, x1, -⟩ := byte_ok h
  by_cases h2 : n ≤ 256
  · rw [decide_eq_true h2, e]
    exact ⟨_, _, rfl, h', (tmod_lt x0 hn).1, (tmod_lt x0 hn).2⟩
  · rw [decide_eq_false h2, e]
    obtain ⟨x2, c2, e2, h2', y0, y1, -⟩ := byte_ok h'
    obtain ⟨x3, c3, e3, h3', z0', z1, -⟩ := byte_ok h2'
    obtain ⟨x4, c4, e4, h4', w0, w1, -⟩ := byte_ok h3'
    simp only [Option.bind_some, e2, e3, e4, cond_false, Bool.not_false, cond_true]
    have hs : IntKind.i64.wrap (IntKind.i64.wrap (IntKind.i64.wrap (IntKind.i64.wrap (x * 16777216) + IntKind.i64.wrap (x2 * 65536)) + IntKind.i64.wrap (x3 * 256)) + x4) = x * 16777216 + x2 * 65536 + x3 * 256 + x4 := by
      rw [wr64' (n := x * 16777216) (by omega) (by omega), wr64' (n := x2 * 65536) (by omega) (by omega), wr64' (n := x3 * 256) (by omega) (by omega), wr64' (n := x * 16777216 + x2 * 65536) (by omega) (by omega), wr64' (n := x * 16777216 + x2 * 65536 + x3 * 256) (by omega) (by omega), wr64' (by omega) (by omega)]
    rw [hs]
    have hm := tmod_lt (x := x * 16777216 + x2 * 65536 + x3 * 256 + x4) (by omega) hn
    exact ⟨_, _, rfl, h4', hm.1, hm.2⟩
theorem once_ok {c : V} (h : CurOk c) {n : Int} (hn : 0 < n) : ∃ b c', spec_l1Once (n_spec_l1Cur c) n = some (b, c') ∧ CurOk c' := by
  obtain ⟨x, c', e, h', -, -⟩ := below_ok h hn
  unfold spec_l1Once
  rw [show n_spec_l1Cur (n_spec_l1Cur c) = n_spec_l1Cur c from rfl, e]
  exact ⟨_, _, rfl, h'⟩
theorem pick_ok {c : V} (h : CurOk c) {l : List V} (hl : 0 < l.length) : ∃ j c', spec_l1PickInt (n_spec_l1Cur c) l = some (gi (rd l j) 0, c') ∧ CurOk c' ∧ j < l.length := by
  obtain ⟨x, c', e, h', x0, x1⟩ := below_ok h (n := ((l.length : Nat) : Int)) (by omega)
  unfold spec_l1PickInt
  rw [show n_spec_l1Cur (n_spec_l1Cur c) = n_spec_l1Cur c from rfl, e]
  simp only [Option.bind_some]
  rw [show idxOk x l.length = true from by simp [idxOk]; omega]
  exact ⟨x.toNat, _, rfl, h', by omega⟩
theorem new_ok {code : List V} (h : LW W_byte code) : ∃ c, spec_l1New code = some c ∧ CurOk c := by
  unfold spec_l1New
  rw [fuel_eq]
  have key := loop_run0 (F := fun m s i => spec_l1New_l3 m code s i) (n := code.length) (I := fun _ _ => True) (Q := fun r => ∃ s, r = some (code, s)) ?_ ?_ (s := IntKind.i64.wrap (36565 + ((code.length : Nat) : Int))) trivial
  · obtain ⟨s, e⟩ := key
    refine ⟨_, congrArg (fun o => Option.bind o _) e, h, by show (0 : Int) ≤ 0; decide, by show (0 : Int) ≤ ((code.length : Nat) : Int); omega⟩
  · intro m i s hi _
    simp only [spec_l1New_l3, lt_nat hi, idxOk_nat hi, cond_true, wr_succ hi h.1]
    by_cases h4 : (i : Int) < 4000
    · rw [decide_eq_true h4]; exact .inl ⟨_, rfl, trivial⟩
    · rw [decide_eq_false h4]; exact .inr ⟨_, rfl⟩
  · intro m s _
    simp only [spec_l1New_l3, lt_self, cond_false]
    exact ⟨_, rfl⟩
end Go.Eng.R
open Go Go.Eng
namespace Go.Eng.R
theorem draw_ok {c : V} (h : CurOk c) : ∃ w c', spec_l7draw (n_spec_l1Cur c) = some (w, c') ∧ CurOk c' ∧ W_Wheel w ∧ (gl w 1).length ≤ 40 ∧ 0 ≤ gi w 0 ∧ gi w 0 ≤ 20 := by
  unfold spec_l7draw
  obtain ⟨x, c1, e1, h1, x0, x1⟩ := below_ok h (n := 20) (by decide)
  obtain ⟨y, c2, e2, h2, y0, y1⟩ := below_ok h1 (n := 8) (by decide)
  simp only [show n_spec_l1Cur (n_spec_l1Cur c) = n_spec_l1Cur c from rfl, e1, e2, Option.bind_some]
  obtain ⟨n, rfl⟩ : ∃ n : Nat, y = (n : Int) := ⟨y.toNat, by omega⟩
  rw [fuel_eq]
  have key := loop_run0 (σ := V × V × V × List V) (F := fun m s i => spec_l7draw_l4 m ((n : Nat) : Int) i (n_spec_l1Cur s.1) s.2.1 s.2.2.1 [] s.2.2.2) (n := n)
    (I := fun _ s => CurOk s.1 ∧ gi s.2.2.1 0 = x ∧ LW W_Timer s.2.2.2 ∧ s.2.2.2.length ≤ 40)
    (Q := fun r => ∃ c3 b1 b2 l, r = some (c3, b1, b2, [], l) ∧ CurOk c3 ∧ gi b2 0 = x ∧ LW W_Timer l ∧ l.length ≤ 40) ?_ ?_
    (s := (c2, V.agg [(V.int .i64 0), (V.sl 3 t_impl_Timer 0 none)], V.agg [(V.int .i64 x), (V.sl 4 t_impl_Timer 0 none)], [])) ⟨h2, rfl, LW.nil, Nat.zero_le _⟩
  · obtain ⟨c3, b1, b2, l, e, k1, k2, k3, k4⟩ := key
    refine ⟨_, _, congrArg (fun o => Option.bind o _) e, k1, ⟨?_, k3⟩, k4, ?_, ?_⟩
    · show I64 (gi b2 0); rw [k2]; exact ⟨by omega, by omega⟩
    · show 0 ≤ gi b2 0; omega
    · show gi b2 0 ≤ 20; omega
  · rintro m i ⟨c0, b1, b2, l⟩ hi ⟨k1, k2, k3, k4⟩
    simp only [] at k1 k2 k3 k4
    left
    simp only [spec_l7draw_l4, lt_nat hi, cond_true, wr_succ hi (by omega), show n_spec_l1Cur (n_spec_l1Cur c0) = n_spec_l1Cur c0 from rfl]
    obtain ⟨p, c4, e4, h4, p0, p1⟩ := below_ok k1 (n := 9) (by decide)
    obtain ⟨q, c5, e5, h5, q0, q1⟩ := below_ok h4 (n := 12) (by decide)
    simp only [e4, e5, Option.bind_some]
    have hw : W_Wheel (V.agg [(V.int .i64 (gi b2 0)), (V.inl t_impl_Timer l)]) := ⟨by show I64 (gi b2 0); rw [k2]; exact ⟨by omega, by omega⟩, k3⟩
    have hx := spec_set_eq (w := V.agg [(V.int .i64 (gi b2 0)), (V.inl t_impl_Timer l)]) (by show l.length ≤ _; omega) p (IntKind.i64.wrap (1 + q))
    rw [show n_impl_Wheel (V.agg [(V.int .i64 (gi b2 0)), (V.inl t_impl_Timer l)]) = V.agg [(V.int .i64 (gi b2 0)), (V.inl t_impl_Timer l)] from rfl] at hx
    rw [hx]
    have hq : IntKind.i64.wrap (1 + q) = 1 + q := wr64' (by omega) (by omega)
    rw [hq]
    simp only [Option.bind_some]
    by_cases hc : 0 ≤ p ∧ p ≤ 2147483647 ∧ 1 ≤ 1 + q ∧ 1 + q ≤ 1000000 ∧ (0 ≤ fT (gl (V.agg [(V.int .i64 (gi b2 0)), (V.inl t_impl_Timer l)]) 1) p ∨ (gl (V.agg [(V.int .i64 (gi b2 0)), (V.inl t_impl_Timer l)]) 1).length < 40)
    · rw [decide_eq_true hc]
      obtain ⟨s1, s2⟩ := setW_W hw (by show l.length ≤ _; omega) (id := p) ⟨by omega, by omega⟩ (after := 1 + q) (by show I64 (gi b2 0 + (1 + q)); rw [k2]; exact ⟨by omega, by omega⟩)
      refine ⟨(c5, _, _, _), rfl, h5, k2, s1.2, ?_⟩
      rcases hc.2.2.2.2 with hc | hc
      · have hp := putL_perm (stopL l p) (mkT (V.agg [(V.int .i64 (gi b2 0)), (V.inl t_impl_Timer l)]) p (1 + q))
        have hs : (stopL l p).length + 1 = l.length := by
          rcases stopL_cases l p with ⟨e, -, -⟩ | ⟨k, e, e1, e2, e3⟩
          · rw [show gl (V.agg [(V.int .i64 (gi b2 0)), (V.inl t_impl_Timer l)]) 1 = l from rfl, e] at hc
            exact absurd hc (by decide)
          · rw [e3]; simp; omega
        show (putL (stopL l p) (mkT (V.agg [(V.int .i64 (gi b2 0)), (V.inl t_impl_Timer l)]) p (1 + q))).length ≤ 40
        rw [← hp.length_eq]; simp; omega
      · have hc : l.length < 40 := hc
        have s2 : (gl (setW (V.agg [(V.int .i64 (gi b2 0)), (V.inl t_impl_Timer l)]) p (1 + q)) 1).length ≤ l.length + 1 := s2
        show (gl (setW (V.agg [(V.int .i64 (gi b2 0)), (V.inl t_impl_Timer l)]) p (1 + q)) 1).length ≤ 40
        omega
    · rw [decide_eq_false hc]
      exact ⟨(c5, _, _, _), rfl, h5, k2, k3, k4⟩
  · rintro m ⟨c0, b1, b2, l⟩ ⟨k1, k2, k3, k4⟩
    simp only [spec_l7draw_l4, lt_self, cond_false]
    exact ⟨_, _, _, _, rfl, k1, k2, k3, k4⟩
theorem LW.snoc {W : V → Prop} {l : List V} {x : V} (h : LW W l) (hl : l.length < 9223372036854775807) (hx : W x) : LW W (l ++ [x]) := by
  refine ⟨by simp; omega, fun y hy => ?_⟩
  rcases List.mem_append.1 hy with hy | hy
  · exact h.2 y hy
  · simp at hy; subst hy; exact hx
theorem LW.set' {W : V → Prop} {l : List V} {x : V} (h : LW W l) (j : Nat) (hx : W x) : LW W (l.set j x) := by
  refine ⟨by simpa using h.1, fun y hy => ?_⟩
  rcases List.mem_or_eq_of_mem_set hy with hy | hy
  · exact h.2 y hy
  · subst hy; exact hx
theorem bent_ok {c : V} (h : CurOk c) : ∃ w c', spec_l7bent (n_spec_l1Cur c) = some (w, c') ∧ CurOk c' ∧ W_Wheel w ∧ (gl w 1).length ≤ 41 ∧ n_impl_Wheel w = w := by
  unfold spec_l7bent
  obtain ⟨w, c1, e1, h1, k1, k2, k3, k4⟩ := draw_ok h
  obtain ⟨b, c2, e2, h2⟩ := once_ok h1 (n := 7) (by decide)
  simp only [show n_spec_l1Cur (n_spec_l1Cur c) = n_spec_l1Cur c from rfl, e1, e2, Option.bind_some]
  cases b with
  | false => exact ⟨_, _, rfl, h2, k1, by show (gl w 1).length ≤ 41; omega, rfl⟩
  | true =>
    obtain ⟨y, c3, e3, h3, y0, y1⟩ := below_ok h2 (n := 5) (by decide)
    simp only [e3, Option.bind_some, Bool.not_true, cond_false]
    by_cases g0 : y = 0
    · rw [decide_eq_true g0]
      obtain ⟨j, c4, e4, h4, hj⟩ := pick_ok h3 (l := [(V.int .i64 (-1)), (V.int .i64 1000000), (V.int .i64 1000001), (V.int .i64 30)]) (by decide)
      rw [e4]
      refine ⟨_, _, rfl, h4, ⟨?_, k1.2⟩, by show (gl w 1).length ≤ 41; omega, rfl⟩
      show I64 (gi (rd _ j) 0)
      have : j = 0 ∨ j = 1 ∨ j = 2 ∨ j = 3 := by simp at hj; omega
      rcases this with rfl | rfl | rfl | rfl <;> exact ⟨by decide, by decide⟩
    rw [decide_eq_false g0]
    simp only [cond_false]
    by_cases g1 : y = 1
    · rw [decide_eq_true g1]
      obtain ⟨q, c4, e4, h4, q0, q1⟩ := below_ok h3 (n := 9) (by decide)
      simp only [e4, Option.bind_some, cond_true]
      rw [roomy_of (by omega) (by omega)]
      refine ⟨_, _, rfl, h4, ⟨k1.1, LW.snoc k1.2 (by omega) ⟨⟨by show _ ≤ q; omega, by show q ≤ _; omega⟩, (⟨by decide, by decide⟩ : I64 99)⟩⟩, by show (gl w 1 ++ [_]).length ≤ 41; simp; omega, rfl⟩
    rw [decide_eq_false g1]
    simp only [cond_false]
    by_cases g2 : y = 2
    · rw [decide_eq_true g2]
      by_cases g4 : (0 : Int) < (((gl w 1).length : Nat) : Int)
      · obtain ⟨j, c4, e4, h4, hj⟩ := pick_ok h3 (l := [(V.int .i64 0), (V.int .i64 (gi w 0)), (V.int .i64 2000000), (V.int .i64 2000001)]) (by simp)
        simp only [decide_eq_true g4, e4, Option.bind_some, cond_true]
        rw [show idxOk 0 (gl w 1).length = true from idxOk_nat (i := 0) (by omega)]
        refine ⟨_, _, rfl, h4, ⟨k1.1, LW.set' k1.2 _ ⟨(LW.rd k1.2 (i := 0) (by omega)).1, ?_⟩⟩, by show ((gl w 1).set 0 _).length ≤ 41; simp; omega, rfl⟩
        show I64 (gi (rd _ j) 0)
        have : j = 0 ∨ j = 1 ∨ j = 2 ∨ j = 3 := by simp at hj; omega
        rcases this with rfl | rfl | rfl | rfl
        · exact (⟨by decide, by decide⟩ : I64 0)
        · exact k1.1
        · exact (⟨by decide, by decide⟩ : I64 2000000)
        · exact (⟨by decide, by decide⟩ : I64 2000001)
      · rw [decide_eq_false g4]
        exact ⟨_, _, rfl, h3, k1, by show (gl w 1).length ≤ 41; omega, rfl⟩
    rw [decide_eq_false g2]
    simp only [cond_false]
    by_cases g3 : y = 3
    · rw [decide_eq_true g3]
      by_cases g4 : (0 : Int) < (((gl w 1).length : Nat) : Int)
      · rw [decide_eq_true g4, show idxOk 0 (gl w 1).length = true from idxOk_nat (i := 0) (by omega)]
        exact ⟨_, _, rfl, h3, ⟨k1.1, LW.set' k1.2 _ ⟨(⟨by decide, by decide⟩ : I64 (-1)), (LW.rd k1.2 (i := 0) (by omega)).2⟩⟩, by show ((gl w 1).set 0 _).length ≤ 41; simp; omega, rfl⟩
      · rw [decide_eq_false g4]
        exact ⟨_, _, rfl, h3, k1, by show (gl w 1).length ≤ 41; omega, rfl⟩
    rw [decide_eq_false g3]
    simp only [cond_false]
    have key : ∀ m (i : Int) (c0 b1 b2 : V) (l : List V), CurOk c0 → gi b2 0 = gi w 0 → LW W_Timer l → l.length ≤ 41 → 42 - l.length < m → 0 ≤ i → i + m ≤ 100 →
        ∃ c' b1' b2' l', spec_l7bent_l6 m i (n_spec_l1Cur c0) b1 b2 [] l = some (c', b1', b2', [], l') ∧ CurOk c' ∧ gi b2' 0 = gi w 0 ∧ LW W_Timer l' ∧ l'.length ≤ 41 := by
      intro m
      induction m with
      | zero => intro i c0 b1 b2 l _ _ _ _ hm; omega
      | succ m ih =>
        intro i c0 b1 b2 l p1 p2 p3 p4 p5 p6 p7
        obtain ⟨q, c4, e4, h4, q0, q1⟩ := below_ok p1 (n := 2) (by decide)
        simp only [spec_l7bent_l6, show n_spec_l1Cur (n_spec_l1Cur c0) = n_spec_l1Cur c0 from rfl, e4, Option.bind_some]
        rw [wr64' (n := 40 + q) (by omega) (by omega)]
        by_cases hq : ((l.length : Nat) : Int) < 40 + q
        · rw [decide_eq_true hq, roomy_of (by omega) (by omega), wr64' (n := i + 1) (by omega) (by omega)]
          simp only [cond_true, Bool.and_self]
          exact ih (i + 1) c4 _ _ _ h4 p2 (LW.snoc p3 (by omega) ⟨by show I64 (IntKind.i64.wrap (100 + i)); rw [wr64' (by omega) (by omega)]; exact ⟨by omega, by omega⟩, by show I64 (IntKind.i64.wrap (500 + i)); rw [wr64' (by omega) (by omega)]; exact ⟨by omega, by omega⟩⟩) (by simp; omega) (by simp; omega) (by omega) (by omega)
        · rw [decide_eq_false hq]
          exact ⟨_, _, _, _, rfl, h4, p2, p3, p4⟩
    obtain ⟨c4, b1, b2, l, e, p1, p2, p3, p4⟩ := key (42 - (gl w 1).length + 1) 0 c3 (V.agg [(V.int .i64 0), (V.sl 3 t_impl_Timer 0 none)]) (V.agg [(V.int .i64 (gi w 0)), (V.sl 4 t_impl_Timer 0 none)]) (gl w 1) h3 rfl k1.2 (by omega) (by omega) (by omega) (by omega)
    refine ⟨_, _, congrArg (fun o => Option.bind o _) e, p1, ⟨?_, p3⟩, p4, rfl⟩
    show I64 (gi b2 0)
    rw [p2]; exact k1.1
theorem wset_ok {code : List V} (h : LW W_byte code) : ∃ w id after, spec_DrawWheelSet code = some (w, id, after) ∧ W_Wheel w ∧ (gl w 1).length ≤ 41 ∧ I64 id ∧ I64 after ∧ n_impl_Wheel w = w := by
  unfold spec_DrawWheelSet
  obtain ⟨c, e, hc⟩ := new_ok h
  obtain ⟨w, c1, e1, h1, k1, k2, k3⟩ := bent_ok hc
  simp only [e, e1, Option.bind_some]
  obtain ⟨j, c2, e2, h2, hj⟩ := pick_ok h1 (l := [(V.int .i64 0), (V.int .i64 1), (V.int .i64 2), (V.int .i64 3), (V.int .i64 50), (V.int .i64 (-1)), (V.int .i64 2147483647), (V.int .i64 2147483648)]) (by decide)
  simp only [e2, Option.bind_some]
  obtain ⟨j', c3, e3, h3, hj'⟩ := pick_ok h2 (l := [(V.int .i64 1), (V.int .i64 2), (V.int .i64 5), (V.int .i64 9), (V.int .i64 0), (V.int .i64 (-1)), (V.int .i64 1000000), (V.int .i64 1000001)]) (by decide)
  simp only [e3, Option.bind_some]
  refine ⟨_, _, _, rfl, k1, k2, ?_, ?_, rfl⟩
  · have : j = 0 ∨ j = 1 ∨ j = 2 ∨ j = 3 ∨ j = 4 ∨ j = 5 ∨ j = 6 ∨ j = 7 := by simp at hj; omega
    rcases this with rfl | rfl | rfl | rfl | rfl | rfl | rfl | rfl <;> exact ⟨by decide, by decide⟩
  · have : j' = 0 ∨ j' = 1 ∨ j' = 2 ∨ j' = 3 ∨ j' = 4 ∨ j' = 5 ∨ j' = 6 ∨ j' = 7 := by simp at hj'; omega
    rcases this with rfl | rfl | rfl | rfl | rfl | rfl | rfl | rfl <;> exact ⟨by decide, by decide⟩
end Go.Eng.R
open Go Go.Eng
namespace Go.Eng.R
theorem mem_rd {l : List V} {x : V} (h : x ∈ l) : ∃ j, j < l.length ∧ rd l j = x := by
  obtain ⟨j, hj, rfl⟩ := List.getElem_of_mem h
  exact ⟨j, hj, rd_eq hj⟩
theorem rd_mem {l : List V} {j : Nat} (h : j < l.length) : rd l j ∈ l := by rw [rd_eq h]; exact List.getElem_mem h
theorem okW_all {w : V} (h : okW w = true) : ∀ x ∈ gl w 1, 0 ≤ gi x 0 ∧ gi x 0 ≤ 2147483647 ∧ gi w 0 < gi x 1 ∧ gi x 1 ≤ 2000000 := by
  intro x hx
  obtain ⟨j, hj, rfl⟩ := mem_rd hx
  unfold okW at h
  simp only [Bool.and_eq_true, decide_eq_true_eq, List.all_eq_true, List.mem_range] at h
  have := h.2 j hj
  unfold okT at this
  simp only [Bool.and_eq_true, decide_eq_true_eq] at this
  exact this.1
theorem okW_intro {w : V} (h1 : 0 ≤ gi w 0 ∧ gi w 0 ≤ 1000000 ∧ (gl w 1).length ≤ 40) (h2 : ∀ x ∈ gl w 1, 0 ≤ gi x 0 ∧ gi x 0 ≤ 2147483647 ∧ gi w 0 < gi x 1 ∧ gi x 1 ≤ 2000000) (hg : Good (gl w 1)) : okW w = true := by
  unfold okW
  rw [decide_eq_true h1, Bool.true_and, List.all_eq_true]
  intro i hi
  have hi := List.mem_range.1 hi
  unfold okT
  rw [decide_eq_true (h2 _ (rd_mem hi)), Bool.true_and]
  have ha := hg.asc
  have hd := hg.ids
  rw [List.pairwise_iff_getElem] at ha hd
  have hx : (decide (i = 0) || ltT (rd (gl w 1) (i - 1)) (rd (gl w 1) i)) = true := by
    by_cases h0 : i = 0
    · simp [h0]
    · rw [rd_eq (show i - 1 < (gl w 1).length by omega), rd_eq hi, ha (i - 1) i (by omega) hi (by omega)]
      simp
  rw [hx, Bool.true_and, decide_eq_true_eq]
  have hlen : ((gl w 1).take i).length = i := by simp; omega
  rcases fT_cases ((gl w 1).take i) (gi (rd (gl w 1) i) 0) with ⟨e, -⟩ | ⟨k, e, k1, k2, -⟩
  · omega
  · exfalso
    rw [rd_take (by omega), rd_eq (show k < (gl w 1).length by omega), rd_eq hi] at k2
    exact hd k i (by omega) hi (by omega) k2
theorem setW_good {w : V} {id after : Int} (hg : Good (gl w 1)) : Good (gl (setW w id after) 1) := by
  have hs := hg.sub (stopL_sub (gl w 1) id)
  refine ⟨putL_good hs (t := mkT w id after) (stopL_no hg), ?_⟩
  have hp := putL_perm (stopL (gl w 1) id) (mkT w id after)
  show (putL (stopL (gl w 1) id) (mkT w id after)).Pairwise fun a b => gi a 0 ≠ gi b 0
  refine (hp.pairwise_iff (fun h => Ne.symm h)).1 ?_
  rw [List.pairwise_append]
  refine ⟨hs.ids, by simp, fun a ha b hb => ?_⟩
  simp at hb
  subst hb
  exact stopL_no hg a ha
theorem setW_mem {w x : V} {id after : Int} : x ∈ gl (setW w id after) 1 ↔ x ∈ stopL (gl w 1) id ∨ x = mkT w id after := by
  have hp := putL_perm (stopL (gl w 1) id) (mkT w id after)
  show x ∈ putL (stopL (gl w 1) id) (mkT w id after) ↔ _
  rw [← hp.mem_iff]; simp
def canSet (w : V) (id after : Int) : Prop := 0 ≤ id ∧ id ≤ 2147483647 ∧ 1 ≤ after ∧ after ≤ 1000000 ∧ (0 ≤ fT (gl w 1) id ∨ (gl w 1).length < 40)
theorem setW_ok {w : V} (hw : W_Wheel w) (h : okW w = true) {id after : Int} (hc : canSet w id after) : okW (setW w id after) = true ∧ W_Wheel (setW w id after) := by
  obtain ⟨h1, h2, h3, hg⟩ := okW_spec h
  obtain ⟨c1, c2, c3, c4, c5⟩ := hc
  have hWW := setW_W hw (by omega) (id := id) ⟨by omega, by omega⟩ (after := after) ⟨by omega, by omega⟩
  refine ⟨okW_intro ⟨h1, h2, ?_⟩ ?_ (setW_good hg), hWW.1⟩
  · rcases c5 with hc | hc
    · have hp := putL_perm (stopL (gl w 1) id) (mkT w id after)
      have hs : (stopL (gl w 1) id).length + 1 = (gl w 1).length := by
        rcases stopL_cases (gl w 1) id with ⟨e, -, -⟩ | ⟨k, e, e1, e2, e3⟩
        · rw [e] at hc; exact absurd hc (by decide)
        · rw [e3]; simp; omega
      show (putL (stopL (gl w 1) id) (mkT w id after)).length ≤ 40
      rw [← hp.length_eq]; simp; omega
    · have := hWW.2; omega
  · intro x hx
    rcases setW_mem.1 hx with hx | rfl
    · exact okW_all h x ((stopL_sub _ _).mem hx)
    · show 0 ≤ id ∧ id ≤ 2147483647 ∧ gi w 0 < IntKind.i64.wrap (gi w 0 + after) ∧ IntKind.i64.wrap (gi w 0 + after) ≤ 2000000
      rw [wr64' (by omega) (by omega)]
      omega
theorem own_eq {w : V} (hl : (gl w 1).length ≤ 4194303) : impl_Wheel_own (n_impl_Wheel w) = some (n_impl_Wheel w) := by
  unfold impl_Wheel_own slices_Clone_Timer
  rw [show gl (n_impl_Wheel w) 1 = gl w 1 from rfl, roomy_of (by omega) (by omega)]
  rfl
theorem stop_b {w : V} (hl : (gl w 1).length ≤ 4194304) {id : Int} {b : Bool} {s : V} (h : impl_Wheel_stop (n_impl_Wheel w) id = some (b, s)) : b = decide (0 ≤ fT (gl w 1) id) := by
  unfold impl_Wheel_stop at h
  rw [show n_impl_Wheel (n_impl_Wheel w) = n_impl_Wheel w from rfl, timer_eq (by omega)] at h
  simp only [Option.bind_some] at h
  by_cases hc : 0 ≤ fT (gl w 1) id
  · rw [decide_eq_true hc] at h ⊢
    simp only [cond_true] at h
    obtain ⟨r, -, h⟩ := Option.bind_eq_some_iff.1 h
    cases h; rfl
  · rw [decide_eq_false hc] at h ⊢
    simp only [cond_false] at h
    cases h; rfl
def dueL (m : Int) (l : List V) : List V := l.takeWhile fun x => decide (gi x 1 ≤ m)
def restL (m : Int) (l : List V) : List V := l.dropWhile fun x => decide (gi x 1 ≤ m)
def idsL (l : List V) : List V := l.map fun x => V.int .i64 (gi x 0)
theorem due_rest (m : Int) (l : List V) : dueL m l ++ restL m l = l := List.takeWhile_append_dropWhile
theorem due_two {m m' : Int} (h : m ≤ m') : ∀ l : List V, dueL m' l = dueL m l ++ dueL m' (restL m l) ∧ restL m' l = restL m' (restL m l)
  | [] => ⟨rfl, rfl⟩
  | x :: l => by
    obtain ⟨i1, i2⟩ := due_two h l
    unfold dueL restL at *
    by_cases hx : gi x 1 ≤ m
    · have hx' : gi x 1 ≤ m' := by omega
      simp only [List.takeWhile_cons, List.dropWhile_cons, decide_eq_true hx, decide_eq_true hx', if_true, List.cons_append]
      exact ⟨by rw [i1], i2⟩
    · simp only [List.takeWhile_cons, List.dropWhile_cons, decide_eq_false hx, Bool.false_eq_true, if_false, List.nil_append]
      exact ⟨trivial, trivial⟩
theorem due_mem {m : Int} : ∀ {l : List V}, (l.Pairwise fun a b => gi a 1 ≤ gi b 1) → ∀ x, (x ∈ dueL m l ↔ x ∈ l ∧ gi x 1 ≤ m) ∧ (x ∈ restL m l ↔ x ∈ l ∧ m < gi x 1)
  | [], _, x => by simp [dueL, restL]
  | y :: l, hp, x => by
    rw [List.pairwise_cons] at hp
    obtain ⟨i1, i2⟩ := due_mem (m := m) hp.2 x
    unfold dueL restL at *
    by_cases hy : gi y 1 ≤ m
    · simp only [List.takeWhile_cons, List.dropWhile_cons, decide_eq_true hy, if_true, List.mem_cons]
      rw [i1, i2]
      refine ⟨?_, ?_⟩
      · constructor
        · rintro (rfl | ⟨h1, h2⟩)
          · exact ⟨.inl rfl, hy⟩
          · exact ⟨.inr h1, h2⟩
        · rintro ⟨rfl | h1, h2⟩
          · exact .inl rfl
          · exact .inr ⟨h1, h2⟩
      · constructor
        · rintro ⟨h1, h2⟩; exact ⟨.inr h1, h2⟩
        · rintro ⟨rfl | h1, h2⟩
          · omega
          · exact ⟨h1, h2⟩
    · simp only [List.takeWhile_cons, List.dropWhile_cons, decide_eq_false hy, Bool.false_eq_true, if_false, List.mem_cons]
      have hall : x = y ∨ x ∈ l → m < gi x 1 := by
        rintro (rfl | h)
        · omega
        · have := hp.1 x h; omega
      refine ⟨⟨fun h => by simp at h, fun h => ?_⟩, ⟨fun h => ⟨h, hall h⟩, fun h => h.1⟩⟩
      have := hall h.1; omega
theorem Good.ats {l : List V} (h : Good l) : l.Pairwise fun a b => gi a 1 ≤ gi b 1 := h.asc.imp fun {a b} hab => by
  rw [ltT_iff] at hab; omega
theorem tick_loop (m : Int) : ∀ (k : Nat) (l acc : List V), l.length < k → acc.length + l.length ≤ 1000 → impl_Wheel_tick_l3 k (V.agg [.int .i64 m, .inl t_impl_Timer l]) acc = some (V.agg [.int .i64 m, .inl t_impl_Timer (restL m l)], acc ++ idsL (dueL m l))
  | 0, l, acc, h, _ => by omega
  | k + 1, [], acc, h, h2 => by
    simp only [impl_Wheel_tick_l3, show gl (V.agg [.int .i64 m, .inl t_impl_Timer []]) 1 = [] from rfl]
    simp [restL, dueL, idsL]
    rfl
  | k + 1, x :: l, acc, h, h2 => by
    simp only [impl_Wheel_tick_l3, show gl (V.agg [.int .i64 m, .inl t_impl_Timer (x :: l)]) 1 = x :: l from rfl, show gi (V.agg [.int .i64 m, .inl t_impl_Timer (x :: l)]) 0 = m from rfl, show rd (x :: l) 0 = x from rfl]
    simp only [List.length_cons] at h h2
    rw [decide_eq_true (p := (0 : Int) < (((x :: l).length : Nat) : Int)) (by simp), show idxOk 0 (x :: l).length = true from idxOk_nat (i := 0) (by simp), decide_eq_true (p := (1 : Int) ≤ (((x :: l).length : Nat) : Int)) (by simp; omega), roomy_of (by omega) (by omega)]
    simp only [cond_true, Bool.and_self]
    by_cases hx : gi x 1 ≤ m
    · rw [decide_eq_true hx]
      simp only [cond_true]
      rw [show List.drop 1 (x :: l) = l from rfl, tick_loop m k l _ (by omega) (by simp; omega)]
      have e1 : dueL m (x :: l) = x :: dueL m l := by unfold dueL; rw [List.takeWhile_cons, decide_eq_true hx]; rfl
      have e2 : restL m (x :: l) = restL m l := by unfold restL; rw [List.dropWhile_cons, decide_eq_true hx]; rfl
      rw [e1, e2]
      simp [idsL]
    · rw [decide_eq_false hx]
      have e1 : dueL m (x :: l) = [] := by unfold dueL; rw [List.takeWhile_cons, decide_eq_false hx]; rfl
      have e2 : restL m (x :: l) = x :: l := by unfold restL; rw [List.dropWhile_cons, decide_eq_false hx]; rfl
      rw [e1, e2]
      simp [idsL]
      rfl
def tickW (w : V) (n : Int) : V := V.agg [.int .i64 (gi w 0 + n), .inl t_impl_Timer (restL (gi w 0 + n) (gl w 1))]
theorem tick_eq {w : V} (hw : W_Wheel w) (h : okW w = true) {n : Int} (h0 : 0 ≤ n) (h1 : n ≤ 1000000 - gi w 0) :
    impl_WheelTick (n_impl_Wheel w) n = some (tickW w n, idsL (dueL (gi w 0 + n) (gl w 1))) ∧ okW (tickW w n) = true ∧ W_Wheel (tickW w n) := by
  obtain ⟨g1, g2, g3, hg⟩ := okW_spec h
  refine ⟨?_, okW_intro ⟨by show 0 ≤ gi w 0 + n; omega, by show gi w 0 + n ≤ _; omega, ?_⟩ ?_ (hg.sub ?_), ⟨⟨by show _ ≤ gi w 0 + n; omega, by show gi w 0 + n ≤ _; omega⟩, ?_, ?_⟩⟩
  · unfold impl_WheelTick
    simp only [show n_impl_Wheel (n_impl_Wheel w) = n_impl_Wheel w from rfl, impl_WheelOk_eq hw, h, own_eq (w := w) (by omega), Option.bind_some, Bool.not_true, cond_false, show gi (n_impl_Wheel w) 0 = gi w 0 from rfl]
    rw [wr64' (n := 1000000 - gi w 0) (by omega) (by omega), within_eq, decide_eq_true ⟨h0, h1⟩]
    simp only [Bool.not_true, cond_false]
    unfold impl_Wheel_tick
    rw [show gi (n_impl_Wheel w) 0 = gi w 0 from rfl, show gl (n_impl_Wheel w) 1 = gl w 1 from rfl, wr64' (n := gi w 0 + n) (by omega) (by omega), show gl (V.agg [V.int .i64 (gi w 0 + n), V.inl t_impl_Timer (gl w 1)]) 1 = gl w 1 from rfl, fuel_eq, tick_loop _ _ _ _ (by omega) (by simp; omega)]
    rfl
  · show (restL (gi w 0 + n) (gl w 1)).length ≤ 40
    have : (restL (gi w 0 + n) (gl w 1)).length ≤ (gl w 1).length := (List.dropWhile_suffix _).sublist.length_le
    omega
  · intro x hx
    have hx := (due_mem hg.ats x).2.1 hx
    have := okW_all h x hx.1
    show _ ∧ _ ∧ gi w 0 + n < gi x 1 ∧ _
    exact ⟨this.1, this.2.1, hx.2, this.2.2.2⟩
  · exact (List.dropWhile_suffix _).sublist
  · show (restL (gi w 0 + n) (gl w 1)).length ≤ _
    have : (restL (gi w 0 + n) (gl w 1)).length ≤ (gl w 1).length := (List.dropWhile_suffix _).sublist.length_le
    omega
  · intro x hx
    exact hw.2.2 x ((List.dropWhile_suffix _).sublist.mem hx)
end Go.Eng.R
open Go Go.Eng
namespace Go.Eng.R
theorem same_eq {w : V} (hl : (gl w 1).length ≤ 9223372036854775807) : laws_sameWheel (n_impl_Wheel w) (n_impl_Wheel w) = some true := by
  unfold laws_sameWheel
  simp only [show n_impl_Wheel (n_impl_Wheel w) = n_impl_Wheel w from rfl, decide_true, Bool.not_true, cond_false, show gl (n_impl_Wheel w) 1 = gl w 1 from rfl]
  rw [fuel_eq, all_loopI (F := fun m i => laws_sameWheel_l4 m i (n_impl_Wheel w) (n_impl_Wheel w)) (n := (gl w 1).length) (q := fun _ => true) (yes := some (1, false)) (no := some (0, false)) ?_ ?_]
  · rw [show (List.range (gl w 1).length).all (fun _ => true) = true from by rw [List.all_eq_true]; intro x _; rfl]; rfl
  · intro m i hi
    simp only [laws_sameWheel_l4, show gl (n_impl_Wheel w) 1 = gl w 1 from rfl, show n_impl_Wheel (n_impl_Wheel w) = n_impl_Wheel w from rfl, lt_nat hi, idxOk_nat hi, Int.toNat_natCast, cond_true, wr_succ hi hl, decide_true, Bool.and_self, Bool.not_true, cond_false]
  · intro m; simp only [laws_sameWheel_l4, show gl (n_impl_Wheel w) 1 = gl w 1 from rfl, lt_self, cond_false]
open Classical in
theorem implSet_eq {w : V} (hw : W_Wheel w) (h : okW w = true) {id after : Int} (hid : I64 id) :
    (canSet w id after → impl_WheelSet (n_impl_Wheel w) id after = some (setW w id after, true)) ∧ (¬ canSet w id after → impl_WheelSet (n_impl_Wheel w) id after = some (n_impl_Wheel w, false)) := by
  obtain ⟨g1, g2, g3, g4⟩ := okW_spec h
  unfold impl_WheelSet canSet
  simp only [show n_impl_Wheel (n_impl_Wheel w) = n_impl_Wheel w from rfl, impl_WheelOk_eq hw, h, Option.bind_some, Bool.not_true, cond_false, own_eq (w := w) (by omega), impl_isId, within_eq, timer_eq (w := w) (by omega), impl_set_eq (w := w) (by omega) g4, show gl (n_impl_Wheel w) 1 = gl w 1 from rfl]
  by_cases h1 : 0 ≤ id ∧ id ≤ 2147483647
  case neg => rw [decide_eq_false h1]; exact ⟨fun hc => absurd ⟨hc.1, hc.2.1⟩ h1, fun _ => rfl⟩
  by_cases h2 : 1 ≤ after ∧ after ≤ 1000000
  case neg => rw [decide_eq_true h1, decide_eq_false h2]; exact ⟨fun hc => absurd ⟨hc.2.2.1, hc.2.2.2.1⟩ h2, fun _ => rfl⟩
  rw [decide_eq_true h1, decide_eq_true h2]
  by_cases h3 : fT (gl w 1) id < 0
  · rw [decide_eq_true h3]
    by_cases h4 : (((gl w 1).length : Nat) : Int) = 40
    · rw [decide_eq_true h4]; exact ⟨fun hc => by omega, fun _ => rfl⟩
    · rw [decide_eq_false h4]; exact ⟨fun _ => rfl, fun hc => absurd (by omega) hc⟩
  · rw [decide_eq_false h3]; exact ⟨fun _ => rfl, fun hc => absurd (by omega) hc⟩
theorem left_eq {w : V} (hw : W_Wheel w) (hl : (gl w 1).length ≤ 4194303) (id : Int) : ∃ r b, impl_WheelLeft (n_impl_Wheel w) id = some (r, b) ∧ (fT (gl w 1) id < 0 → b = false) ∧
    (okW w = true → 0 ≤ fT (gl w 1) id → b = true ∧ r = gi (rd (gl w 1) (fT (gl w 1) id).toNat) 1 - gi w 0) := by
  unfold impl_WheelLeft
  simp only [show n_impl_Wheel (n_impl_Wheel w) = n_impl_Wheel w from rfl, impl_WheelOk_eq hw, Option.bind_some]
  cases hok : okW w with
  | false => exact ⟨0, false, rfl, fun _ => rfl, fun h => by cases h⟩
  | true =>
    simp only [Bool.not_true, cond_false, timer_eq (w := w) (by omega), Option.bind_some]
    rcases fT_cases (gl w 1) id with ⟨e, h⟩ | ⟨k, e, h1, h2, h3⟩
    · rw [e]; exact ⟨0, false, rfl, fun _ => rfl, fun _ h => absurd h (by decide)⟩
    · rw [e, decide_eq_false (p := (k : Int) < 0) (by omega), show gl (n_impl_Wheel w) 1 = gl w 1 from rfl, idxOk_nat h1]
      simp only [cond_false, cond_true]
      have ha := okW_all hok _ (rd_mem h1)
      have hs := okW_spec hok
      refine ⟨_, _, rfl, fun h => by omega, fun _ _ => ⟨rfl, ?_⟩⟩
      rw [Int.toNat_natCast]
      show IntKind.i64.wrap (gi (rd (gl w 1) k) 1 - gi w 0) = _
      rw [wr64' (by omega) (by omega)]
theorem next_eq {w : V} (hw : W_Wheel w) (h : okW w = true) (h0 : 0 < (gl w 1).length) : impl_WheelNext (n_impl_Wheel w) = some (gi (rd (gl w 1) 0) 1 - gi w 0, true) := by
  have hs := okW_spec h
  have ha := okW_all h _ (rd_mem h0)
  unfold impl_WheelNext
  simp only [show n_impl_Wheel (n_impl_Wheel w) = n_impl_Wheel w from rfl, impl_WheelOk_eq hw, h, Option.bind_some, Bool.not_true, cond_false, show gl (n_impl_Wheel w) 1 = gl w 1 from rfl, show gi (n_impl_Wheel w) 0 = gi w 0 from rfl]
  rw [decide_eq_false (p := (((gl w 1).length : Nat) : Int) = 0) (by omega), show idxOk 0 (gl w 1).length = true from idxOk_nat (i := 0) h0, wr64' (by omega) (by omega)]
  rfl
theorem wstop_eq {w : V} (hw : W_Wheel w) (h : okW w = true) (id : Int) : impl_WheelStop (n_impl_Wheel w) id = some (V.agg [V.int .i64 (gi w 0), V.inl t_impl_Timer (stopL (gl w 1) id)], decide (0 ≤ fT (gl w 1) id)) := by
  have hs := okW_spec h
  obtain ⟨b, hb⟩ := impl_stop_eq (w := w) (by omega) id
  have := stop_b (by omega) hb
  subst this
  unfold impl_WheelStop
  simp only [show n_impl_Wheel (n_impl_Wheel w) = n_impl_Wheel w from rfl, impl_WheelOk_eq hw, h, Option.bind_some, Bool.not_true, cond_false, own_eq (w := w) (by omega), hb]
  rfl
theorem fT_of_mem {l : List V} (hd : l.Pairwise fun a b => gi a 0 ≠ gi b 0) {x : V} (hx : x ∈ l) : 0 ≤ fT l (gi x 0) ∧ rd l (fT l (gi x 0)).toNat = x := by
  obtain ⟨j, hj, rfl⟩ := mem_rd hx
  rcases fT_cases l (gi (rd l j) 0) with ⟨-, h⟩ | ⟨k, e, h1, h2, h3⟩
  · exact absurd rfl (h j hj)
  · rw [List.pairwise_iff_getElem] at hd
    have hkj : k = j := by
      rcases Nat.lt_trichotomy k j with c | c | c
      · rw [rd_eq h1, rd_eq hj] at h2; exact absurd h2 (hd k j h1 hj c)
      · exact c
      · exact absurd rfl (h3 j c)
    subst hkj
    rw [e]
    exact ⟨by omega, by rw [Int.toNat_natCast]⟩
theorem fT_neg_of {l : List V} {id : Int} (h : ∀ x ∈ l, gi x 0 ≠ id) : fT l id < 0 := by
  rcases fT_cases l id with ⟨e, -⟩ | ⟨k, e, h1, h2, h3⟩
  · rw [e]; decide
  · exact absurd h2 (h _ (rd_mem h1))
theorem at_ok {code : List V} (h : LW W_byte code) : ∃ x, laws_at code 2 = some x ∧ 0 ≤ x ∧ x ≤ 255 := by
  unfold laws_at
  by_cases h0 : ((code.length : Nat) : Int) = 0
  · rw [decide_eq_true h0]; exact ⟨0, rfl, by decide, by decide⟩
  · rw [decide_eq_false h0]
    simp only [cond_false, Bool.not_false, cond_true]
    have hm := tmod_lt (x := 2) (n := ((code.length : Nat) : Int)) (by decide) (by omega)
    have hb := h.2 _ (rd_mem (l := code) (j := ((2 : Int).tmod ((code.length : Nat) : Int)).toNat) (by omega))
    rw [show idxOk ((2 : Int).tmod ((code.length : Nat) : Int)) code.length = true from by simp [idxOk]; omega]
    unfold W_byte at hb
    exact ⟨_, rfl, by rw [wr64' (by omega) (by omega)]; omega, by rw [wr64' (by omega) (by omega)]; omega⟩
theorem loop1 {l r0 : List V} (hl : l.length ≤ 9223372036854775807) (id : Int) : ∃ b, laws_FnWheels_l24 (l.length + 1) id false 0 r0 l l = some (1, false, id, b, r0) ∧ (b = true ↔ ∃ x ∈ l, gi x 0 = id) := by
  have key := loop_run0 (F := fun m s i => laws_FnWheels_l24 m id s i r0 l l) (n := l.length) (I := fun i s => s = true ↔ ∃ j, j < i ∧ gi (rd l j) 0 = id)
    (Q := fun r => ∃ b, r = some (1, false, id, b, r0) ∧ (b = true ↔ ∃ x ∈ l, gi x 0 = id)) ?_ ?_ (s := false) (by simp)
  · exact key
  · intro m i s hi hI
    left
    simp only [laws_FnWheels_l24, lt_nat hi, idxOk_nat hi, cond_true, wr_succ hi hl, Int.toNat_natCast, Nat.zero_add, decide_true, Bool.not_true, cond_false]
    cases s with
    | true =>
      refine ⟨true, rfl, ?_⟩
      obtain ⟨j, hj, e⟩ := hI.1 rfl
      exact ⟨fun _ => ⟨j, by omega, e⟩, fun _ => rfl⟩
    | false =>
      refine ⟨_, rfl, ?_⟩
      rw [decide_eq_true_eq]
      refine ⟨fun e => ⟨i, by omega, e⟩, ?_⟩
      rintro ⟨j, hj, e⟩
      rcases Nat.eq_or_lt_of_le (Nat.le_of_lt_succ hj) with c | c
      · subst c; exact e
      · exact absurd (hI.2 ⟨j, c, e⟩) (by simp)
  · intro m s hI
    simp only [laws_FnWheels_l24, lt_self, cond_false]
    refine ⟨s, rfl, hI.trans ⟨?_, ?_⟩⟩
    · rintro ⟨j, hj, e⟩; exact ⟨_, rd_mem hj, e⟩
    · rintro ⟨x, hx, e⟩
      obtain ⟨j, hj, rfl⟩ := mem_rd hx
      exact ⟨j, hj, e⟩
theorem loop2 {l : List V} (hl : l.length ≤ 9223372036854775807) {id : Int} (h : ∀ x ∈ l, gi x 0 ≠ id) (b : Bool) : laws_FnWheels_l30 (l.length + 1) id b 0 l = some (1, false, b) := by
  have key := loop_run0 (F := fun m (s : Unit) i => laws_FnWheels_l30 m id b i l) (n := l.length) (I := fun _ _ => True) (Q := fun r => r = some (1, false, b)) ?_ ?_ (s := ()) trivial
  · exact key
  · intro m i s hi _
    left
    simp only [laws_FnWheels_l30, lt_nat hi, idxOk_nat hi, cond_true, wr_succ hi hl, Int.toNat_natCast, Nat.zero_add]
    rw [decide_eq_false (h _ (rd_mem hi))]
    exact ⟨(), rfl, trivial⟩
  · intro m s _
    simp only [laws_FnWheels_l30, lt_self, cond_false]
theorem law_Wheels {code : List V} (h : LW W_byte code) : laws_FnWheels code = some true := by
  unfold laws_FnWheels
  obtain ⟨w, id, after, e, hw, hlen, hid, hafter, hn⟩ := wset_ok h
  simp only [e, Option.bind_some]
  rw [spec_WheelOk_eq hw]
  have hset : ∃ x ok, impl_WheelSet (n_impl_Wheel w) id after = some (x, ok) := by
    cases hok : okW w with
    | false =>
      unfold impl_WheelSet
      rw [show n_impl_Wheel (n_impl_Wheel w) = n_impl_Wheel w from rfl, impl_WheelOk_eq hw, hok]
      exact ⟨_, _, rfl⟩
    | true =>
      by_cases hc : canSet w id after
      · exact ⟨_, _, (implSet_eq hw hok hid).1 hc⟩
      · exact ⟨_, _, (implSet_eq hw hok hid).2 hc⟩
  cases hok : okW w with
  | false =>
    have hx : impl_WheelSet (n_impl_Wheel w) id after = some (zeroW, false) := by
      unfold impl_WheelSet
      rw [show n_impl_Wheel (n_impl_Wheel w) = n_impl_Wheel w from rfl, impl_WheelOk_eq hw, hok]
      rfl
    rw [hx]
    have hz : impl_WheelOk (V.agg [(V.int .i64 0), (V.inl t_impl_Timer [])]) = some true := by
      have := impl_WheelOk_eq (w := zeroW) ⟨(⟨by decide, by decide⟩ : I64 0), LW.nil⟩
      exact this
    simp only [Option.bind_some, Bool.not_false, cond_true, show gl zeroW 1 = [] from rfl, List.length_nil, Int.natCast_zero, decide_true, hz]
  | true =>
    by_cases hc : canSet w id after
    case neg =>
      rw [(implSet_eq hw hok hid).2 hc]
      simp only [Option.bind_some, Bool.not_true, Bool.not_false, cond_true, cond_false, show n_impl_Wheel (n_impl_Wheel w) = n_impl_Wheel w from rfl]
      rw [same_eq (w := w) (by omega)]
      rfl
    rw [(implSet_eq hw hok hid).1 hc]
    obtain ⟨kX, WX⟩ := setW_ok hw hok hc
    obtain ⟨c1, c2, c3, c4, c5⟩ := hc
    obtain ⟨g1, g2, g3, hg⟩ := okW_spec hok
    have hXg := (okW_spec kX).2.2.2
    have hXl := (okW_spec kX).2.2.1
    have hX0 : gi (setW w id after) 0 = gi w 0 := rfl
    have ht : mkT w id after ∈ gl (setW w id after) 1 := setW_mem.2 (.inr rfl)
    have htid : gi (mkT w id after) 0 = id := rfl
    have htat : gi (mkT w id after) 1 = gi w 0 + after := by show IntKind.i64.wrap (gi w 0 + after) = _; exact wr64' (by omega) (by omega)
    generalize hXe : setW w id after = X at *
    obtain ⟨f1, f2⟩ := fT_of_mem hXg.ids ht
    rw [htid] at f1 f2
    obtain ⟨lf, lb, l1, -, l3⟩ := left_eq WX (by omega) id
    obtain ⟨rfl, rfl⟩ := l3 kX f1
    have hpos : 0 < (gl X 1).length := by
      rcases Nat.eq_zero_or_pos (gl X 1).length with h | h
      · rw [List.length_eq_zero_iff] at h; rw [h] at ht; cases ht
      · exact h
    have hnx := next_eq WX kX hpos
    have hst := wstop_eq WX kX id
    rw [decide_eq_true f1] at hst
    have hfirst : gi (rd (gl X 1) 0) 1 ≤ gi w 0 + after := by
      obtain ⟨j, hj, ej⟩ := mem_rd ht
      rcases Nat.eq_zero_or_pos j with h0 | h0
      · subst h0; rw [ej, htat]; omega
      · have := hXg.ats
        rw [List.pairwise_iff_getElem] at this
        have := this 0 j hpos hj h0
        rw [← rd_eq hpos, ← rd_eq hj, ej, htat] at this
        exact this
    have WS : W_Wheel (V.agg [V.int .i64 (gi X 0), V.inl t_impl_Timer (stopL (gl X 1) id)]) := ⟨WX.1, by
      have := stopL_len (gl X 1) id
      show (stopL (gl X 1) id).length ≤ _
      omega, fun x hx => WX.2.2 x ((stopL_sub _ _).mem hx)⟩
    obtain ⟨sr, sb, s1, s2, -⟩ := left_eq WS (by have := stopL_len (gl X 1) id; show (stopL (gl X 1) id).length ≤ _; omega) id
    obtain rfl := s2 (fT_neg_of (stopL_no hXg))
    simp only [Option.bind_some, Bool.not_true, cond_false, l1, hnx, impl_WheelOk_eq WX, kX, hst, s1]
    simp only [f2, htat, hX0]
    rw [show gi w 0 + after - gi w 0 = after from by omega, decide_eq_true (p := after = after) rfl, decide_eq_false (p := after < gi (rd (gl X 1) 0) 1 - gi w 0) (by omega), wr64' (n := 1000000 - gi w 0) (by omega) (by omega)]
    simp only [Bool.not_true, cond_false]
    by_cases hb : 1000000 - gi w 0 < after
    · rw [decide_eq_true hb]; rfl
    rw [decide_eq_false hb]
    obtain ⟨a, ea, a0, a1⟩ := at_ok h
    have hm := tmod_lt (x := a) (n := after) a0 (by omega)
    simp only [cond_false, ea, Option.bind_some]
    rw [decide_eq_false (p := after = 0) (by omega)]
    simp only [Bool.not_false, cond_true]
    generalize a.tmod after = m at *
    obtain ⟨t1, y1, y2⟩ := tick_eq WX kX (n := m) hm.1 (by omega)
    obtain ⟨t2, z1, z2⟩ := tick_eq y2 y1 (n := after - m) (by omega) (by show after - m ≤ 1000000 - (gi X 0 + m); omega)
    obtain ⟨t3, u1, u2⟩ := tick_eq WX kX (n := after) (by omega) (by omega)
    have t2' : impl_WheelTick (n_impl_Wheel (tickW X m)) (after - m) = some (tickW (tickW X m) (after - m), idsL (dueL (gi w 0 + after) (restL (gi w 0 + m) (gl X 1)))) := by
      rw [t2]
      show some (_, idsL (dueL (gi X 0 + m + (after - m)) (restL (gi X 0 + m) (gl X 1)))) = _
      rw [hX0, show gi w 0 + m + (after - m) = gi w 0 + after from by omega]
    rw [hX0] at t1 t3
    rw [wr64' (n := after - m) (by omega) (by omega), t1]
    simp only [Option.bind_some, t2', t3]
    obtain ⟨d1, d2⟩ := due_two (m := gi w 0 + m) (m' := gi w 0 + after) (by omega) (gl X 1)
    have eZ : tickW (tickW X m) (after - m) = tickW X after := by
      unfold tickW
      show V.agg [V.int .i64 (gi X 0 + m + (after - m)), V.inl t_impl_Timer (restL (gi X 0 + m + (after - m)) (restL (gi X 0 + m) (gl X 1)))] = _
      rw [hX0, show gi w 0 + m + (after - m) = gi w 0 + after from by omega, ← d2]
    have eI : idsL (dueL (gi w 0 + after) (gl X 1)) = idsL (dueL (gi w 0 + m) (gl X 1)) ++ idsL (dueL (gi w 0 + after) (restL (gi w 0 + m) (gl X 1))) := by
      unfold idsL; rw [← List.map_append, ← d1]
    rw [eZ, ← eI]
    have lA : (idsL (dueL (gi w 0 + after) (gl X 1))).length ≤ 40 := by
      unfold idsL
      rw [List.length_map]
      have : (dueL (gi w 0 + after) (gl X 1)).length ≤ (gl X 1).length := (List.takeWhile_prefix _).sublist.length_le
      omega
    have lB := congrArg List.length eI
    rw [List.length_append] at lB
    rw [roomy_of (by omega) (by omega), roomy_of (by omega) (by omega), same_eq (by
      show (restL (gi X 0 + after) (gl X 1)).length ≤ _
      have : (restL (gi X 0 + after) (gl X 1)).length ≤ (gl X 1).length := (List.dropWhile_suffix _).sublist.length_le
      omega)]
    simp only [Option.bind_some, Bool.and_self, Bool.not_true, cond_true, cond_false, decide_true]
    obtain ⟨b, p1, p2⟩ := loop1 (l := idsL (dueL (gi w 0 + after) (gl X 1))) (r0 := idsL (dueL (gi w 0 + m) (gl X 1))) (by omega) id
    rw [fuel_eq, p1]
    have hbt : b = true := p2.2 ⟨_, List.mem_map.2 ⟨_, ((due_mem hXg.ats _).1.2 ⟨ht, by rw [htat]; omega⟩), rfl⟩, htid⟩
    subst hbt
    simp only [Option.bind_some]
    rw [show Nat.beq 1 0 = false from rfl, fuel_eq, loop2 (by omega) ?_ true]
    · rfl
    · intro x hx
      obtain ⟨y, hy, rfl⟩ := List.mem_map.1 hx
      have hy := (due_mem hXg.ats _).1.1 hy
      show gi y 0 ≠ id
      intro hyi
      have := (fT_of_mem hXg.ids hy.1).2
      rw [hyi, f2] at this
      rw [← this, htat] at hy
      omega
end Go.Eng.R
open Go Go.Eng
namespace Go.Eng.R
theorem wt_byte {x : V} (h : WtT tab t_byte x) : W_byte x := wt_u8 (h.cell 0 rfl)
theorem wt_sl_byte {x : V} (h : WtT tab t_sl_byte x) : LW W_byte (gl x 0) := wt_sl (h.cell 0 rfl) fun _ => wt_byte
def readable : List TypeId := [5, 22]
end Go.Eng.R
