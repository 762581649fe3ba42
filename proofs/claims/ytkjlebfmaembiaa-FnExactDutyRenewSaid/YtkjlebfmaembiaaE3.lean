/- An own evaluator of the program's form, proved sound, and what it says of this law's functions: part 3. -/
import Derived.Test.YtkjlebfmaembiaaE2
import Derived.Deep.RegionHeld3
import Derived.Ground.SlgcProg
import Derived.Ground.SlsfProg
import Derived.Handy
import Derived.Lib.SlBytesConst
import Derived.Lib.Walk
import Derived.Shelf.SlSortCmp.WholeK
import Derived.Shelf.SlicesG.Cmp
import Derived.Test.YtkjlebfmaembiaaChecked
import Derived.Test.YtkjlebfmaembiaaProg
import Derived.WalkKit
set_option linter.unusedVariables false
open Go Go.Eng
namespace Go.Eng.R
def chunks : List (List (Option Ty)) := [
  [none,
   some ⟨[.fn], false, none, [], 8⟩,
   some ⟨[.int .i64], false, none, [], 8⟩,
   some ⟨[.int .i64], false, none, [], 8⟩,
   some ⟨[.bool], false, none, [], 1⟩,
   some ⟨[.int .u8], false, none, [], 1⟩,
   some ⟨[.int .u8], false, none, [], 1⟩,
   some ⟨[.int .i64, .int .i64, .bool, .int .u8], true, none, [(0, 2), (1, 3), (2, 4), (3, 6)], 24⟩,
   some ⟨[.int .i64, .int .i64, .bool, .int .u8], true, none, [(0, 2), (1, 3), (2, 4), (3, 6)], 24⟩,
   some ⟨[.str], false, none, [], 16⟩,
   some ⟨[.str], false, none, [], 16⟩,
   some ⟨[.str], false, none, [], 16⟩,
   some ⟨[.int .u64], false, none, [], 8⟩,
   some ⟨[.str, .int .u64], true, none, [(0, 9), (1, 12)], 24⟩,
   some ⟨[.str, .int .u64], true, none, [(0, 9), (1, 12)], 24⟩,
   some ⟨[.ptr], false, none, [], 8⟩],
  [some ⟨[.ptr], false, none, [], 8⟩,
   some ⟨[.ptr], false, none, [], 8⟩,
   some ⟨[.ptr], true, none, [(0, 17)], 8⟩,
   some ⟨[.ptr], true, none, [(0, 17)], 8⟩,
   none,
   some ⟨[.int .i32], false, none, [], 4⟩,
   some ⟨[.sl 5], false, some 5, [], 24⟩,
   some ⟨[.sl 147], false, some 147, [], 24⟩,
   some ⟨[.sl 5, .sl 147], true, none, [(0, 22), (1, 23)], 48⟩,
   some ⟨[.sl 5, .sl 147], true, none, [(0, 22), (1, 23)], 48⟩,
   some ⟨[.fn], false, none, [], 8⟩,
   some ⟨[.sl 98], false, some 98, [], 24⟩,
   some ⟨[.sl 5, .sl 98], true, none, [(0, 22), (1, 27)], 48⟩,
   some ⟨[.sl 5, .sl 98], true, none, [(0, 22), (1, 27)], 48⟩,
   none,
   some ⟨[.fn], false, none, [], 8⟩],
  [some ⟨[.fn], false, none, [], 8⟩,
   some ⟨[.fn], false, none, [], 8⟩,
   some ⟨[.fn], false, none, [], 8⟩,
   some ⟨[.fn], false, none, [], 8⟩,
   some ⟨[.fn], false, none, [], 8⟩,
   some ⟨[.fn], false, none, [], 8⟩,
   some ⟨[.fn], false, none, [], 8⟩,
   some ⟨[.sl 5, .int .i64, .int .i64, .int .i64, .int .i64, .int .i64], true, none, [(0, 22), (1, 3), (2, 3), (3, 3), (4, 3), (5, 3)], 64⟩,
   some ⟨[.sl 5, .int .i64, .int .i64, .int .i64, .int .i64, .int .i64], true, none, [(0, 22), (1, 3), (2, 3), (3, 3), (4, 3), (5, 3)], 64⟩,
   some ⟨[.fn], false, none, [], 8⟩,
   some ⟨[.fn], false, none, [], 8⟩,
   some ⟨[.sl 5, .int .i64, .int .i64, .int .i64, .int .i64, .int .i64], true, none, [(0, 22), (1, 3), (2, 3), (3, 3), (4, 3), (5, 3)], 64⟩,
   some ⟨[.fn], false, none, [], 8⟩,
   some ⟨[.fn], false, none, [], 8⟩,
   some ⟨[.fn], false, none, [], 8⟩,
   some ⟨[.fn], false, none, [], 8⟩],
  [some ⟨[.sl 122], false, some 122, [], 24⟩,
   some ⟨[.sl 125], false, some 125, [], 24⟩,
   some ⟨[.sl 116], false, some 116, [], 24⟩,
   some ⟨[.sl 128], false, some 128, [], 24⟩,
   some ⟨[.int .i64, .sl 122, .sl 125, .int .i64, .sl 116, .sl 128], true, none, [(0, 3), (1, 48), (2, 49), (3, 3), (4, 50), (5, 51)], 112⟩,
   some ⟨[.int .i64, .sl 122, .sl 125, .int .i64, .sl 116, .sl 128], true, none, [(0, 3), (1, 48), (2, 49), (3, 3), (4, 50), (5, 51)], 112⟩,
   some ⟨[.int .i64, .sl 5, .sl 5, .int .i64], true, none, [(0, 3), (1, 22), (2, 22), (3, 3)], 64⟩,
   some ⟨[.int .i64, .sl 5, .sl 5, .int .i64], true, none, [(0, 3), (1, 22), (2, 22), (3, 3)], 64⟩,
   some ⟨[.int .i64, .int .i64, .int .i64, .sl 5, .sl 5, .int .i64], true, none, [(0, 3), (1, 3), (2, 55)], 80⟩,
   some ⟨[.int .i64, .int .i64, .int .i64, .sl 5, .sl 5, .int .i64], true, none, [(0, 3), (1, 3), (2, 55)], 80⟩,
   none,
   some ⟨[.fn], false, none, [], 8⟩,
   some ⟨[.int .i64, .int .i64], true, none, [(0, 3), (1, 3)], 16⟩,
   some ⟨[.int .i64, .int .i64], true, none, [(0, 3), (1, 3)], 16⟩,
   none,
   some ⟨[.fn], false, none, [], 8⟩],
  [some ⟨[.fn], false, none, [], 8⟩,
   some ⟨[.fn], false, none, [], 8⟩,
   some ⟨[.fn], false, none, [], 8⟩,
   some ⟨[.fn], false, none, [], 8⟩,
   some ⟨[.sl 209], false, some 209, [], 24⟩,
   some ⟨[.int .i64, .sl 209], true, none, [(0, 3), (1, 68)], 32⟩,
   some ⟨[.int .i64, .sl 209], true, none, [(0, 3), (1, 68)], 32⟩,
   some ⟨[.int .i64, .int .i64, .sl 209], true, none, [(0, 3), (1, 70)], 40⟩,
   some ⟨[.int .i64, .int .i64, .sl 209], true, none, [(0, 3), (1, 70)], 40⟩,
   some ⟨[.fn], false, none, [], 8⟩,
   some ⟨[.sl 187], false, some 187, [], 24⟩,
   some ⟨[.int .i64, .sl 187], true, none, [(0, 3), (1, 74)], 32⟩,
   some ⟨[.int .i64, .sl 187], true, none, [(0, 3), (1, 74)], 32⟩,
   some ⟨[.int .i64, .int .i64, .sl 187], true, none, [(0, 3), (1, 76)], 40⟩,
   some ⟨[.int .i64, .int .i64, .sl 187], true, none, [(0, 3), (1, 76)], 40⟩,
   none],
  [some ⟨[.fn], false, none, [], 8⟩,
   some ⟨[.fn], false, none, [], 8⟩,
   some ⟨[.fn], false, none, [], 8⟩,
   some ⟨[.fn], false, none, [], 8⟩,
   some ⟨[.fn], false, none, [], 8⟩,
   some ⟨[.fn], false, none, [], 8⟩,
   some ⟨[.fn], false, none, [], 8⟩,
   some ⟨[.fn], false, none, [], 8⟩,
   some ⟨[.fn], false, none, [], 8⟩,
   some ⟨[.fn], false, none, [], 8⟩,
   some ⟨[.fn], false, none, [], 8⟩,
   some ⟨[.fn], false, none, [], 8⟩,
   some ⟨[.ptr], false, none, [], 8⟩,
   none,
   some ⟨[.fn], false, none, [], 8⟩,
   some ⟨[.fn], false, none, [], 8⟩],
  [some ⟨[.sl 43], false, some 43, [], 24⟩,
   some ⟨[.sl 5, .sl 43], true, none, [(0, 22), (1, 96)], 48⟩,
   some ⟨[.sl 5, .sl 43], true, none, [(0, 22), (1, 96)], 48⟩,
   some ⟨[.fn], false, none, [], 8⟩,
   some ⟨[.fn], false, none, [], 8⟩,
   some ⟨[.fn], false, none, [], 8⟩,
   some ⟨[.fn], false, none, [], 8⟩,
   some ⟨[.fn], false, none, [], 8⟩,
   some ⟨[.ptr], false, none, [], 8⟩,
   some ⟨[.fn], false, none, [], 8⟩,
   some ⟨[.fn], false, none, [], 8⟩,
   some ⟨[.fn], false, none, [], 8⟩,
   some ⟨[.fn], false, none, [], 8⟩,
   some ⟨[.fn], false, none, [], 8⟩,
   some ⟨[.ptr], false, none, [], 8⟩,
   some ⟨[.fn], false, none, [], 8⟩],
  [some ⟨[.fn], false, none, [], 8⟩,
   some ⟨[.fn], false, none, [], 8⟩,
   some ⟨[.fn], false, none, [], 8⟩,
   some ⟨[.int .i64, .bool], true, none, [(0, 3), (1, 4)], 16⟩,
   some ⟨[.int .i64, .bool], true, none, [(0, 3), (1, 4)], 16⟩,
   some ⟨[.fn], false, none, [], 8⟩,
   some ⟨[.fn], false, none, [], 8⟩,
   some ⟨[.fn], false, none, [], 8⟩,
   some ⟨[.fn], false, none, [], 8⟩,
   some ⟨[.sl 5, .sl 5, .int .i64, .int .i64], true, none, [(0, 22), (1, 22), (2, 3), (3, 3)], 64⟩,
   some ⟨[.sl 5, .sl 5, .int .i64, .int .i64], true, none, [(0, 22), (1, 22), (2, 3), (3, 3)], 64⟩,
   some ⟨[.fn], false, none, [], 8⟩,
   some ⟨[.sl 5, .int .i64], true, none, [(0, 22), (1, 3)], 32⟩,
   some ⟨[.sl 5, .int .i64], true, none, [(0, 22), (1, 3)], 32⟩,
   some ⟨[.fn], false, none, [], 8⟩,
   some ⟨[.int .i64, .int .i64, .int .i64, .int .i64], true, none, [(0, 3), (1, 3), (2, 61)], 32⟩],
  [some ⟨[.int .i64, .int .i64, .int .i64, .int .i64], true, none, [(0, 3), (1, 3), (2, 61)], 32⟩,
   some ⟨[.fn], false, none, [], 8⟩,
   some ⟨[.fn], false, none, [], 8⟩,
   some ⟨[.fn], false, none, [], 8⟩,
   some ⟨[.fn], false, none, [], 8⟩,
   some ⟨[.fn], false, none, [], 8⟩,
   some ⟨[.fn], false, none, [], 8⟩,
   some ⟨[.fn], false, none, [], 8⟩,
   some ⟨[.fn], false, none, [], 8⟩,
   some ⟨[.fn], false, none, [], 8⟩,
   some ⟨[.ptr], false, none, [], 8⟩,
   some ⟨[.fn], false, none, [], 8⟩,
   some ⟨[.fn], false, none, [], 8⟩,
   some ⟨[.fn], false, none, [], 8⟩,
   some ⟨[.fn], false, none, [], 8⟩,
   some ⟨[.fn], false, none, [], 8⟩],
  [some ⟨[.fn], false, none, [], 8⟩,
   some ⟨[.sl 40], false, some 40, [], 24⟩,
   some ⟨[.sl 5, .sl 40], true, none, [(0, 22), (1, 145)], 48⟩,
   some ⟨[.sl 5, .sl 40], true, none, [(0, 22), (1, 145)], 48⟩,
   some ⟨[.fn], false, none, [], 8⟩,
   some ⟨[.fn], false, none, [], 8⟩,
   some ⟨[.fn], false, none, [], 8⟩,
   some ⟨[.fn], false, none, [], 8⟩,
   some ⟨[.fn], false, none, [], 8⟩,
   some ⟨[.fn], false, none, [], 8⟩,
   some ⟨[.fn], false, none, [], 8⟩,
   some ⟨[.fn], false, none, [], 8⟩,
   some ⟨[.fn], false, none, [], 8⟩,
   some ⟨[.fn], false, none, [], 8⟩,
   some ⟨[.int .u64], false, none, [], 8⟩,
   some ⟨[.fn], false, none, [], 8⟩],
  [some ⟨[.fn], false, none, [], 8⟩,
   some ⟨[.sl 5, .int .i64, .int .i64], true, none, [(0, 22), (1, 3), (2, 3)], 40⟩,
   some ⟨[.sl 5, .int .i64, .int .i64], true, none, [(0, 22), (1, 3), (2, 3)], 40⟩,
   some ⟨[.fn], false, none, [], 8⟩,
   some ⟨[.sl 3], false, some 3, [], 24⟩,
   some ⟨[.fn], false, none, [], 8⟩,
   some ⟨[.sl 9], false, some 9, [], 24⟩,
   some ⟨[.fn], false, none, [], 8⟩,
   some ⟨[.fn], false, none, [], 8⟩,
   some ⟨[.fn], false, none, [], 8⟩,
   some ⟨[.fn], false, none, [], 8⟩,
   some ⟨[.fn], false, none, [], 8⟩,
   some ⟨[.fn], false, none, [], 8⟩,
   some ⟨[.fn], false, none, [], 8⟩,
   some ⟨[.ptr], false, none, [], 8⟩,
   some ⟨[.fn], false, none, [], 8⟩],
  [some ⟨[.fn], false, none, [], 8⟩,
   some ⟨[.fn], false, none, [], 8⟩,
   some ⟨[.fn], false, none, [], 8⟩,
   some ⟨[.fn], false, none, [], 8⟩,
   some ⟨[.fn], false, none, [], 8⟩,
   some ⟨[.fn], false, none, [], 8⟩,
   some ⟨[.fn], false, none, [], 8⟩,
   some ⟨[.fn], false, none, [], 8⟩,
   some ⟨[.fn], false, none, [], 8⟩,
   some ⟨[.fn], false, none, [], 8⟩,
   some ⟨[.int .i64, .int .i64], true, none, [(0, 3), (1, 3)], 16⟩,
   some ⟨[.int .i64, .int .i64], true, none, [(0, 3), (1, 3)], 16⟩,
   some ⟨[.fn], false, none, [], 8⟩,
   some ⟨[.fn], false, none, [], 8⟩,
   some ⟨[.fn], false, none, [], 8⟩,
   some ⟨[.fn], false, none, [], 8⟩],
  [some ⟨[.fn], false, none, [], 8⟩,
   some ⟨[.fn], false, none, [], 8⟩,
   some ⟨[.fn], false, none, [], 8⟩,
   some ⟨[.fn], false, none, [], 8⟩,
   some ⟨[.fn], false, none, [], 8⟩,
   some ⟨[.fn], false, none, [], 8⟩,
   some ⟨[.fn], false, none, [], 8⟩,
   some ⟨[.fn], false, none, [], 8⟩,
   some ⟨[.fn], false, none, [], 8⟩,
   some ⟨[.fn], false, none, [], 8⟩,
   some ⟨[.fn], false, none, [], 8⟩,
   some ⟨[.fn], false, none, [], 8⟩,
   some ⟨[.fn], false, none, [], 8⟩,
   some ⟨[.fn], false, none, [], 8⟩,
   some ⟨[.fn], false, none, [], 8⟩,
   some ⟨[.fn], false, none, [], 8⟩],
  [some ⟨[.fn], false, none, [], 8⟩,
   some ⟨[.int .i64, .int .i64], true, none, [(0, 3), (1, 3)], 16⟩,
   some ⟨[.fn], false, none, [], 8⟩,
   some ⟨[.fn], false, none, [], 8⟩,
   some ⟨[.fn], false, none, [], 8⟩,
   some ⟨[.fn], false, none, [], 8⟩,
   some ⟨[.fn], false, none, [], 8⟩,
   some ⟨[.fn], false, none, [], 8⟩,
   some ⟨[.fn], false, none, [], 8⟩,
   some ⟨[.fn], false, none, [], 8⟩,
   some ⟨[.fn], false, none, [], 8⟩,
   some ⟨[.fn], false, none, [], 8⟩,
   some ⟨[.fn], false, none, [], 8⟩,
   some ⟨[.fn], false, none, [], 8⟩,
   some ⟨[.fn], false, none, [], 8⟩,
   some ⟨[.fn], false, none, [], 8⟩],
  [some ⟨[.fn], false, none, [], 8⟩,
   some ⟨[.fn], false, none, [], 8⟩,
   some ⟨[.fn], false, none, [], 8⟩,
   some ⟨[.int .i64], false, none, [], 8⟩,
   none,
   some ⟨[.fn], false, none, [], 8⟩,
   some ⟨[.fn], false, none, [], 8⟩,
   some ⟨[.fn], false, none, [], 8⟩,
   some ⟨[.fn], false, none, [], 8⟩,
   some ⟨[.fn], false, none, [], 8⟩,
   some ⟨[.int .u32], false, none, [], 4⟩,
   some ⟨[.fn], false, none, [], 8⟩,
   some ⟨[.int .u64], false, none, [], 8⟩,
   some ⟨[.fn], false, none, [], 8⟩,
   some ⟨[.sl 22], false, some 22, [], 24⟩,
   some ⟨[.fn], false, none, [], 8⟩],
  [some ⟨[.fn], false, none, [], 8⟩,
   some ⟨[.fn], false, none, [], 8⟩,
   some ⟨[.fn], false, none, [], 8⟩,
   some ⟨[.fn], false, none, [], 8⟩,
   some ⟨[.fn], false, none, [], 8⟩,
   some ⟨[.int .u64], false, none, [], 8⟩,
   some ⟨[.fn], false, none, [], 8⟩,
   some ⟨[.fn], false, none, [], 8⟩,
   some ⟨[.fn], false, none, [], 8⟩,
   some ⟨[.ptr], false, none, [], 8⟩,
   some ⟨[.fn], false, none, [], 8⟩,
   some ⟨[.ptr], false, none, [], 8⟩,
   none,
   some ⟨[.fn], false, none, [], 8⟩,
   some ⟨[.fn], false, none, [], 8⟩,
   some ⟨[.fn], false, none, [], 8⟩],
  [some ⟨[.ptr, .ptr, .ptr, .str], true, none, [(0, 17), (1, 17), (2, 17), (3, 9)], 40⟩,
   some ⟨[.ptr, .ptr, .ptr, .str], true, none, [(0, 17), (1, 17), (2, 17), (3, 9)], 40⟩,
   none,
   none,
   none,
   some ⟨[.fn], false, none, [], 8⟩,
   some ⟨[.int .u8], false, none, [], 1⟩,
   some ⟨[.int .u8], false, none, [], 1⟩,
   some ⟨[.fn], false, none, [], 8⟩,
   some ⟨[.ptr], false, none, [], 8⟩,
   some ⟨[.int .i32], false, none, [], 4⟩,
   some ⟨[.int .i32], false, none, [], 4⟩,
   some ⟨[.int .u64, .int .u64, .int .u32, .int .u8, .int .u8, .int .u8, .int .u8, .fn, .ptr, .int .i32, .int .i32], true, none, [(0, 12), (1, 12), (2, 234), (3, 262), (4, 5), (5, 5), (6, 263), (7, 264), (8, 265), (9, 266), (10, 267)], 48⟩,
   some ⟨[.int .u64, .int .u64, .int .u32, .int .u8, .int .u8, .int .u8, .int .u8, .fn, .ptr, .int .i32, .int .i32], true, none, [(0, 12), (1, 12), (2, 234), (3, 262), (4, 5), (5, 5), (6, 263), (7, 264), (8, 265), (9, 266), (10, 267)], 48⟩,
   some ⟨[.fn], false, none, [], 8⟩,
   none]]
def tab : Tab := tabOf chunks
abbrev t_tuple_0 : TypeId := 0
abbrev t_func_1 : TypeId := 1
abbrev t_int : TypeId := 2
abbrev t_int' : TypeId := 3
abbrev t_bool : TypeId := 4
abbrev t_byte : TypeId := 5
abbrev t_abi_BoundsErrorCode : TypeId := 6
abbrev t_st_7 : TypeId := 7
abbrev t_runtime_boundsError : TypeId := 8
abbrev t_string : TypeId := 9
abbrev t_runtime_errorString : TypeId := 10
abbrev t_runtime_plainError : TypeId := 11
abbrev t_u64 : TypeId := 12
abbrev t_st_13 : TypeId := 13
abbrev t_runtime_errorAddressString : TypeId := 14
abbrev t_ptr_runtime_TypeAssertionError : TypeId := 15
abbrev t_ptr_runtime_PanicNilError : TypeId := 16
abbrev t_ptr_abi_Type : TypeId := 17
abbrev t_st_18 : TypeId := 18
abbrev t_maps_unhashableTypeError : TypeId := 19
abbrev t_interface_20 : TypeId := 20
abbrev t_i32 : TypeId := 21
abbrev t_sl_byte : TypeId := 22
abbrev t_sl_laws_Service : TypeId := 23
abbrev t_st_24 : TypeId := 24
abbrev t_laws_Local : TypeId := 25
abbrev t_func_26 : TypeId := 26
abbrev t_sl_impl_Service : TypeId := 27
abbrev t_st_28 : TypeId := 28
abbrev t_impl_Local : TypeId := 29
abbrev t_tuple_30 : TypeId := 30
abbrev t_func_31 : TypeId := 31
abbrev t_func_32 : TypeId := 32
abbrev t_func_33 : TypeId := 33
abbrev t_func_34 : TypeId := 34
abbrev t_func_35 : TypeId := 35
abbrev t_func_36 : TypeId := 36
abbrev t_func_37 : TypeId := 37
abbrev t_func_38 : TypeId := 38
abbrev t_st_39 : TypeId := 39
abbrev t_laws_Check : TypeId := 40
abbrev t_func_41 : TypeId := 41
abbrev t_func_42 : TypeId := 42
abbrev t_impl_Check : TypeId := 43
abbrev t_func_44 : TypeId := 44
abbrev t_func_45 : TypeId := 45
abbrev t_func_46 : TypeId := 46
abbrev t_func_47 : TypeId := 47
abbrev t_sl_impl_Row : TypeId := 48
abbrev t_sl_impl_Tomb : TypeId := 49
abbrev t_sl_impl_Session : TypeId := 50
abbrev t_sl_impl_Last : TypeId := 51
abbrev t_st_52 : TypeId := 52
abbrev t_impl_State : TypeId := 53
abbrev t_st_54 : TypeId := 54
abbrev t_impl_Op : TypeId := 55
abbrev t_st_56 : TypeId := 56
abbrev t_impl_Cmd : TypeId := 57
abbrev t_tuple_58 : TypeId := 58
abbrev t_func_59 : TypeId := 59
abbrev t_st_60 : TypeId := 60
abbrev t_impl_Reply : TypeId := 61
abbrev t_tuple_62 : TypeId := 62
abbrev t_func_63 : TypeId := 63
abbrev t_func_64 : TypeId := 64
abbrev t_func_65 : TypeId := 65
abbrev t_func_66 : TypeId := 66
abbrev t_func_67 : TypeId := 67
abbrev t_sl_laws_Timer : TypeId := 68
abbrev t_st_69 : TypeId := 69
abbrev t_laws_Wheel : TypeId := 70
abbrev t_st_71 : TypeId := 71
abbrev t_laws_Duty : TypeId := 72
abbrev t_func_73 : TypeId := 73
abbrev t_sl_impl_Timer : TypeId := 74
abbrev t_st_75 : TypeId := 75
abbrev t_impl_Wheel : TypeId := 76
abbrev t_st_77 : TypeId := 77
abbrev t_impl_Duty : TypeId := 78
abbrev t_tuple_79 : TypeId := 79
abbrev t_func_80 : TypeId := 80
abbrev t_func_81 : TypeId := 81
abbrev t_func_82 : TypeId := 82
abbrev t_func_83 : TypeId := 83
abbrev t_func_84 : TypeId := 84
abbrev t_func_85 : TypeId := 85
abbrev t_func_86 : TypeId := 86
abbrev t_func_87 : TypeId := 87
abbrev t_func_88 : TypeId := 88
abbrev t_func_89 : TypeId := 89
abbrev t_func_90 : TypeId := 90
abbrev t_func_91 : TypeId := 91
abbrev t_ptr_impl_Local : TypeId := 92
abbrev t_tuple_93 : TypeId := 93
abbrev t_func_94 : TypeId := 94
abbrev t_func_95 : TypeId := 95
abbrev t_sl_impl_Check : TypeId := 96
abbrev t_st_97 : TypeId := 97
abbrev t_impl_Service : TypeId := 98
abbrev t_func_99 : TypeId := 99
abbrev t_func_100 : TypeId := 100
abbrev t_func_101 : TypeId := 101
abbrev t_func_102 : TypeId := 102
abbrev t_func_103 : TypeId := 103
abbrev t_ptr_impl_Service : TypeId := 104
abbrev t_func_105 : TypeId := 105
abbrev t_func_106 : TypeId := 106
abbrev t_func_107 : TypeId := 107
abbrev t_func_108 : TypeId := 108
abbrev t_func_109 : TypeId := 109
abbrev t_ptr_spec_l1Cur : TypeId := 110
abbrev t_func_111 : TypeId := 111
abbrev t_func_112 : TypeId := 112
abbrev t_func_113 : TypeId := 113
abbrev t_func_114 : TypeId := 114
abbrev t_st_115 : TypeId := 115
abbrev t_impl_Session : TypeId := 116
abbrev t_func_117 : TypeId := 117
abbrev t_func_118 : TypeId := 118
abbrev t_func_119 : TypeId := 119
abbrev t_func_120 : TypeId := 120
abbrev t_st_121 : TypeId := 121
abbrev t_impl_Row : TypeId := 122
abbrev t_func_123 : TypeId := 123
abbrev t_st_124 : TypeId := 124
abbrev t_impl_Tomb : TypeId := 125
abbrev t_func_126 : TypeId := 126
abbrev t_st_127 : TypeId := 127
abbrev t_impl_Last : TypeId := 128
abbrev t_func_129 : TypeId := 129
abbrev t_func_130 : TypeId := 130
abbrev t_func_131 : TypeId := 131
abbrev t_func_132 : TypeId := 132
abbrev t_func_133 : TypeId := 133
abbrev t_func_134 : TypeId := 134
abbrev t_func_135 : TypeId := 135
abbrev t_func_136 : TypeId := 136
abbrev t_func_137 : TypeId := 137
abbrev t_ptr_impl_Wheel : TypeId := 138
abbrev t_func_139 : TypeId := 139
abbrev t_func_140 : TypeId := 140
abbrev t_func_141 : TypeId := 141
abbrev t_func_142 : TypeId := 142
abbrev t_func_143 : TypeId := 143
abbrev t_func_144 : TypeId := 144
abbrev t_sl_laws_Check : TypeId := 145
abbrev t_st_146 : TypeId := 146
abbrev t_laws_Service : TypeId := 147
abbrev t_func_148 : TypeId := 148
abbrev t_func_149 : TypeId := 149
abbrev t_func_150 : TypeId := 150
abbrev t_func_151 : TypeId := 151
abbrev t_func_152 : TypeId := 152
abbrev t_func_153 : TypeId := 153
abbrev t_func_154 : TypeId := 154
abbrev t_func_155 : TypeId := 155
abbrev t_func_156 : TypeId := 156
abbrev t_func_157 : TypeId := 157
abbrev t_u64' : TypeId := 158
abbrev t_func_159 : TypeId := 159
abbrev t_func_160 : TypeId := 160
abbrev t_st_161 : TypeId := 161
abbrev t_spec_l1Cur : TypeId := 162
abbrev t_func_163 : TypeId := 163
abbrev t_sl_int : TypeId := 164
abbrev t_func_165 : TypeId := 165
abbrev t_sl_string : TypeId := 166
abbrev t_func_167 : TypeId := 167
abbrev t_func_168 : TypeId := 168
abbrev t_func_169 : TypeId := 169
abbrev t_func_170 : TypeId := 170
abbrev t_func_171 : TypeId := 171
abbrev t_func_172 : TypeId := 172
abbrev t_func_173 : TypeId := 173
abbrev t_ptr_impl_State : TypeId := 174
abbrev t_func_175 : TypeId := 175
abbrev t_func_176 : TypeId := 176
abbrev t_func_177 : TypeId := 177
abbrev t_func_178 : TypeId := 178
abbrev t_func_179 : TypeId := 179
abbrev t_func_180 : TypeId := 180
abbrev t_func_181 : TypeId := 181
abbrev t_func_182 : TypeId := 182
abbrev t_func_183 : TypeId := 183
abbrev t_func_184 : TypeId := 184
abbrev t_func_185 : TypeId := 185
abbrev t_st_186 : TypeId := 186
abbrev t_impl_Timer : TypeId := 187
abbrev t_func_188 : TypeId := 188
abbrev t_func_189 : TypeId := 189
abbrev t_func_190 : TypeId := 190
abbrev t_func_191 : TypeId := 191
abbrev t_func_192 : TypeId := 192
abbrev t_func_193 : TypeId := 193
abbrev t_func_194 : TypeId := 194
abbrev t_func_195 : TypeId := 195
abbrev t_func_196 : TypeId := 196
abbrev t_func_197 : TypeId := 197
abbrev t_func_198 : TypeId := 198
abbrev t_func_199 : TypeId := 199
abbrev t_func_200 : TypeId := 200
abbrev t_func_201 : TypeId := 201
abbrev t_func_202 : TypeId := 202
abbrev t_func_203 : TypeId := 203
abbrev t_func_204 : TypeId := 204
abbrev t_func_205 : TypeId := 205
abbrev t_func_206 : TypeId := 206
abbrev t_func_207 : TypeId := 207
abbrev t_func_208 : TypeId := 208
abbrev t_laws_Timer : TypeId := 209
abbrev t_func_210 : TypeId := 210
abbrev t_func_211 : TypeId := 211
abbrev t_func_212 : TypeId := 212
abbrev t_func_213 : TypeId := 213
abbrev t_func_214 : TypeId := 214
abbrev t_func_215 : TypeId := 215
abbrev t_func_216 : TypeId := 216
abbrev t_func_217 : TypeId := 217
abbrev t_func_218 : TypeId := 218
abbrev t_func_219 : TypeId := 219
abbrev t_func_220 : TypeId := 220
abbrev t_func_221 : TypeId := 221
abbrev t_func_222 : TypeId := 222
abbrev t_func_223 : TypeId := 223
abbrev t_func_224 : TypeId := 224
abbrev t_func_225 : TypeId := 225
abbrev t_func_226 : TypeId := 226
abbrev t_slices_sortedHint : TypeId := 227
abbrev t_tuple_228 : TypeId := 228
abbrev t_func_229 : TypeId := 229
abbrev t_func_230 : TypeId := 230
abbrev t_func_231 : TypeId := 231
abbrev t_func_232 : TypeId := 232
abbrev t_func_233 : TypeId := 233
abbrev t_u32 : TypeId := 234
abbrev t_func_235 : TypeId := 235
abbrev t_u64'' : TypeId := 236
abbrev t_func_237 : TypeId := 237
abbrev t_sl_sl_byte : TypeId := 238
abbrev t_func_239 : TypeId := 239
abbrev t_func_240 : TypeId := 240
abbrev t_func_241 : TypeId := 241
abbrev t_func_242 : TypeId := 242
abbrev t_func_243 : TypeId := 243
abbrev t_func_244 : TypeId := 244
abbrev t_slices_xorshift : TypeId := 245
abbrev t_func_246 : TypeId := 246
abbrev t_func_247 : TypeId := 247
abbrev t_func_248 : TypeId := 248
abbrev t_ptr_int : TypeId := 249
abbrev t_func_250 : TypeId := 250
abbrev t_ptr_slices_xorshift : TypeId := 251
abbrev t_tuple_252 : TypeId := 252
abbrev t_func_253 : TypeId := 253
abbrev t_func_254 : TypeId := 254
abbrev t_func_255 : TypeId := 255
abbrev t_st_256 : TypeId := 256
abbrev t_runtime_TypeAssertionError : TypeId := 257
abbrev t_array_258 : TypeId := 258
abbrev t_st_259 : TypeId := 259
abbrev t_runtime_PanicNilError : TypeId := 260
abbrev t_func_261 : TypeId := 261
abbrev t_abi_TFlag : TypeId := 262
abbrev t_abi_Kind : TypeId := 263
abbrev t_func_264 : TypeId := 264
abbrev t_ptr_byte : TypeId := 265
abbrev t_abi_NameOff : TypeId := 266
abbrev t_abi_TypeOff : TypeId := 267
abbrev t_st_268 : TypeId := 268
abbrev t_abi_Type : TypeId := 269
abbrev t_func_270 : TypeId := 270
abbrev t_other_271 : TypeId := 271
def n_runtime_boundsError (x : V) : V := .agg [.int .i64 (gi x 0), .int .i64 (gi x 1), .bool (gb x 2), .int .u8 (gi x 3)]
def n_runtime_errorAddressString (x : V) : V := .agg [.str (gs x 0), .int .u64 (gi x 1)]
def n_laws_Local (x : V) : V := .agg [.inl t_byte (gl x 0), .inl t_laws_Service (gl x 1)]
def n_impl_Local (x : V) : V := .agg [.inl t_byte (gl x 0), .inl t_impl_Service (gl x 1)]
def n_laws_Check (x : V) : V := .agg [.inl t_byte (gl x 0), .int .i64 (gi x 1), .int .i64 (gi x 2), .int .i64 (gi x 3), .int .i64 (gi x 4), .int .i64 (gi x 5)]
def n_impl_State (x : V) : V := .agg [.int .i64 (gi x 0), .inl t_impl_Row (gl x 1), .inl t_impl_Tomb (gl x 2), .int .i64 (gi x 3), .inl t_impl_Session (gl x 4), .inl t_impl_Last (gl x 5)]
def n_impl_Op (x : V) : V := .agg [.int .i64 (gi x 0), .inl t_byte (gl x 1), .inl t_byte (gl x 2), .int .i64 (gi x 3)]
def n_impl_Cmd (x : V) : V := .agg [.int .i64 (gi x 0), .int .i64 (gi x 1), .int .i64 (gi x 2), .inl t_byte (gl x 3), .inl t_byte (gl x 4), .int .i64 (gi x 5)]
def n_impl_Reply (x : V) : V := .agg [.int .i64 (gi x 0), .int .i64 (gi x 1)]
def n_laws_Wheel (x : V) : V := .agg [.int .i64 (gi x 0), .inl t_laws_Timer (gl x 1)]
def n_laws_Duty (x : V) : V := .agg [.int .i64 (gi x 0), .int .i64 (gi x 1), .inl t_laws_Timer (gl x 2)]
def n_impl_Wheel (x : V) : V := .agg [.int .i64 (gi x 0), .inl t_impl_Timer (gl x 1)]
def n_impl_Duty (x : V) : V := .agg [.int .i64 (gi x 0), .int .i64 (gi x 1), .inl t_impl_Timer (gl x 2)]
def n_impl_Service (x : V) : V := .agg [.inl t_byte (gl x 0), .inl t_impl_Check (gl x 1)]
def n_impl_Session (x : V) : V := .agg [.int .i64 (gi x 0), .bool (gb x 1)]
def n_impl_Row (x : V) : V := .agg [.inl t_byte (gl x 0), .inl t_byte (gl x 1), .int .i64 (gi x 2), .int .i64 (gi x 3)]
def n_impl_Tomb (x : V) : V := .agg [.inl t_byte (gl x 0), .int .i64 (gi x 1)]
def n_impl_Last (x : V) : V := .agg [.int .i64 (gi x 0), .int .i64 (gi x 1), .int .i64 (gi x 2), .int .i64 (gi x 3)]
def n_laws_Service (x : V) : V := .agg [.inl t_byte (gl x 0), .inl t_laws_Check (gl x 1)]
def n_spec_l1Cur (x : V) : V := .agg [.inl t_byte (gl x 0), .int .i64 (gi x 1), .int .i64 (gi x 2)]
abbrev vi (n : Int) : V := .int .i64 n
abbrev w6 (n : Int) : Int := IntKind.i64.wrap n
abbrev vs (k : Nat) (T : TypeId) : V := .sl k T 0 none
abbrev ln (l : List V) : Int := ((l.length : Nat) : Int)
def noL : Loops := ⟨fun _ => [], fun _ => [], fun _ => [], runL [], []⟩
theorem noLo {cfg : Cfg} {fn : Func} : LoopsOk cfg noL (bodyOf fn) := GoodAll.ok (l := []) GoodAll.nil rfl
end Go.Eng.R
open Go Go.Eng
namespace Go.Eng.R
def laws_szTimerS (a : List V) (left : Int) : Int :=
  bif (decide ((IntKind.i64.wrap (left - ((a.length : Nat) : Int))) < 0)) then
    (-1)
  else (IntKind.i64.wrap (left - ((a.length : Nat) : Int)))
def laws_szWheel (a : V) (left : Int) : Int :=
  bif (decide ((laws_szTimerS (gl a 1) left) < 0)) then
    (-1)
  else (laws_szTimerS (gl a 1) left)
def laws_szDuty (a : V) (left : Int) : Int :=
  bif (decide ((laws_szWheel (V.agg [(V.int .i64 (gi a 1)), (V.inl t_laws_Timer (gl a 2))]) left) < 0)) then
    (-1)
  else (laws_szWheel (V.agg [(V.int .i64 (gi a 1)), (V.inl t_laws_Timer (gl a 2))]) left)
def laws_toTimer (a : V) : V :=
  (n_impl_Reply a)
def laws_toTimerS_l3 : Nat → List V → Int → List V → Option (List V)
  | 0, _, _, _ => none
  | k_ + 1, a0, i4, r0 =>
    bif (decide (i4 < ((a0.length : Nat) : Int))) then
      bif (idxOk i4 a0.length) then
        bif (idxOk i4 r0.length) then
          laws_toTimerS_l3 k_ a0 (IntKind.i64.wrap (i4 + 1)) (r0.set (0 + i4.toNat) (n_impl_Reply (laws_toTimer (n_impl_Reply (rd a0 i4.toNat)))))
        else none
      else none
    else some r0
def laws_toTimerS (a : List V) : Option (List V) :=
  bif (((decide ((0 : Int) ≤ ((a.length : Nat) : Int))) && decide (((a.length : Nat) : Int) = ((a.length : Nat) : Int))) && (roomy (((a.length : Nat) : Int).toNat) 16)) then
    Option.bind (laws_toTimerS_l3 ((((a.length : Nat) : Int) - 0).toNat + 1) a 0 (List.replicate (((a.length : Nat) : Int).toNat) (V.agg [(V.int .i64 0), (V.int .i64 0)]))) fun r1 =>
    some r1
  else none
def laws_toWheel (a : V) : Option (V) :=
  Option.bind (laws_toTimerS (gl a 1)) fun r2 =>
  some (V.agg [(V.int .i64 (gi a 0)), (V.inl t_impl_Timer r2)])
def laws_toDuty (a : V) : Option (V) :=
  Option.bind (laws_toWheel (V.agg [(V.int .i64 (gi a 1)), (V.inl t_laws_Timer (gl a 2))])) fun r3 =>
  some (V.agg [(V.int .i64 (gi a 0)), (V.int .i64 (gi r3 0)), (V.inl t_impl_Timer (gl r3 1))])
def spec_l7ahead (a : V) (b : V) : Bool :=
  bif (decide ((gi a 1) < (gi b 1))) then
    true
  else bif (decide ((gi a 1) = (gi b 1))) then
    (decide ((gi a 0) < (gi b 0)))
  else false
def spec_l7find_l2 : Nat → List V → Int → Int → Option (Nat × Int)
  | 0, _, _, _ => none
  | k_ + 1, l0, id1, i5 =>
    bif (decide (i5 < ((l0.length : Nat) : Int))) then
      bif (idxOk i5 l0.length) then
        bif (decide ((gi (rd l0 i5.toNat) 0) = id1)) then
          some (0, i5)
        else spec_l7find_l2 k_ l0 id1 (IntKind.i64.wrap (i5 + 1))
      else none
    else some (1, 0)
def spec_l7find (l : List V) (id : Int) : Option (Int) :=
  Option.bind (spec_l7find_l2 ((((l.length : Nat) : Int) - 0).toNat + 1) l id 0) fun r5 =>
  bif (Nat.beq r5.1 0) then
    some r5.2
  else some (-1)
def spec_WheelOk_l4 : Nat → Int → V → Option (Nat × Bool)
  | 0, _, _ => none
  | k_ + 1, i3, b0 =>
    bif (decide (i3 < (((gl b0 1).length : Nat) : Int))) then
      bif (idxOk i3 ((gl b0 1).length)) then
        bif (decide ((gi (rd (gl b0 1) i3.toNat) 0) < 0)) then
          some (0, false)
        else bif (decide ((2147483647 : Int) < (gi (rd (gl b0 1) i3.toNat) 0))) then
          some (0, false)
        else bif (decide ((gi (rd (gl b0 1) i3.toNat) 1) ≤ (gi b0 0))) then
          some (0, false)
        else bif (decide ((2000000 : Int) < (gi (rd (gl b0 1) i3.toNat) 1))) then
          some (0, false)
        else bif (decide ((0 : Int) < i3)) then
          bif (idxOk (IntKind.i64.wrap (i3 - 1)) ((gl b0 1).length)) then
            bif (!(spec_l7ahead (n_impl_Reply (rd (gl b0 1) ((IntKind.i64.wrap (i3 - 1)).toNat))) (n_impl_Reply (rd (gl b0 1) i3.toNat)))) then
              some (0, false)
            else bif ((decide ((0 : Int) ≤ i3)) && (decide (i3 ≤ (((gl b0 1).length : Nat) : Int)))) then
              Option.bind (spec_l7find ((gl b0 1).take i3.toNat) (gi (rd (gl b0 1) i3.toNat) 0)) fun r6 =>
              bif (decide ((0 : Int) ≤ r6)) then
                some (0, false)
              else spec_WheelOk_l4 k_ (IntKind.i64.wrap (i3 + 1)) (n_impl_Wheel b0)
            else none
          else none
        else bif ((decide ((0 : Int) ≤ i3)) && (decide (i3 ≤ (((gl b0 1).length : Nat) : Int)))) then
          Option.bind (spec_l7find ((gl b0 1).take i3.toNat) (gi (rd (gl b0 1) i3.toNat) 0)) fun r7 =>
          bif (decide ((0 : Int) ≤ r7)) then
            some (0, false)
          else spec_WheelOk_l4 k_ (IntKind.i64.wrap (i3 + 1)) (n_impl_Wheel b0)
        else none
      else none
    else some (1, false)
def spec_WheelOk (w : V) : Option (Bool) :=
  bif (decide ((gi w 0) < 0)) then
    some false
  else bif (decide ((1000000 : Int) < (gi w 0))) then
    some false
  else bif (decide ((40 : Int) < (((gl w 1).length : Nat) : Int))) then
    some false
  else Option.bind (spec_WheelOk_l4 (((((gl (n_impl_Wheel w) 1).length : Nat) : Int) - 0).toNat + 1) 0 (n_impl_Wheel w)) fun r8 =>
  bif (Nat.beq r8.1 0) then
    some r8.2
  else some true
def spec_DutyOk_l4 : Nat → Int → V → Option (Nat × Bool)
  | 0, _, _ => none
  | k_ + 1, i3, b0 =>
    bif (decide (i3 < (((gl b0 2).length : Nat) : Int))) then
      bif (idxOk i3 ((gl b0 2).length)) then
        bif (decide ((gi b0 0) < (IntKind.i64.wrap ((gi (rd (gl b0 2) i3.toNat) 1) - (gi b0 1))))) then
          some (0, false)
        else spec_DutyOk_l4 k_ (IntKind.i64.wrap (i3 + 1)) (n_impl_Duty b0)
      else none
    else some (1, false)
def spec_DutyOk (d : V) : Option (Bool) :=
  bif (decide ((gi d 0) < 1)) then
    some false
  else bif (decide ((1000 : Int) < (gi d 0))) then
    some false
  else Option.bind (spec_WheelOk (V.agg [(V.int .i64 (gi d 1)), (V.inl t_impl_Timer (gl d 2))])) fun r9 =>
  bif (!r9) then
    some false
  else bif (decide ((8 : Int) < (((gl d 2).length : Nat) : Int))) then
    some false
  else Option.bind (spec_DutyOk_l4 (((((gl (n_impl_Duty d) 2).length : Nat) : Int) - 0).toNat + 1) 0 (n_impl_Duty d)) fun r10 =>
  bif (Nat.beq r10.1 0) then
    some r10.2
  else some true
def spec_l7own (w : V) : Option (V) :=
  bif ((roomy (0 + ((gl w 1).length)) 16) && true) then
    some (n_impl_Wheel w)
  else none
def spec_l15own (d : V) : Option (V) :=
  Option.bind (spec_l7own (V.agg [(V.int .i64 (gi d 1)), (V.inl t_impl_Timer (gl d 2))])) fun r12 =>
  some (V.agg [(V.int .i64 (gi d 0)), (V.int .i64 (gi r12 0)), (V.inl t_impl_Timer (gl r12 1))])
def spec_l7stop (w : V) (id : Int) : Option (Bool × V) :=
  Option.bind (spec_l7find (gl w 2) id) fun r16 =>
  bif (decide (r16 < 0)) then
    some (false, (n_impl_Duty w))
  else bif ((decide ((0 : Int) ≤ r16)) && (decide (r16 ≤ (((gl w 2).length : Nat) : Int)))) then
    bif ((roomy (0 + (((gl w 2).take r16.toNat).length)) 16) && true) then
      bif ((decide ((0 : Int) ≤ (IntKind.i64.wrap (r16 + 1)))) && (decide ((IntKind.i64.wrap (r16 + 1)) ≤ (((gl w 2).length : Nat) : Int)))) then
        bif ((roomy ((((gl w 2).take r16.toNat).length) + (((gl w 2).drop (0 + ((IntKind.i64.wrap (r16 + 1)).toNat))).length)) 16) && true) then
          some (true, (V.agg [(V.int .i64 (gi w 0)), (V.int .i64 (gi w 1)), (V.inl t_impl_Timer (((gl w 2).take r16.toNat) ++ ((gl w 2).drop (0 + ((IntKind.i64.wrap (r16 + 1)).toNat)))))]))
        else none
      else none
    else none
  else none
def spec_l7set_l6 : Nat → Int → V → V → List V → Option (Int × V × V × List V)
  | 0, _, _, _, _ => none
  | k_ + 1, i8, b0, b1, r2 =>
    bif (decide (i8 < ((r2.length : Nat) : Int))) then
      bif (idxOk i8 r2.length) then
        bif spec_l7ahead (n_impl_Reply (rd r2 (0 + i8.toNat))) (n_impl_Reply b1) then
          spec_l7set_l6 k_ (IntKind.i64.wrap (i8 + 1)) (V.agg [(V.int .i64 (gi b0 0)), (V.int .i64 (gi b0 1)), (V.sl 2 t_impl_Timer 0 none)]) (n_impl_Reply b1) r2
        else some (i8, (V.agg [(V.int .i64 (gi b0 0)), (V.int .i64 (gi b0 1)), (V.sl 2 t_impl_Timer 0 none)]), (n_impl_Reply b1), r2)
      else none
    else some (i8, (V.agg [(V.int .i64 (gi b0 0)), (V.int .i64 (gi b0 1)), (V.sl 2 t_impl_Timer 0 none)]), (n_impl_Reply b1), r2)
def spec_l7set (w : V) (id : Int) (after : Int) : Option (Bool × V) :=
  bif (decide (id < 0)) then
    some (false, (n_impl_Duty w))
  else bif (decide ((2147483647 : Int) < id)) then
    some (false, (n_impl_Duty w))
  else bif (decide (after < 1)) then
    some (false, (n_impl_Duty w))
  else bif (decide ((1000000 : Int) < after)) then
    some (false, (n_impl_Duty w))
  else Option.bind (spec_l7find (gl w 2) id) fun r15 =>
  bif (decide (r15 < 0)) then
    bif (decide ((40 : Int) ≤ (((gl w 2).length : Nat) : Int))) then
      some (false, (n_impl_Duty w))
    else Option.bind (spec_l7stop (n_impl_Duty w) id) fun r17 =>
    Option.bind (spec_l7set_l6 (((((gl r17.2 2).length : Nat) : Int) - 0).toNat + 1) 0 (V.agg [(V.int .i64 (gi r17.2 0)), (V.int .i64 (gi r17.2 1)), (V.sl 2 t_impl_Timer 0 none)]) (V.agg [(V.int .i64 id), (V.int .i64 (IntKind.i64.wrap ((gi r17.2 1) + after)))]) (gl r17.2 2)) fun r18 =>
    bif ((decide ((0 : Int) ≤ r18.1)) && (decide (r18.1 ≤ ((r18.2.2.2.length : Nat) : Int)))) then
      bif ((roomy (0 + ((r18.2.2.2.take r18.1.toNat).length)) 16) && true) then
        bif ((roomy (((r18.2.2.2.take r18.1.toNat).length) + 1) 16) && true) then
          bif ((decide ((0 : Int) ≤ r18.1)) && (decide (r18.1 ≤ ((r18.2.2.2.length : Nat) : Int)))) then
            bif ((roomy ((((r18.2.2.2.take r18.1.toNat) ++ [(n_impl_Reply r18.2.2.1)]).length) + ((r18.2.2.2.drop (0 + r18.1.toNat)).length)) 16) && true) then
              some (true, (V.agg [(V.int .i64 (gi r18.2.1 0)), (V.int .i64 (gi r18.2.1 1)), (V.inl t_impl_Timer (((r18.2.2.2.take r18.1.toNat) ++ [(n_impl_Reply r18.2.2.1)]) ++ (r18.2.2.2.drop (0 + r18.1.toNat))))]))
            else none
          else none
        else none
      else none
    else none
  else Option.bind (spec_l7stop (n_impl_Duty w) id) fun r19 =>
  Option.bind (spec_l7set_l6 (((((gl r19.2 2).length : Nat) : Int) - 0).toNat + 1) 0 (V.agg [(V.int .i64 (gi r19.2 0)), (V.int .i64 (gi r19.2 1)), (V.sl 2 t_impl_Timer 0 none)]) (V.agg [(V.int .i64 id), (V.int .i64 (IntKind.i64.wrap ((gi r19.2 1) + after)))]) (gl r19.2 2)) fun r20 =>
  bif ((decide ((0 : Int) ≤ r20.1)) && (decide (r20.1 ≤ ((r20.2.2.2.length : Nat) : Int)))) then
    bif ((roomy (0 + ((r20.2.2.2.take r20.1.toNat).length)) 16) && true) then
      bif ((roomy (((r20.2.2.2.take r20.1.toNat).length) + 1) 16) && true) then
        bif ((decide ((0 : Int) ≤ r20.1)) && (decide (r20.1 ≤ ((r20.2.2.2.length : Nat) : Int)))) then
          bif ((roomy ((((r20.2.2.2.take r20.1.toNat) ++ [(n_impl_Reply r20.2.2.1)]).length) + ((r20.2.2.2.drop (0 + r20.1.toNat)).length)) 16) && true) then
            some (true, (V.agg [(V.int .i64 (gi r20.2.1 0)), (V.int .i64 (gi r20.2.1 1)), (V.inl t_impl_Timer (((r20.2.2.2.take r20.1.toNat) ++ [(n_impl_Reply r20.2.2.1)]) ++ (r20.2.2.2.drop (0 + r20.1.toNat))))]))
          else none
        else none
      else none
    else none
  else none
def spec_DutyRenew (d : V) (id : Int) : Option (V × Bool) :=
  Option.bind (spec_DutyOk (n_impl_Duty d)) fun r11 =>
  bif (!r11) then
    some ((V.agg [(V.int .i64 0), (V.int .i64 0), (V.inl t_impl_Timer [])]), false)
  else Option.bind (spec_l15own (n_impl_Duty d)) fun r13 =>
  Option.bind (spec_l7find (gl r13 2) id) fun r14 =>
  bif (decide (r14 < 0)) then
    some ((n_impl_Duty r13), false)
  else Option.bind (spec_l7set (n_impl_Duty r13) id (gi d 0)) fun r21 =>
  some ((n_impl_Duty r21.2), true)
def impl_within (n : Int) (low : Int) (high : Int) : Bool :=
  bif (decide (low ≤ n)) then
    (decide (n ≤ high))
  else false
def impl_isId (id : Int) : Bool :=
  (impl_within id 0 2147483647)
def impl_Wheel_timer_1 (t : V) (a1 : V) : Bool :=
  (decide ((gi t 0) = (gi a1 0)))
def slices_IndexFunc_Timer_l2 : Nat → List V → V → Int → Int → Option (Nat × Int)
  | 0, _, _, _, _ => none
  | k_ + 1, s0, f1_0, v7, v8 =>
    bif (decide (v8 < v7)) then
      bif (idxOk v8 s0.length) then
        bif impl_Wheel_timer_1 (n_impl_Reply (rd s0 v8.toNat)) (V.agg [(V.int .i64 (gi f1_0 0))]) then
          some (0, v8)
        else slices_IndexFunc_Timer_l2 k_ s0 (V.agg [(V.int .i64 (gi f1_0 0))]) v7 (IntKind.i64.wrap (v8 + 1))
      else none
    else some (1, 0)
def slices_IndexFunc_Timer (s : List V) (f_0 : V) : Option (Int) :=
  Option.bind (slices_IndexFunc_Timer_l2 ((((s.length : Nat) : Int) - 0).toNat + 1) s (V.agg [(V.int .i64 (gi f_0 0))]) ((s.length : Nat) : Int) 0) fun r24 =>
  bif (Nat.beq r24.1 0) then
    some r24.2
  else some (-1)
def impl_Wheel_timer (w : V) (id : Int) : Option (Int) :=
  Option.bind (slices_IndexFunc_Timer (gl w 1) (V.agg [(V.int .i64 id)])) fun r25 =>
  some r25
def cmp_isNaN_int (x : Int) : Bool :=
  (!(decide (x = x)))
def cmp_Compare_int (x : Int) (y : Int) : Int :=
  bif cmp_isNaN_int x then
    bif cmp_isNaN_int y then
      0
    else (-1)
  else bif cmp_isNaN_int y then
    1
  else bif (decide (x < y)) then
    (-1)
  else bif (decide (y < x)) then
    1
  else 0
def cmp_Or_int_l3 : Nat → Int → List V → Int → Int → Option (Nat × Int × Int)
  | 0, _, _, _, _ => none
  | k_ + 1, zero3, v6, v7, v8 =>
    bif (decide (v8 < v7)) then
      bif (idxOk v8 v6.length) then
        bif (!(decide ((gi (rd v6 v8.toNat) 0) = zero3))) then
          some (0, (gi (rd v6 v8.toNat) 0), zero3)
        else cmp_Or_int_l3 k_ zero3 v6 v7 (IntKind.i64.wrap (v8 + 1))
      else none
    else some (1, 0, zero3)
def cmp_Or_int (vals : List V) : Option (Int) :=
  Option.bind (cmp_Or_int_l3 ((((vals.length : Nat) : Int) - 0).toNat + 1) 0 vals ((vals.length : Nat) : Int) 0) fun r27 =>
  bif (Nat.beq r27.1 0) then
    some r27.2.1
  else some r27.2.2
def impl_compareTimers (a : V) (b : V) : Option (Int) :=
  Option.bind (cmp_Or_int [(V.int .i64 (cmp_Compare_int (gi a 1) (gi b 1))), (V.int .i64 (cmp_Compare_int (gi a 0) (gi b 0)))]) fun r28 =>
  some r28
def impl_WheelOk_l4 : Nat → List V → Int → Int → V → Option (Nat × Bool)
  | 0, _, _, _, _ => none
  | k_ + 1, v16, v17, v18, b0 =>
    bif (decide (v18 < v17)) then
      bif (idxOk v18 v16.length) then
        bif (!(impl_isId (gi (rd v16 v18.toNat) 0))) then
          some (0, false)
        else Option.bind (impl_Wheel_timer (n_impl_Wheel b0) (gi (rd v16 v18.toNat) 0)) fun r26 =>
        bif (!(decide (r26 = v18))) then
          some (0, false)
        else bif (!(impl_within (gi (rd v16 v18.toNat) 1) (IntKind.i64.wrap ((gi b0 0) + 1)) 2000000)) then
          some (0, false)
        else bif (decide ((0 : Int) < v18)) then
          bif (idxOk (IntKind.i64.wrap (v18 - 1)) ((gl b0 1).length)) then
            Option.bind (impl_compareTimers (n_impl_Reply (rd (gl b0 1) ((IntKind.i64.wrap (v18 - 1)).toNat))) (n_impl_Reply (rd v16 v18.toNat))) fun r29 =>
            bif (decide ((0 : Int) ≤ r29)) then
              some (0, false)
            else impl_WheelOk_l4 k_ v16 v17 (IntKind.i64.wrap (v18 + 1)) (n_impl_Wheel b0)
          else none
        else impl_WheelOk_l4 k_ v16 v17 (IntKind.i64.wrap (v18 + 1)) (n_impl_Wheel b0)
      else none
    else some (1, false)
def impl_WheelOk (w : V) : Option (Bool) :=
  bif (!(impl_within (gi w 0) 0 1000000)) then
    some false
  else bif (decide ((40 : Int) < (((gl w 1).length : Nat) : Int))) then
    some false
  else Option.bind (impl_WheelOk_l4 (((((gl w 1).length : Nat) : Int) - 0).toNat + 1) (gl w 1) (((gl w 1).length : Nat) : Int) 0 (n_impl_Wheel w)) fun r30 =>
  bif (Nat.beq r30.1 0) then
    some r30.2
  else some true
def impl_DutyOk_1 (t : V) (a1 : V) : Bool :=
  (decide ((gi a1 0) < (IntKind.i64.wrap ((gi t 1) - (gi a1 1)))))
def slices_IndexFunc_Timer_v1_l2 : Nat → List V → V → Int → Int → Option (Nat × Int)
  | 0, _, _, _, _ => none
  | k_ + 1, s0, f1_0, v7, v8 =>
    bif (decide (v8 < v7)) then
      bif (idxOk v8 s0.length) then
        bif impl_DutyOk_1 (n_impl_Reply (rd s0 v8.toNat)) (n_impl_Duty f1_0) then
          some (0, v8)
        else slices_IndexFunc_Timer_v1_l2 k_ s0 (n_impl_Duty f1_0) v7 (IntKind.i64.wrap (v8 + 1))
      else none
    else some (1, 0)
def slices_IndexFunc_Timer_v1 (s : List V) (f_0 : V) : Option (Int) :=
  Option.bind (slices_IndexFunc_Timer_v1_l2 ((((s.length : Nat) : Int) - 0).toNat + 1) s (n_impl_Duty f_0) ((s.length : Nat) : Int) 0) fun r32 =>
  bif (Nat.beq r32.1 0) then
    some r32.2
  else some (-1)
def slices_ContainsFunc_Timer (s : List V) (f_0 : V) : Option (Bool) :=
  Option.bind (slices_IndexFunc_Timer_v1 s (n_impl_Duty f_0)) fun r33 =>
  some (decide ((0 : Int) ≤ r33))
def impl_DutyOk (d : V) : Option (Bool) :=
  bif (!(impl_within (gi d 0) 1 1000)) then
    some false
  else Option.bind (impl_WheelOk (V.agg [(V.int .i64 (gi d 1)), (V.inl t_impl_Timer (gl d 2))])) fun r31 =>
  bif (!r31) then
    some false
  else bif (decide ((8 : Int) < (((gl d 2).length : Nat) : Int))) then
    some false
  else Option.bind (slices_ContainsFunc_Timer (gl d 2) (n_impl_Duty d)) fun r34 =>
  some (!r34)
def slices_Clone_Timer (s : List V) : Option (List V) :=
  bif ((roomy (0 + s.length) 16) && true) then
    some s
  else none
def impl_Wheel_own (w : V) : Option (V) :=
  Option.bind (slices_Clone_Timer (gl w 1)) fun r36 =>
  some (V.agg [(V.int .i64 (gi w 0)), (V.inl t_impl_Timer r36)])
def impl_Duty_own (d : V) : Option (V) :=
  Option.bind (impl_Wheel_own (V.agg [(V.int .i64 (gi d 1)), (V.inl t_impl_Timer (gl d 2))])) fun r37 =>
  some (V.agg [(V.int .i64 (gi d 0)), (V.int .i64 (gi r37 0)), (V.inl t_impl_Timer (gl r37 1))])
def impl_Wheel_stop (w : V) (id : Int) : Option (Bool × V) :=
  Option.bind (impl_Wheel_timer (V.agg [(V.int .i64 (gi w 1)), (V.inl t_impl_Timer (gl w 2))]) id) fun r40 =>
  bif (decide ((0 : Int) ≤ r40)) then
    Option.bind (delV (gl w 2) r40 (IntKind.i64.wrap (r40 + 1))) fun r41 =>
    some ((decide ((0 : Int) ≤ r40)), (V.agg [(V.int .i64 (gi w 0)), (V.int .i64 (gi w 1)), (V.inl t_impl_Timer r41)]))
  else some ((decide ((0 : Int) ≤ r40)), (n_impl_Duty w))
def impl_Wheel_set (w : V) (id : Int) (after : Int) : Option (V) :=
  Option.bind (impl_Wheel_stop (n_impl_Duty w) id) fun r42 =>
  bif ((roomy (((gl r42.2 2).length) + 1) 16) && true) then
    Option.bind (srtO cfT ((gl r42.2 2) ++ [(V.agg [(V.int .i64 id), (V.int .i64 (IntKind.i64.wrap ((gi r42.2 1) + after)))])])) fun r43 =>
    some (V.agg [(V.int .i64 (gi r42.2 0)), (V.int .i64 (gi r42.2 1)), (V.inl t_impl_Timer r43)])
  else none
def impl_DutyRenew (d : V) (id : Int) : Option (V × Bool) :=
  Option.bind (impl_DutyOk (n_impl_Duty d)) fun r35 =>
  bif (!r35) then
    some ((V.agg [(V.int .i64 0), (V.int .i64 0), (V.inl t_impl_Timer [])]), false)
  else Option.bind (impl_Duty_own (n_impl_Duty d)) fun r38 =>
  Option.bind (impl_Wheel_timer (V.agg [(V.int .i64 (gi r38 1)), (V.inl t_impl_Timer (gl r38 2))]) id) fun r39 =>
  bif (decide (r39 < 0)) then
    some ((n_impl_Duty r38), false)
  else Option.bind (impl_Wheel_set (n_impl_Duty r38) id (gi d 0)) fun r44 =>
  some ((n_impl_Duty r44), true)
def laws_eqTimer (a : V) (b : V) : Bool :=
  bif (!(decide ((gi a 0) = (gi b 0)))) then
    false
  else bif (!(decide ((gi a 1) = (gi b 1)))) then
    false
  else true
def laws_eqTimerS_l4 : Nat → List V → List V → Int → Option (Nat × Bool)
  | 0, _, _, _ => none
  | k_ + 1, a0, b1, i5 =>
    bif (decide (i5 < ((a0.length : Nat) : Int))) then
      bif (idxOk i5 a0.length) then
        bif (idxOk i5 b1.length) then
          bif (!(laws_eqTimer (n_impl_Reply (rd a0 i5.toNat)) (n_impl_Reply (rd b1 i5.toNat)))) then
            some (0, false)
          else laws_eqTimerS_l4 k_ a0 b1 (IntKind.i64.wrap (i5 + 1))
        else none
      else none
    else some (1, false)
def laws_eqTimerS (a : List V) (b : List V) : Option (Bool) :=
  bif (!(decide (((a.length : Nat) : Int) = ((b.length : Nat) : Int)))) then
    some false
  else Option.bind (laws_eqTimerS_l4 ((((a.length : Nat) : Int) - 0).toNat + 1) a b 0) fun r46 =>
  bif (Nat.beq r46.1 0) then
    some r46.2
  else some true
def laws_eqWheel (a : V) (b : V) : Option (Bool) :=
  bif (!(decide ((gi a 0) = (gi b 0)))) then
    some false
  else Option.bind (laws_eqTimerS (gl a 1) (gl b 1)) fun r47 =>
  bif (!r47) then
    some false
  else some true
def laws_eqDuty (a : V) (b : V) : Option (Bool) :=
  bif (!(decide ((gi a 0) = (gi b 0)))) then
    some false
  else Option.bind (laws_eqWheel (V.agg [(V.int .i64 (gi a 1)), (V.inl t_impl_Timer (gl a 2))]) (V.agg [(V.int .i64 (gi b 1)), (V.inl t_impl_Timer (gl b 2))])) fun r48 =>
  bif (!r48) then
    some false
  else some true
def laws_markTimerS_l2 : Nat → Int → Int → List V → Option (Int × List V)
  | 0, _, _, _ => none
  | k_ + 1, k1, i5, r0 =>
    bif (decide (i5 < ((r0.length : Nat) : Int))) then
      bif (idxOk i5 r0.length) then
        bif (idxOk i5 ((r0.set (0 + i5.toNat) (V.agg [(V.int .i64 k1), (V.int .i64 (gi (rd r0 (0 + i5.toNat)) 1))])).length)) then
          rlet (((r0.set (0 + i5.toNat) (V.agg [(V.int .i64 k1), (V.int .i64 (gi (rd r0 (0 + i5.toNat)) 1))])).set (0 + i5.toNat) (V.agg [(V.int .i64 (gi (rd (r0.set (0 + i5.toNat) (V.agg [(V.int .i64 k1), (V.int .i64 (gi (rd r0 (0 + i5.toNat)) 1))])) (0 + i5.toNat)) 0)), (V.int .i64 (IntKind.i64.wrap (k1 + 1)))]))) fun u52 =>
          laws_markTimerS_l2 k_ (IntKind.i64.wrap ((IntKind.i64.wrap (k1 + 1)) + 1)) (IntKind.i64.wrap (i5 + 1)) u52
        else none
      else none
    else some (k1, r0)
def laws_markTimerS (a : List V) (k : Int) : Option (Int × List V) :=
  Option.bind (laws_markTimerS_l2 ((((a.length : Nat) : Int) - 0).toNat + 1) k 0 a) fun r53 =>
  some (r53.1, r53.2)
def laws_markWheel (a : V) (k : Int) : Option (Int × List V) :=
  Option.bind (laws_markTimerS (gl a 1) k) fun r54 =>
  some (r54.1, r54.2)
def laws_markDuty (a : V) (k : Int) : Option (Int × List V) :=
  Option.bind (laws_markWheel (V.agg [(V.int .i64 (gi a 1)), (V.inl t_impl_Timer (gl a 2))]) k) fun r55 =>
  some (r55.1, r55.2)
def laws_heldTimerS_l2 : Nat → List V → Int → Int → Option (Nat × Int × Int)
  | 0, _, _, _ => none
  | k_ + 1, a0, k1, i5 =>
    bif (decide (i5 < ((a0.length : Nat) : Int))) then
      bif (idxOk i5 a0.length) then
        bif (!(decide ((gi (rd a0 i5.toNat) 0) = k1))) then
          some (0, k1, -1)
        else bif (idxOk i5 a0.length) then
          bif (!(decide ((gi (rd a0 i5.toNat) 1) = (IntKind.i64.wrap (k1 + 1))))) then
            some (0, (IntKind.i64.wrap (k1 + 1)), -1)
          else laws_heldTimerS_l2 k_ a0 (IntKind.i64.wrap ((IntKind.i64.wrap (k1 + 1)) + 1)) (IntKind.i64.wrap (i5 + 1))
        else none
      else none
    else some (1, k1, 0)
def laws_heldTimerS (a : List V) (k : Int) : Option (Int) :=
  Option.bind (laws_heldTimerS_l2 ((((a.length : Nat) : Int) - 0).toNat + 1) a k 0) fun r59 =>
  bif (Nat.beq r59.1 0) then
    some r59.2.2
  else some r59.2.1
def laws_heldWheel (a : V) (k : Int) : Option (Int) :=
  Option.bind (laws_heldTimerS (gl a 1) k) fun r60 =>
  bif (decide (r60 < 0)) then
    some (-1)
  else some r60
def laws_heldDuty (a : V) (k : Int) : Option (Int) :=
  Option.bind (laws_heldWheel (V.agg [(V.int .i64 (gi a 1)), (V.inl t_impl_Timer (gl a 2))]) k) fun r61 =>
  bif (decide (r61 < 0)) then
    some (-1)
  else some r61
def laws_FnExactDutyRenew (aD : V) (aId : Int) : Option (Bool) :=
  bif (decide ((laws_szDuty (n_laws_Duty aD) 1048576) < 0)) then
    some true
  else Option.bind (laws_toDuty (n_laws_Duty aD)) fun r4 =>
  Option.bind (spec_DutyRenew (n_impl_Duty r4) aId) fun r22 =>
  Option.bind (laws_toDuty (n_laws_Duty aD)) fun r23 =>
  Option.bind (impl_DutyRenew (n_impl_Duty r23) aId) fun r45 =>
  Option.bind (laws_eqDuty (n_impl_Duty r45.1) (n_impl_Duty r22.1)) fun r49 =>
  bif (!r49) then
    some false
  else bif (!(r45.2 == r22.2)) then
    some false
  else Option.bind (laws_toDuty (n_laws_Duty aD)) fun r50 =>
  Option.bind (laws_eqDuty (n_impl_Duty r23) (n_impl_Duty r50)) fun r51 =>
  bif (!r51) then
    some false
  else Option.bind (laws_markDuty (n_impl_Duty r23) 1) fun r56 =>
  bif (decide (r56.1 < 0)) then
    some false
  else Option.bind (laws_eqDuty (n_impl_Duty r45.1) (n_impl_Duty r22.1)) fun r57 =>
  bif (!r57) then
    some false
  else bif (!(r45.2 == r22.2)) then
    some false
  else Option.bind (laws_markDuty (n_impl_Duty r45.1) 1) fun r58 =>
  Option.bind (laws_heldDuty (V.agg [(V.int .i64 (gi r45.1 0)), (V.int .i64 (gi r45.1 1)), (V.inl t_impl_Timer r58.2)]) 1) fun r62 =>
  bif (decide (r62 < 0)) then
    some false
  else bif (!(decide (r62 = r58.1))) then
    some false
  else Option.bind (laws_toDuty (n_laws_Duty aD)) fun r63 =>
  Option.bind (impl_DutyRenew (n_impl_Duty r63) aId) fun r64 =>
  Option.bind (laws_eqDuty (n_impl_Duty r64.1) (n_impl_Duty r22.1)) fun r65 =>
  bif (!r65) then
    some false
  else bif (!(r64.2 == r22.2)) then
    some false
  else Option.bind (laws_heldDuty (V.agg [(V.int .i64 (gi r45.1 0)), (V.int .i64 (gi r45.1 1)), (V.inl t_impl_Timer r58.2)]) 1) fun r66 =>
  bif (decide (r66 < 0)) then
    some false
  else bif (!(decide (r66 = r58.1))) then
    some false
  else some true
end Go.Eng.R
open Go Go.Eng Go.Proofs
namespace Go.Eng.R
theorem tab_ok : TabOk Try.prog tab := tabB_spec (by kernel_rfl)
theorem mixed : Try.prog.follows .mixedOrders = true := by kernel_rfl
theorem base : Base Try.prog tab := ⟨tab_ok, mixed⟩
def q0 : List S1 := [(.int .i64), (.int .i64), (.inl t_laws_Timer)]
def h1 (x : V) : V := V.agg [(V.int .i64 (gi x 0)), (V.rr t_impl_Timer true (gl x 1))]
def h2 (x : V) : V := V.agg [(V.int .i64 (gi x 0)), (V.int .i64 (gi x 1)), (V.rr t_impl_Timer true (gl x 2))]
def q3 : List S1 := [(.int .i64), (.int .i64), (.inl t_impl_Timer)]
def q4 : List S1 := [(.int .i64), (.int .i64), (.rr t_impl_Timer true)]
def l5 (x : V) : List V := [(V.int .i64 (gi x 0)), (V.int .i64 (gi x 1)), (V.rr t_impl_Timer true (gl x 2))]
def l6 (x : V) : List V := [(V.int .i64 (gi x 0)), (V.int .i64 (gi x 1)), (V.sl 2 t_impl_Timer 0 none)]
def l7 (x : V) : List V := [(V.int .i64 (gi x 0)), (V.int .i64 (gi x 1))]
def q8 : List S1 := [(.int .i64), (.int .i64), (.sl 2 t_impl_Timer)]
def q9 : List S1 := [(.int .i64), (.int .i64), (.dr t_impl_Timer)]
end Go.Eng.R
open Go Go.Eng Go.Proofs
namespace Go.Eng.R
theorem inf187 : (Try.prog.info? 187).map (·.size) = some 2 := by kernel_rfl
theorem sz187 : ∀ w, (Go.sizeOf 187).run Try.prog w = .ok 2 w := fun w => by kernel_rfl
theorem zv187 : ∀ w, (zeroValue 187).run Try.prog w = .ok (Value.agg #[.int .i64 0, .int .i64 0]) w := fun w => by kernel_rfl
theorem info187 : (Try.prog.info? 187).map (fun i => (i.zero, i.size, i.bytes)) = some (some (Value.agg #[.int .i64 0, .int .i64 0]), 2, 16) := by kernel_rfl
set_option maxHeartbeats 4000000 in
set_option maxRecDepth 1000000 in
theorem delSame179 : DelSame Try.prog 179 := by
  intro a n cap i w hin hn hcm
  go_enter Try.func179, Try.ntmps179
  go_wp2
  all_goals (go_ret; exact ⟨rfl, .refl _ _⟩)
set_option maxHeartbeats 4000000 in
set_option maxRecDepth 1000000 in
theorem del179 : DelOk Try.prog 179 187 2 := by
  intro g n cap i j cur w hg hs hn hcm h1 hij hj
  have hne : ¬ ((i : Int) = (j : Int)) := by omega
  have hb1 : (i : Int) ≤ (j : Int) := by omega
  have hb2 : (j : Int) ≤ (n : Int) := by omega
  have hb3 : (i : Int) ≤ (n : Int) := by omega
  have hb4 : i ≤ cap := by omega
  have hb5 : j ≤ cap := by omega
  obtain ⟨news, hnews⟩ : ∃ news, news = (cur.toList.drop (j * 2)).take ((n - j) * 2) := ⟨_, rfl⟩
  have hnl : news.length = (n - j) * 2 := by rw [hnews]; simp; omega
  have hsrc : ∀ k v, news[k]? = some v → w.cell? ((⟨g, j * 2, none⟩ : Addr).add k) = some v := by
    rw [hnews]; exact src_cells hg (by omega)
  have hone : ∀ v ∈ news, v.oneCell' = true := fun v hv => h1 v (by
    rw [hnews] at hv
    have : (cur.toList.drop (j * 2)).take ((n - j) * 2) = (cur.toList.take (n * 2)).drop (j * 2) := by
      rw [List.drop_take]; congr 1; omega
    rw [this] at hv
    exact List.mem_of_mem_drop hv)
  obtain ⟨c1, hc1⟩ : ∃ c1, c1 = (cur.toList.take (i * 2) ++ news ++ cur.toList.drop (i * 2 + news.length)).toArray := ⟨_, rfl⟩
  have hap : ∀ (W : World) (a : Addr) (m sc : Nat) (ty : TypeId), W.heap[g]? = w.heap[g]? → m = n - j → (m = 0 ∨ a = ⟨g, j * 2, none⟩) →
      (Builtin.append_ #[74, 74] ty #[.slice (some ⟨g, 0, none⟩) i cap, .slice (some a) m sc]).run Try.prog W = .ok (.slice (some ⟨g, 0, none⟩) (i + m) cap) (W.setRow g c1) := by
    intro W a m sc ty hW hm ha
    rw [hm] at ha ⊢
    have hst := run_storeCells_at Try.prog g (i * 2) 187 news 0 cur W (hW.trans hg) (by rw [hnl]; omega) hone
    simp only [Nat.add_zero] at hst
    rw [← hc1] at hst
    have hfc : (Builtin.firstCells 2 (n - j) (.slice (some a) (n - j) sc)).run Try.prog W = .ok news.toArray W := by
      refine run_firstCells_some (P := Try.prog) W 2 (n - j) a (n - j) sc news hnl fun k v hk => ?_
      rcases ha with h | rfl
      · have := (List.getElem?_eq_some_iff.1 hk).1
        rw [hnl] at this; omega
      · have := hsrc k v hk
        rw [← this]
        simp [World.cell?, hW, Addr.add_none]
    have hr : i + (n - j) ≤ cap := by omega
    cases hq : Try.prog.info? 187 with
    | none => have := inf187; rw [hq] at this; simp at this
    | some i0 =>
      have hi : i0.size = 2 := by have := inf187; rw [hq] at this; simpa using this
      simp [Builtin.append_, run_underlying Try.underlying74, sizeOf, typeInfo, hq, hi, Builtin.lenOf, hr, hfc, Addr.add_none, hst]
  have hc1s : c1.size = cap * 2 := by rw [hc1]; simp; omega
  have hc1t : c1.toList.take ((i + (n - j)) * 2) = (cur.toList.take (n * 2)).take (i * 2) ++ (cur.toList.take (n * 2)).drop (j * 2) := by
    rw [hc1]
    simp only [List.append_assoc]
    rw [← List.append_assoc, show (i + (n - j)) * 2 = (cur.toList.take (i * 2) ++ news).length from by simp [hnl]; omega, List.take_left, hnews, List.take_take, Nat.min_eq_left (by omega), List.drop_take]
    congr 2
    omega
  have hsub : n - (j - i) = i + (n - j) := by omega
  have hz : (Value.agg #[.int .i64 0, .int .i64 0]).cells.size = 2 := rfl
  have hz1 : ∀ v ∈ (Value.agg #[.int .i64 0, .int .i64 0]).cells, v.oneCell' = true := by decide
  rw [hsub]
  have hcn : ¬ (cap = i + (n - j)) := by omega
  have hlt : ((i + (n - j) : Nat) : Int) ≤ (n : Int) := by omega
  have hfin : ∀ (W1 : World) (d : Array Value), W1.heap[g]? = some (.cells d 187 (0, 0)) → d.size = cap * 2 → d.toList.take ((i + (n - j)) * 2) = (cur.toList.take (n * 2)).take (i * 2) ++ (cur.toList.take (n * 2)).drop (j * 2) → KeptBut [g] w W1 →
      ∃ W2, (∀ sc, (Builtin.clear_ #[74] 0 #[.slice (some ⟨g, (i + (n - j)) * 2, none⟩) (n - (i + (n - j))) sc]).run Try.prog W1 = .ok (.tuple #[]) W2) ∧
        ∃ cur' : Array Value, W2.heap[g]? = some (.cells cur' 187 (0, 0)) ∧ cur'.size = cap * 2 ∧ cur'.toList.take ((i + (n - j)) * 2) = (cur.toList.take (n * 2)).take (i * 2) ++ (cur.toList.take (n * 2)).drop (j * 2) ∧ KeptBut [g] w W2 := by
    intro W1 d e1 e2 e3 e4
    obtain ⟨tl, t1, t2⟩ := run_clear_k (P := Try.prog) W1 74 187 0 _ 2 Try.underlying74 zv187 hz hz1 (by omega) g ((i + (n - j)) * 2) (n - (i + (n - j))) (by omega) d 187 e1 (by omega)
    refine ⟨W1.setRow g (d.toList.take ((i + (n - j)) * 2) ++ tl ++ d.toList.drop ((i + (n - j)) * 2 + tl.length)).toArray, t2, (d.toList.take ((i + (n - j)) * 2) ++ tl ++ d.toList.drop ((i + (n - j)) * 2 + tl.length)).toArray, setRow_heap W1 g d _ 187 _ e1, ?_, ?_, e4.trans (KeptBut.setRow (by simp) _)⟩
    · simp; omega
    · rw [← e3, List.append_assoc]
      simp only
      rw [show (i + (n - j)) * 2 = (d.toList.take ((i + (n - j)) * 2)).length from by simp; omega]
      simp
  clear hc1 hnews hz hz1 hnl hsrc hone h1
  by_cases hjn : j = n
  · have hk : cur.toList.take ((i + (n - j)) * 2) = (cur.toList.take (n * 2)).take (i * 2) ++ (cur.toList.take (n * 2)).drop (j * 2) := by
      subst hjn
      rw [Nat.sub_self, Nat.add_zero, List.take_take, Nat.min_eq_left (by omega), List.drop_of_length_le (by simp; omega), List.append_nil]
    obtain ⟨W2, hcl, hpost⟩ := hfin w.drew cur hg hs hk (KeptBut.refl _ w).drew
    have e0 : i + (n - j) = i := by omega
    rw [e0] at hcl hpost hcn ⊢
    clear hfin hc1t hap hk hsub hlt e0
    subst hjn
    by_cases hcj : cap = j
    · subst hcj
      go_enter Try.func179, Try.ntmps179
      go_wp2
      go_region
      go_wp2_with (at_builtin; refine wpList_clear_k rfl _ 74 rfl _ rfl (hcl _) ?_)
      go_ret
      exact ⟨rfl, hpost⟩
    · go_enter Try.func179, Try.ntmps179
      go_wp2
      go_region
      go_wp2_with (at_builtin; refine wpList_clear_k rfl _ 74 rfl _ rfl (hcl _) ?_)
      go_ret
      exact ⟨rfl, hpost⟩
  · have hcj : ¬ (cap = j) := by omega
    obtain ⟨W2, hcl, hpost⟩ := hfin (w.drew.setRow g c1) c1 (setRow_heap _ g cur _ 187 _ hg) hc1s hc1t ((KeptBut.refl _ w).drew.trans (KeptBut.setRow (by simp) _))
    clear hfin hc1t
    go_enter Try.func179, Try.ntmps179
    go_wp2
    go_region_law (refine step_append_k rfl _ _ 74 74 rfl _ _ (by simp [Act.eval, Act.put]) (by simp [Act.eval, Act.put]) (hap w.drew ⟨g, j * 2, none⟩ (n - j) (cap - j) 74 rfl rfl (Or.inr rfl)) ?_)
    go_wp2_with (at_builtin; refine wpList_clear_k rfl _ 74 rfl _ rfl (hcl _) ?_)
    go_ret
    exact ⟨rfl, hpost⟩
section
open Go.Shelf Go.RowKit Go.Lib Go.Sort
theorem third_block {W : World} {o1 o2 o3 : Obj} {g : Nat} (hg : g = W.heap.size + 1 + 1) : (((W.alloc o1).alloc o2).alloc o3).drew.heap[g]? = some o3 := by
  subst hg
  have e : (((W.alloc o1).alloc o2).alloc o3).drew.heap = ((W.heap.push o1).push o2).push o3 := rfl
  rw [e, Array.getElem?_push, if_pos (by simp)]
set_option maxHeartbeats 4000000 in
set_option maxRecDepth 1000000 in
theorem or182 (x y r : Int) (h0 : x = 0 → r = y) (h1 : x ≠ 0 → r = x) (W : World) (g : Nat) (hg : W.heap[g]? = some (.cells #[.int .i64 x, .int .i64 y] 3 (0, 0))) :
    Calls Try.prog 182 #[.slice (some ⟨g, 0, none⟩) 2 2] W fun e w' => e = .returned (.int .i64 r) ∧ w' = W := by
  have c0 : W.cell? ⟨g, 0, none⟩ = some (.int .i64 x) := by simp [World.cell?, hg]
  have c1 : W.cell? ⟨g, 1, none⟩ = some (.int .i64 y) := by simp [World.cell?, hg]
  go_enter Try.func182, Try.ntmps182
  go_wp2
  go_rounds 3
  all_goals go_ret
  · have hx : (x != 0) = true := by assumption
    rw [h1 (by simpa using hx)]; exact ⟨rfl, rfl⟩
  · have hx : (x != 0) = false := by assumption
    rw [h0 (by simpa using hx)]; exact ⟨rfl, rfl⟩
  · have hx : (x != 0) = false := by assumption
    have hy : (y != 0) = false := by assumption
    rw [h0 (by simpa using hx), show y = 0 by simpa using hy]; exact ⟨rfl, rfl⟩
def sortL154_ren : Go.Shelf.Ren := ⟨fun | 6 => 154 | 15 => 181 | 14 => 180 | 28 => 205 | 29 => 206 | 20 => 197 | 21 => 198 | 22 => 199 | 23 => 200 | 24 => 201 | 25 => 202 | 26 => 203 | 27 => 204 | 46 => 216 | 47 => 217 | 48 => 218 | 49 => 219 | 50 => 220 | 57 => 222 | n => n, fun | 22 => 74 | 24 => 187 | 25 => 197 | 3 => 3 | 39 => 158 | 0 => 0 | 53 => 234 | 55 => 236 | 4 => 4 | 46 => 228 | 45 => 227 | 50 => 93 | 5 => 5 | 9 => 9 | 66 => 245 | 70 => 249 | 76 => 251 | 77 => 252 | n => n, fun | n => n⟩
theorem sortL154 : Go.Proofs.SlLaysF0.n6 Try.prog sortL154_ren where
  mixed := by kernel_rfl
  f6 := ⟨Try.f154.name, by decide, Try.func154.trans (congrArg some (by kernel_rfl))⟩
  f14 := ⟨Try.f180.name, by decide, Try.func180.trans (congrArg some (by kernel_rfl))⟩
  f15 := Try.func181.trans (congrArg some (by kernel_rfl))
  f20 := ⟨Try.f197.name, by decide, Try.func197.trans (congrArg some (by kernel_rfl))⟩
  f21 := ⟨Try.f198.name, by decide, Try.func198.trans (congrArg some (by kernel_rfl))⟩
  f22 := ⟨Try.f199.name, by decide, Try.func199.trans (congrArg some (by kernel_rfl))⟩
  f23 := ⟨Try.f200.name, by decide, Try.func200.trans (congrArg some (by kernel_rfl))⟩
  f24 := ⟨Try.f201.name, by decide, Try.func201.trans (congrArg some (by kernel_rfl))⟩
  f25 := ⟨Try.f202.name, by decide, Try.func202.trans (congrArg some (by kernel_rfl))⟩
  f26 := ⟨Try.f203.name, by decide, Try.func203.trans (congrArg some (by kernel_rfl))⟩
  f27 := ⟨Try.f204.name, by decide, Try.func204.trans (congrArg some (by kernel_rfl))⟩
  f28 := Try.func205.trans (congrArg some (by kernel_rfl))
  f29 := Try.func206.trans (congrArg some (by kernel_rfl))
  f46 := ⟨Try.f216.name, by decide, Try.func216.trans (congrArg some (by kernel_rfl))⟩
  f47 := Try.func217.trans (congrArg some (by kernel_rfl))
  f48 := Try.func218.trans (congrArg some (by kernel_rfl))
  f49 := ⟨Try.f219.name, by decide, Try.func219.trans (congrArg some (by kernel_rfl))⟩
  f50 := ⟨Try.f220.name, by decide, Try.func220.trans (congrArg some (by kernel_rfl))⟩
  f57 := ⟨Try.f222.name, by decide, Try.func222.trans (congrArg some (by kernel_rfl))⟩
  t0 := Try.underlying0
  a0 := Try.isAgg0
  z0 := Try.sizeOf0
  v0 := Try.zeroValue0
  t3 := Try.underlying3
  a3 := Try.isAgg3
  z3 := Try.sizeOf3
  v3 := Try.zeroValue3
  t4 := Try.underlying4
  a4 := Try.isAgg4
  z4 := Try.sizeOf4
  v4 := Try.zeroValue4
  t5 := Try.underlying5
  a5 := Try.isAgg5
  z5 := Try.sizeOf5
  v5 := Try.zeroValue5
  t9 := Try.underlying9
  a9 := Try.isAgg9
  z9 := Try.sizeOf9
  v9 := Try.zeroValue9
  t22 := Try.underlying74
  a22 := Try.isAgg74
  z22 := Try.sizeOf74
  v22 := Try.zeroValue74
  t25 := Try.underlying197
  a25 := Try.isAgg197
  z25 := Try.sizeOf197
  v25 := Try.zeroValue197
  t39 := Try.underlying158
  a39 := Try.isAgg158
  z39 := Try.sizeOf158
  v39 := Try.zeroValue158
  t45 := Try.underlying227
  a45 := Try.isAgg227
  z45 := Try.sizeOf227
  v45 := Try.zeroValue227
  t46 := Try.underlying228
  a46 := Try.isAgg228
  z46 := Try.sizeOf228
  v46 := Try.zeroValue228
  t50 := Try.underlying93
  a50 := Try.isAgg93
  z50 := Try.sizeOf93
  v50 := Try.zeroValue93
  t53 := Try.underlying234
  a53 := Try.isAgg234
  z53 := Try.sizeOf234
  v53 := Try.zeroValue234
  t55 := Try.underlying236
  a55 := Try.isAgg236
  z55 := Try.sizeOf236
  v55 := Try.zeroValue236
  t66 := Try.underlying245
  a66 := Try.isAgg245
  z66 := Try.sizeOf245
  v66 := Try.zeroValue245
  t70 := Try.underlying249
  a70 := Try.isAgg249
  z70 := Try.sizeOf249
  v70 := Try.zeroValue249
  t76 := Try.underlying251
  a76 := Try.isAgg251
  z76 := Try.sizeOf251
  v76 := Try.zeroValue251
  t77 := Try.underlying252
  a77 := Try.isAgg252
  z77 := Try.sizeOf252
  v77 := Try.zeroValue252
def cmpL183_ren : Go.Shelf.Ren := ⟨fun | 5 => 183 | 7 => 207 | n => n, fun | 22 => 3 | 3 => 3 | 4 => 4 | n => n, fun | n => n⟩
theorem cmpL183 : Go.Proofs.SlLaysC2.n5 Try.prog cmpL183_ren where
  mixed := by kernel_rfl
  f5 := ⟨Try.f183.name, by decide, Try.func183.trans (congrArg some (by kernel_rfl))⟩
  f7 := ⟨Try.f207.name, by decide, Try.func207.trans (congrArg some (by kernel_rfl))⟩
  t3 := Try.underlying3
  a3 := Try.isAgg3
  z3 := Try.sizeOf3
  v3 := Try.zeroValue3
  t4 := Try.underlying4
  a4 := Try.isAgg4
  z4 := Try.sizeOf4
  v4 := Try.zeroValue4
  t22 := Try.underlying3
  a22 := Try.isAgg3
  z22 := Try.sizeOf3
  v22 := Try.zeroValue3
set_option maxHeartbeats 4000000 in
set_option maxRecDepth 1000000 in
theorem cmpT155 (a b : V) (W : World) : Calls Try.prog 155 #[.agg #[.int .i64 (gi a 0), .int .i64 (gi a 1)], .agg #[.int .i64 (gi b 0), .int .i64 (gi b 1)]] W fun e w' => e = .returned (.int .i64 (cfT a b)) ∧ ∃ q os', w' = grow (W.drewN q) os' := by
  have hcon := fun x y W' => AnyG.cmp_Compare_int cmpL183 x y W'
  change ∀ x y W', Calls Try.prog 183 _ _ _ at hcon
  have hor : ∀ (W' : World) (g : Nat), W'.heap[g]? = some (.cells #[.int .i64 (Lib.compareInt (gi a 1) (gi b 1)), .int .i64 (Lib.compareInt (gi a 0) (gi b 0))] 3 (0, 0)) → Calls Try.prog 182 #[.slice (some ⟨g, 0, none⟩) 2 2] W' fun e w' => e = .returned (.int .i64 (cfT a b)) ∧ w' = W' := fun W' g hg => by
    refine or182 _ _ _ ?_ ?_ W' g hg
    · unfold cfT Lib.compareInt
      by_cases h1 : gi a 1 < gi b 1 <;> by_cases h2 : gi b 1 < gi a 1 <;> by_cases h3 : gi a 0 < gi b 0 <;> by_cases h4 : gi b 0 < gi a 0 <;> simp [h1, h2, h3, h4] <;> omega
    · unfold cfT Lib.compareInt
      by_cases h1 : gi a 1 < gi b 1 <;> by_cases h2 : gi b 1 < gi a 1 <;> by_cases h3 : gi a 0 < gi b 0 <;> by_cases h4 : gi b 0 < gi a 0 <;> simp [h1, h2, h3, h4] <;> omega
  generalize cfT a b = r at hor ⊢
  go_enter Try.func155, Try.ntmps155
  go_wp2
  go_region_held3 (fun w' => w'.cell? ⟨W.heap.size, 0, none⟩ = some (.int .i64 (gi a 0)) ∧ w'.cell? ⟨W.heap.size, 1, none⟩ = some (.int .i64 (gi a 1)) ∧ w'.cell? ⟨W.heap.size + 1, 0, none⟩ = some (.int .i64 (gi b 0)) ∧ w'.cell? ⟨W.heap.size + 1, 1, none⟩ = some (.int .i64 (gi b 1))) (go_keep)
    (first | (go_at_call 183; refine (hcon _ _ _).mono ?_; rintro e w' ⟨rfl, rfl⟩) | (go_at_call 182; refine (hor _ _ (third_block (by simp))).mono ?_; rintro e w' ⟨rfl, rfl⟩))
  go_wp2
  go_ret
  rw [alloc_eq_grow, alloc_eq_grow, alloc_eq_grow, grow_grow, grow_grow]
  exact ⟨rfl, 1, _, rfl⟩
theorem sort154 : SortOk Try.prog 154 155 [.int .i64, .int .i64] cfT := by
  refine ⟨cfT_swo, fun w blk cap d hH hblk hsz => ?_⟩
  have aE : ∀ w, (isAgg 187).run Try.prog w = .ok true w := fun w => by kernel_rfl
  have zE : ∀ w, (Go.sizeOf 187).run Try.prog w = .ok 2 w := fun w => by kernel_rfl
  have eg : ∀ args w, (callFunc 155 args).run Try.prog w = .ok (.enter 155 args) w := Go.Proofs.enters_of Try.func155 (by kernel_rfl) rfl
  exact AnyQ.slices_SortFunc_eq sortL154 2 aE zE (fun x => encK [.int .i64, .int .i64] x 0) (fun _ => rfl) (fun x v hv => by simp [encK] at hv; rcases hv with rfl | rfl <;> rfl) cfT cfT_swo 155 #[] blk 0 cap d w eg (fun _ _ _ _ x y => cmpT155 x y _) hH hblk hsz
end
end Go.Eng.R
open Go Go.Eng Go.Proofs
namespace Go.Eng.R
noncomputable def e141 : En Try.prog tab := enT base [] false [] Try.func141 noLo [(.one (.inl t_laws_Timer)), (.one (.int .i64))] (fun a => laws_szTimerS ((rd a 0).L) ((rd a 1).I)) (fun r_ : Int => ((vi r_), [])) [] [] [some t_laws_Timer, none] false (by kernel_rfl) fun _ => gT (g5 g7 g7) (by kernel_rfl)
noncomputable def e87 : En Try.prog tab := enT base [e141] false [] Try.func87 noLo [(.agg [(.int .i64), (.inl t_laws_Timer)]), (.one (.int .i64))] (fun a => laws_szWheel (rd a 0) ((rd a 1).I)) (fun r_ : Int => ((vi r_), [])) [] [] [none, none] false (by kernel_rfl) fun _ => gT (g5 g7 g7) (by kernel_rfl)
noncomputable def e32 : En Try.prog tab := enT base [e87] false [] Try.func32 noLo [(.agg q0), (.one (.int .i64))] (fun a => laws_szDuty (rd a 0) ((rd a 1).I)) (fun r_ : Int => ((vi r_), [])) [] [] [none, none] false (by kernel_rfl) fun _ => gT (g5 g7 g7) (by kernel_rfl)
noncomputable def e176 : En Try.prog tab := enT base [] false [] Try.func176 noLo [(.agg [(.int .i64), (.int .i64)])] (fun a => laws_toTimer (rd a 0)) (fun r_ : V => ((n_impl_Reply r_), [])) [] [] [none] false (by kernel_rfl) fun _ => gT g7 (by kernel_rfl)
noncomputable def c146 : Cfg := cfgOf (P := Try.prog) (tab := tab) [e176] false []
def a146_0 (r_ : List V) : List (Ex × St) := [((Ex.exit 0), (⟨[(3, (vs 0 t_impl_Timer))], [(0, some (Blk.row t_impl_Timer true r_))], 1, []⟩ : St))]
def s146_0 : SS := ⟨[(0, (.one (.inl t_laws_Timer))), (3, (.one (.sl 0 t_impl_Timer))), (4, (.one (.int .i64)))], [(.row t_impl_Timer true)], 1, []⟩
noncomputable def l146_0 : LE := le0 3 s146_0 (fun st => laws_toTimerS_l3 ((((((sv st 0).L).length : Nat) : Int) - ((sv st 2).I)).toNat + 1) ((sv st 0).L) ((sv st 2).I) (br st 0)) a146_0
noncomputable def L146 : Loops := ⟨fun k => (look [(3, [0, 3, 4])] k).getD [], fun _ => [], fun k => (look [(3, [3])] k).getD [], runL [l146_0], []⟩
theorem t146_0 (k_ : Nat) : ∀ (a0 : List V) (i4 : Int) (r0 : List V), Agr id (pk0 a146_0) (laws_toTimerS_l3 k_ a0 i4 r0) (rounds c146 L146 (lpB Try.f146 0) k_ (s146_0.mk' (stv [V.inl 0 a0, .dead, vi i4] [rb r0]))) := by
  induction k_ with
  | zero => exact fun _ _ _ => g0
  | succ k_ ih => exact fun _ _ _ => gA (g1 (g1 (g1 (ih _ _ _) g0) g0) g4) (by kernel_rfl)
theorem o146 : LoopsOk c146 L146 (bodyOf Try.f146) := GoodAll.ok (l := [l146_0]) (.cons 0 (by kernel_rfl) (gd0 (fun st => (((((sv st 0).L).length : Nat) : Int) - ((sv st 2).I)).toNat + 1) (fun st => t146_0 _ _ _ _) fun st => by kernel_rfl) (.nil)) rfl
noncomputable def e146 : En Try.prog tab := enP base [e176] false [] Try.func146 (L := L146) o146 [(.one (.inl t_laws_Timer))] (fun a => laws_toTimerS ((rd a 0).L)) (fun r_ : List V => ((V.rr t_impl_Timer true r_), [])) [[(.rr t_impl_Timer true)]] [] [some t_laws_Timer] false (by kernel_rfl) fun _ => gA (g1 (g2 fun _ => g4) g0) (by kernel_rfl)
noncomputable def e92 : En Try.prog tab := enP base [e146] false [] Try.func92 noLo [(.agg [(.int .i64), (.inl t_laws_Timer)])] (fun a => laws_toWheel (rd a 0)) (fun r_ : V => ((h1 r_), [])) [[.dead, (.rr t_impl_Timer true)]] [] [none] false (by kernel_rfl) fun _ => gA (g2 fun _ => g4) (by kernel_rfl)
noncomputable def e34 : En Try.prog tab := enP base [e92] false [] Try.func34 noLo [(.agg q0)] (fun a => laws_toDuty (rd a 0)) (fun r_ : V => ((h2 r_), [])) [[.dead, .dead, (.rr t_impl_Timer true)]] [] [none] false (by kernel_rfl) fun _ => gA (g2 fun _ => g4) (by kernel_rfl)
noncomputable def e145 : En Try.prog tab := enT base [] false [] Try.func145 noLo [(.agg [(.int .i64), (.int .i64)]), (.agg [(.int .i64), (.int .i64)])] (fun a => spec_l7ahead (rd a 0) (rd a 1)) (fun r_ : Bool => ((V.bool r_), [])) [] [] [none, none] false (by kernel_rfl) fun _ => gT (g5 g7 (g5 g7 g7)) (by kernel_rfl)
noncomputable def c90 : Cfg := cfgOf (P := Try.prog) (tab := tab) [] false []
def a90_0 (r_ : Nat × Int) : List (Ex × St) := [(Ex.ret, (⟨[(4, (vi r_.2))], [], 0, []⟩ : St)), ((Ex.exit 0), (⟨[(4, V.dead)], [], 0, []⟩ : St))]
def s90_0 : SS := ⟨[(0, (.one (.inl t_impl_Timer))), (1, (.one (.int .i64))), (5, (.one (.int .i64)))], [], 0, []⟩
noncomputable def l90_0 : LE := le1 2 s90_0 (fun st => spec_l7find_l2 ((((((sv st 0).L).length : Nat) : Int) - ((sv st 2).I)).toNat + 1) ((sv st 0).L) ((sv st 1).I) ((sv st 2).I)) a90_0
noncomputable def L90 : Loops := ⟨fun k => (look [(2, [0, 1, 5])] k).getD [], fun _ => [], fun k => (look [(2, [4])] k).getD [], runL [l90_0], []⟩
theorem t90_0 (k_ : Nat) : ∀ (l0 : List V) (id1 : Int) (i5 : Int), Agr id (pk1 a90_0) (spec_l7find_l2 k_ l0 id1 i5) (rounds c90 L90 (lpB Try.f90 0) k_ (s90_0.mk' (stv [V.inl 0 l0, vi id1, vi i5] []))) := by
  induction k_ with
  | zero => exact fun _ _ _ => g0
  | succ k_ ih => exact fun _ _ _ => gA (g1 (g1 (g1 g4 (ih _ _ _)) g0) g4) (by kernel_rfl)
theorem o90 : LoopsOk c90 L90 (bodyOf Try.f90) := GoodAll.ok (l := [l90_0]) (.cons 0 (by kernel_rfl) (gd1 (fun st => (((((sv st 0).L).length : Nat) : Int) - ((sv st 2).I)).toNat + 1) (fun st => t90_0 _ _ _ _) fun st => by kernel_rfl) (.nil)) rfl
noncomputable def e90 : En Try.prog tab := enP base [] false [] Try.func90 (L := L90) o90 [(.one (.inl t_impl_Timer)), (.one (.int .i64))] (fun a => spec_l7find ((rd a 0).L) ((rd a 1).I)) (fun r_ : Int => ((vi r_), [])) [] [] [some t_impl_Timer, none] false (by kernel_rfl) fun _ => gA (g2 fun _ => g1 g4 g4) (by kernel_rfl)
noncomputable def c142 : Cfg := cfgOf (P := Try.prog) (tab := tab) [e145, e90] false []
def a142_0 (r_ : Nat × Bool) : List (Ex × St) := [(Ex.ret, (⟨[(2, (V.bool r_.2))], [], 0, []⟩ : St)), ((Ex.exit 0), (⟨[(2, V.dead)], [], 0, []⟩ : St))]
def s142_0 : SS := ⟨[(1, (.one (.bp 0 0))), (3, (.one (.int .i64)))], [(.box t_impl_Wheel [(.int .i64), (.inl t_impl_Timer)])], 1, []⟩
noncomputable def l142_0 : LE := le1 4 s142_0 (fun st => spec_WheelOk_l4 (((((gl (bc st 0) 1).length : Nat) : Int) - ((sv st 1).I)).toNat + 1) ((sv st 1).I) (bc st 0)) a142_0
noncomputable def L142 : Loops := ⟨fun k => (look [(4, [1, 3])] k).getD [], fun _ => [], fun k => (look [(4, [2])] k).getD [], runL [l142_0], []⟩
set_option maxRecDepth 100000 in
theorem t142_0 (k_ : Nat) : ∀ (i3 : Int) (b0 : V), Agr id (pk1 a142_0) (spec_WheelOk_l4 k_ i3 b0) (rounds c142 L142 (lpB Try.f142 0) k_ (s142_0.mk' (stv [.dead, vi i3] [bx b0]))) := by
  induction k_ with
  | zero => exact fun _ _ => g0
  | succ k_ ih => exact fun _ _ => gA (g1 (g1 (g1 g4 (g1 g4 (g1 g4 (g1 g4 (g1 (g1 (g1 g4 (g1 (g2 fun _ => g1 g4 (ih _ _)) g0)) g0) (g1 (g2 fun _ => g1 g4 (ih _ _)) g0)))))) g0) g4) (by kernel_rfl)
theorem o142 : LoopsOk c142 L142 (bodyOf Try.f142) := GoodAll.ok (l := [l142_0]) (.cons 0 (by kernel_rfl) (gd1 (fun st => ((((gl (bc st 0) 1).length : Nat) : Int) - ((sv st 1).I)).toNat + 1) (fun st => t142_0 _ _ _) fun st => by kernel_rfl) (.nil)) rfl
noncomputable def e142 : En Try.prog tab := enP base [e145, e90] false [] Try.func142 (L := L142) o142 [(.agg [(.int .i64), (.inl t_impl_Timer)])] (fun a => spec_WheelOk (rd a 0)) (fun r_ : Bool => ((V.bool r_), [])) [] [] [none] false (by kernel_rfl) fun _ => gA (g1 g4 (g1 g4 (g1 g4 (g2 fun _ => g1 g4 g4)))) (by kernel_rfl)
noncomputable def c88 : Cfg := cfgOf (P := Try.prog) (tab := tab) [e142] false []
def a88_0 (r_ : Nat × Bool) : List (Ex × St) := [(Ex.ret, (⟨[(2, (V.bool r_.2))], [], 0, []⟩ : St)), ((Ex.exit 0), (⟨[(2, V.dead)], [], 0, []⟩ : St))]
def s88_0 : SS := ⟨[(1, (.one (.bp 0 0))), (3, (.one (.int .i64)))], [(.box t_impl_Duty q3)], 1, []⟩
noncomputable def l88_0 : LE := le1 4 s88_0 (fun st => spec_DutyOk_l4 (((((gl (bc st 0) 2).length : Nat) : Int) - ((sv st 1).I)).toNat + 1) ((sv st 1).I) (bc st 0)) a88_0
noncomputable def L88 : Loops := ⟨fun k => (look [(4, [1, 3])] k).getD [], fun _ => [], fun k => (look [(4, [2])] k).getD [], runL [l88_0], []⟩
theorem t88_0 (k_ : Nat) : ∀ (i3 : Int) (b0 : V), Agr id (pk1 a88_0) (spec_DutyOk_l4 k_ i3 b0) (rounds c88 L88 (lpB Try.f88 0) k_ (s88_0.mk' (stv [.dead, vi i3] [bx b0]))) := by
  induction k_ with
  | zero => exact fun _ _ => g0
  | succ k_ ih => exact fun _ _ => gA (g1 (g1 (g1 g4 (ih _ _)) g0) g4) (by kernel_rfl)
theorem o88 : LoopsOk c88 L88 (bodyOf Try.f88) := GoodAll.ok (l := [l88_0]) (.cons 0 (by kernel_rfl) (gd1 (fun st => ((((gl (bc st 0) 2).length : Nat) : Int) - ((sv st 1).I)).toNat + 1) (fun st => t88_0 _ _ _) fun st => by kernel_rfl) (.nil)) rfl
set_option maxRecDepth 100000 in
noncomputable def e88 : En Try.prog tab := enP base [e142] false [] Try.func88 (L := L88) o88 [(.agg q3)] (fun a => spec_DutyOk (rd a 0)) (fun r_ : Bool => ((V.bool r_), [])) [] [] [none] false (by kernel_rfl) fun _ => gA (g1 g4 (g1 g4 (g2 fun _ => g1 g4 (g1 g4 (g2 fun _ => g1 g4 g4))))) (by kernel_rfl)
noncomputable def e143 : En Try.prog tab := enP base [] false [] Try.func143 noLo [(.agg [(.int .i64), (.inl t_impl_Timer)])] (fun a => spec_l7own (rd a 0)) (fun r_ : V => ((h1 r_), [])) [[.dead, (.rr t_impl_Timer true)]] [] [none] false (by kernel_rfl) fun _ => gA (g1 g4 g0) (by kernel_rfl)
noncomputable def e89 : En Try.prog tab := enP base [e143] false [] Try.func89 noLo [(.agg q3)] (fun a => spec_l15own (rd a 0)) (fun r_ : V => ((h2 r_), [])) [[.dead, .dead, (.rr t_impl_Timer true)]] [] [none] false (by kernel_rfl) fun _ => gA (g2 fun _ => g4) (by kernel_rfl)
noncomputable def e144 : En Try.prog tab := enP base [e90] false [] Try.func144 noLo [(.ro t_impl_Duty 1 q4), (.one (.int .i64))] (fun a => spec_l7stop ((rd a 0).unbox) ((rd a 1).I)) (fun r_ : Bool × V => ((V.bool r_.1), [(V.rf t_impl_Duty (l5 r_.2))])) [] [[.dead, .dead, (.rr t_impl_Timer true)]] [none, none] false (by kernel_rfl) fun _ => gA (g2 fun _ => g1 g4 (g1 (g1 (g1 (g1 g4 g0) g0) g0) g0)) (by kernel_rfl)
noncomputable def c91 : Cfg := cfgOf (P := Try.prog) (tab := tab) [e90, e144, e145] false []
def a91_0 (r_ : Int × V × V × List V) : List (Ex × St) := [((Ex.exit 0), (⟨[(0, (V.bp 0 1)), (7, (V.bp 1 0)), (8, (vi r_.1))], [(0, some (Blk.box t_impl_Duty (l6 r_.2.1))), (1, some (Blk.box t_impl_Timer (l7 r_.2.2.1))), (2, some (Blk.row t_impl_Timer true r_.2.2.2))], 3, [0]⟩ : St))]
def s91_0 : SS := ⟨[(0, (.one (.bp 0 1))), (7, (.one (.bp 1 0))), (8, (.one (.int .i64)))], [(.box t_impl_Duty q8), (.box t_impl_Timer [(.int .i64), (.int .i64)]), (.row t_impl_Timer true)], 3, [0]⟩
noncomputable def l91_0 : LE := le0 6 s91_0 (fun st => spec_l7set_l6 (((((br st 2).length : Nat) : Int) - ((sv st 2).I)).toNat + 1) ((sv st 2).I) (bc st 0) (bc st 1) (br st 2)) a91_0
noncomputable def L91 : Loops := ⟨fun k => (look [(6, [0, 7, 8])] k).getD [], fun _ => [], fun k => (look [(6, [0, 7, 8])] k).getD [], runL [l91_0], []⟩
theorem t91_0 (k_ : Nat) : ∀ (i8 : Int) (b0 : V) (b1 : V) (r2 : List V), Agr id (pk0 a91_0) (spec_l7set_l6 k_ i8 b0 b1 r2) (rounds c91 L91 (lpB Try.f91 0) k_ (s91_0.mk' (stv [.dead, .dead, vi i8] [bx b0, bx b1, rb r2]))) := by
  induction k_ with
  | zero => exact fun _ _ _ _ => g0
  | succ k_ ih => exact fun _ _ _ _ => gA (g1 (g1 (g1 (ih _ _ _ _) g4) g0) g4) (by kernel_rfl)
theorem o91 : LoopsOk c91 L91 (bodyOf Try.f91) := GoodAll.ok (l := [l91_0]) (.cons 0 (by kernel_rfl) (gd0 (fun st => ((((br st 2).length : Nat) : Int) - ((sv st 2).I)).toNat + 1) (fun st => t91_0 _ _ _ _ _) fun st => by kernel_rfl) (.nil)) rfl
set_option maxRecDepth 100000 in
noncomputable def e91 : En Try.prog tab := enP base [e90, e144, e145] false [] Try.func91 (L := L91) o91 [(.ro t_impl_Duty 1 q4), (.one (.int .i64)), (.one (.int .i64))] (fun a => spec_l7set ((rd a 0).unbox) ((rd a 1).I) ((rd a 2).I)) (fun r_ : Bool × V => ((V.bool r_.1), [(V.rf t_impl_Duty (l5 r_.2))])) [] [[.dead, .dead, (.rr t_impl_Timer true)]] [none, none, none] false (by kernel_rfl) fun _ => gA (g1 g4 (g1 g4 (g1 g4 (g1 g4 (g2 fun _ => g1 (g1 g4 (g2 fun _ => g2 fun _ => g1 (g1 (g1 (g1 (g1 g4 g0) g0) g0) g0) g0)) (g2 fun _ => g2 fun _ => g1 (g1 (g1 (g1 (g1 g4 g0) g0) g0) g0) g0)))))) (by kernel_rfl)
noncomputable def e33 : En Try.prog tab := enP base [e88, e89, e90, e91] false [] Try.func33 noLo [(.agg q3), (.one (.int .i64))] (fun a => spec_DutyRenew (rd a 0) ((rd a 1).I)) (fun r_ : V × Bool => ((V.tup [(h2 r_.1), (V.bool r_.2)]), [])) [[.dead, .dead, (.rr t_impl_Timer true)]] [] [none, none] false (by kernel_rfl) fun _ => gA (g2 fun _ => g1 g4 (g2 fun _ => g2 fun _ => g1 g4 (g2 fun _ => g4))) (by kernel_rfl)
noncomputable def e80 : En Try.prog tab := enT base [] false [] Try.func80 noLo [(.one (.int .i64)), (.one (.int .i64)), (.one (.int .i64))] (fun a => impl_within ((rd a 0).I) ((rd a 1).I) ((rd a 2).I)) (fun r_ : Bool => ((V.bool r_), [])) [] [] [none, none, none] false (by kernel_rfl) fun _ => gT (g5 g7 g7) (by kernel_rfl)
noncomputable def e177 : En Try.prog tab := enT base [e80] false [] Try.func177 noLo [(.one (.int .i64))] (fun a => impl_isId ((rd a 0).I)) (fun r_ : Bool => ((V.bool r_), [])) [] [] [none] false (by kernel_rfl) fun _ => gT g7 (by kernel_rfl)
noncomputable def e152 : En Try.prog tab := enT base [] false [] Try.func152 noLo [(.agg [(.int .i64), (.int .i64)]), (.ep [(.int .i64)] 0)] (fun a => impl_Wheel_timer_1 (rd a 0) ((rd a 1).unbox)) (fun r_ : Bool => ((V.bool r_), [])) [] [] [none] false (by kernel_rfl) fun _ => gT g7 (by kernel_rfl)
noncomputable def c151 : Cfg := cfgOf (P := Try.prog) (tab := tab) [e152] false []
def a151_0 (r_ : Nat × Int) : List (Ex × St) := [(Ex.ret, (⟨[(4, (vi r_.2))], [], 0, []⟩ : St)), ((Ex.exit 0), (⟨[(4, V.dead)], [], 0, []⟩ : St))]
def s151_0 : SS := ⟨[(0, (.one (.inl t_impl_Timer))), (1, (.fn 152 [[(.int .i64)]])), (7, (.one (.int .i64))), (8, (.one (.int .i64)))], [], 0, []⟩
noncomputable def l151_0 : LE := le1 2 s151_0 (fun st => slices_IndexFunc_Timer_l2 ((((sv st 2).I) - ((sv st 3).I)).toNat + 1) ((sv st 0).L) ((rd (sv st 1).caps 0).unbox) ((sv st 2).I) ((sv st 3).I)) a151_0
noncomputable def L151 : Loops := ⟨fun k => (look [(2, [0, 1, 7, 8])] k).getD [], fun _ => [], fun k => (look [(2, [4])] k).getD [], runL [l151_0], []⟩
theorem t151_0 (k_ : Nat) : ∀ (s0 : List V) (f1_0 : V) (v7 : Int) (v8 : Int), Agr id (pk1 a151_0) (slices_IndexFunc_Timer_l2 k_ s0 f1_0 v7 v8) (rounds c151 L151 (lpB Try.f151 0) k_ (s151_0.mk' (stv [V.inl 0 s0, V.fn 0 [.ep (V.cells f1_0) 0], vi v7, vi v8] []))) := by
  induction k_ with
  | zero => exact fun _ _ _ _ => g0
  | succ k_ ih => exact fun _ _ _ _ => gA (g1 (g1 (g1 g4 (ih _ _ _ _)) g0) g4) (by kernel_rfl)
theorem o151 : LoopsOk c151 L151 (bodyOf Try.f151) := GoodAll.ok (l := [l151_0]) (.cons 0 (by kernel_rfl) (gd1 (fun st => (((sv st 2).I) - ((sv st 3).I)).toNat + 1) (fun st => t151_0 _ _ _ _ _) fun st => by kernel_rfl) (.nil)) rfl
noncomputable def e151 : En Try.prog tab := enP base [e152] false [] Try.func151 (L := L151) o151 [(.one (.inl t_impl_Timer)), (.fn 152 [[(.int .i64)]])] (fun a => slices_IndexFunc_Timer ((rd a 0).L) ((rd (rd a 1).caps 0).unbox)) (fun r_ : Int => ((vi r_), [])) [] [] [some t_impl_Timer, none] false (by kernel_rfl) fun _ => gA (g2 fun _ => g1 g4 g4) (by kernel_rfl)
noncomputable def e95 : En Try.prog tab := enP base [e151] false [] Try.func95 noLo [(.agg [(.int .i64), (.inl t_impl_Timer)]), (.one (.int .i64))] (fun a => impl_Wheel_timer (rd a 0) ((rd a 1).I)) (fun r_ : Int => ((vi r_), [])) [] [] [none, none] false (by kernel_rfl) fun _ => gA (g2 fun _ => g4) (by kernel_rfl)
noncomputable def e207 : En Try.prog tab := enT base [] false [] Try.func207 noLo [(.one (.int .i64))] (fun a => cmp_isNaN_int ((rd a 0).I)) (fun r_ : Bool => ((V.bool r_), [])) [] [] [none] false (by kernel_rfl) fun _ => gT g7 (by kernel_rfl)
noncomputable def e183 : En Try.prog tab := enT base [e207] false [] Try.func183 noLo [(.one (.int .i64)), (.one (.int .i64))] (fun a => cmp_Compare_int ((rd a 0).I) ((rd a 1).I)) (fun r_ : Int => ((vi r_), [])) [] [] [none, none] false (by kernel_rfl) fun _ => gT (g5 (g5 g7 g7) (g5 g7 (g5 g7 (g5 g7 g7)))) (by kernel_rfl)
noncomputable def c182 : Cfg := cfgOf (P := Try.prog) (tab := tab) [] false []
def a182_0 (r_ : Nat × Int × Int) : List (Ex × St) := [(Ex.ret, (⟨[(2, (vi r_.2.1)), (3, (vi r_.2.2))], [], 0, []⟩ : St)), ((Ex.exit 0), (⟨[(2, V.dead), (3, (vi r_.2.2))], [], 0, []⟩ : St))]
def s182_0 : SS := ⟨[(3, (.one (.int .i64))), (6, (.one (.inl t_int'))), (7, (.one (.int .i64))), (8, (.one (.int .i64)))], [], 0, []⟩
noncomputable def l182_0 : LE := le1 3 s182_0 (fun st => cmp_Or_int_l3 ((((sv st 2).I) - ((sv st 3).I)).toNat + 1) ((sv st 0).I) ((sv st 1).L) ((sv st 2).I) ((sv st 3).I)) a182_0
noncomputable def L182 : Loops := ⟨fun k => (look [(3, [3, 6, 7, 8])] k).getD [], fun _ => [], fun k => (look [(3, [2, 3])] k).getD [], runL [l182_0], []⟩
theorem t182_0 (k_ : Nat) : ∀ (zero3 : Int) (v6 : List V) (v7 : Int) (v8 : Int), Agr id (pk1 a182_0) (cmp_Or_int_l3 k_ zero3 v6 v7 v8) (rounds c182 L182 (lpB Try.f182 0) k_ (s182_0.mk' (stv [vi zero3, V.inl 0 v6, vi v7, vi v8] []))) := by
  induction k_ with
  | zero => exact fun _ _ _ _ => g0
  | succ k_ ih => exact fun _ _ _ _ => gA (g1 (g1 (g1 g4 (ih _ _ _ _)) g0) g4) (by kernel_rfl)
theorem o182 : LoopsOk c182 L182 (bodyOf Try.f182) := GoodAll.ok (l := [l182_0]) (.cons 0 (by kernel_rfl) (gd1 (fun st => (((sv st 2).I) - ((sv st 3).I)).toNat + 1) (fun st => t182_0 _ _ _ _ _) fun st => by kernel_rfl) (.nil)) rfl
noncomputable def e182 : En Try.prog tab := enP base [] false [] Try.func182 (L := L182) o182 [(.one (.inl t_int'))] (fun a => cmp_Or_int ((rd a 0).L)) (fun r_ : Int => ((vi r_), [])) [] [] [some t_int'] false (by kernel_rfl) fun _ => gA (g2 fun _ => g1 g4 g4) (by kernel_rfl)
noncomputable def e155 : En Try.prog tab := enP base [e183, e182] false [] Try.func155 noLo [(.agg [(.int .i64), (.int .i64)]), (.agg [(.int .i64), (.int .i64)])] (fun a => impl_compareTimers (rd a 0) (rd a 1)) (fun r_ : Int => ((vi r_), [])) [] [] [none, none] false (by kernel_rfl) fun _ => gA (g2 fun _ => g4) (by kernel_rfl)
noncomputable def c147 : Cfg := cfgOf (P := Try.prog) (tab := tab) [e80, e177, e95, e155] false []
def a147_0 (r_ : Nat × Bool) : List (Ex × St) := [(Ex.ret, (⟨[(2, (V.bool r_.2))], [], 0, []⟩ : St)), ((Ex.exit 0), (⟨[(2, V.dead)], [], 0, []⟩ : St))]
def s147_0 : SS := ⟨[(1, (.one (.bp 0 0))), (16, (.one (.inl t_impl_Timer))), (17, (.one (.int .i64))), (18, (.one (.int .i64)))], [(.box t_impl_Wheel [(.int .i64), (.inl t_impl_Timer)])], 1, []⟩
noncomputable def l147_0 : LE := le1 4 s147_0 (fun st => impl_WheelOk_l4 ((((sv st 2).I) - ((sv st 3).I)).toNat + 1) ((sv st 1).L) ((sv st 2).I) ((sv st 3).I) (bc st 0)) a147_0
noncomputable def L147 : Loops := ⟨fun k => (look [(4, [1, 16, 17, 18])] k).getD [], fun _ => [], fun k => (look [(4, [2])] k).getD [], runL [l147_0], []⟩
set_option maxRecDepth 100000 in
theorem t147_0 (k_ : Nat) : ∀ (v16 : List V) (v17 : Int) (v18 : Int) (b0 : V), Agr id (pk1 a147_0) (impl_WheelOk_l4 k_ v16 v17 v18 b0) (rounds c147 L147 (lpB Try.f147 0) k_ (s147_0.mk' (stv [.dead, V.inl 0 v16, vi v17, vi v18] [bx b0]))) := by
  induction k_ with
  | zero => exact fun _ _ _ _ => g0
  | succ k_ ih => exact fun _ _ _ _ => gA (g1 (g1 (g1 g4 (g2 fun _ => g1 g4 (g1 g4 (g1 (g1 (g2 fun _ => g1 g4 (ih _ _ _ _)) g0) (ih _ _ _ _))))) g0) g4) (by kernel_rfl)
theorem o147 : LoopsOk c147 L147 (bodyOf Try.f147) := GoodAll.ok (l := [l147_0]) (.cons 0 (by kernel_rfl) (gd1 (fun st => (((sv st 2).I) - ((sv st 3).I)).toNat + 1) (fun st => t147_0 _ _ _ _ _) fun st => by kernel_rfl) (.nil)) rfl
noncomputable def e147 : En Try.prog tab := enP base [e80, e177, e95, e155] false [] Try.func147 (L := L147) o147 [(.agg [(.int .i64), (.inl t_impl_Timer)])] (fun a => impl_WheelOk (rd a 0)) (fun r_ : Bool => ((V.bool r_), [])) [] [] [none] false (by kernel_rfl) fun _ => gA (g1 g4 (g1 g4 (g2 fun _ => g1 g4 g4))) (by kernel_rfl)
noncomputable def e149 : En Try.prog tab := enT base [] false [] Try.func149 noLo [(.agg [(.int .i64), (.int .i64)]), (.ep q3 0)] (fun a => impl_DutyOk_1 (rd a 0) ((rd a 1).unbox)) (fun r_ : Bool => ((V.bool r_), [])) [] [] [none] false (by kernel_rfl) fun _ => gT g7 (by kernel_rfl)
noncomputable def c151v1 : Cfg := cfgOf (P := Try.prog) (tab := tab) [e149] false []
def a151v1_0 (r_ : Nat × Int) : List (Ex × St) := [(Ex.ret, (⟨[(4, (vi r_.2))], [], 0, []⟩ : St)), ((Ex.exit 0), (⟨[(4, V.dead)], [], 0, []⟩ : St))]
def s151v1_0 : SS := ⟨[(0, (.one (.inl t_impl_Timer))), (1, (.fn 149 [q3])), (7, (.one (.int .i64))), (8, (.one (.int .i64)))], [], 0, []⟩
noncomputable def l151v1_0 : LE := le1 2 s151v1_0 (fun st => slices_IndexFunc_Timer_v1_l2 ((((sv st 2).I) - ((sv st 3).I)).toNat + 1) ((sv st 0).L) ((rd (sv st 1).caps 0).unbox) ((sv st 2).I) ((sv st 3).I)) a151v1_0
noncomputable def L151v1 : Loops := ⟨fun k => (look [(2, [0, 1, 7, 8])] k).getD [], fun _ => [], fun k => (look [(2, [4])] k).getD [], runL [l151v1_0], []⟩
theorem t151v1_0 (k_ : Nat) : ∀ (s0 : List V) (f1_0 : V) (v7 : Int) (v8 : Int), Agr id (pk1 a151v1_0) (slices_IndexFunc_Timer_v1_l2 k_ s0 f1_0 v7 v8) (rounds c151v1 L151v1 (lpB Try.f151 0) k_ (s151v1_0.mk' (stv [V.inl 0 s0, V.fn 0 [.ep (V.cells f1_0) 0], vi v7, vi v8] []))) := by
  induction k_ with
  | zero => exact fun _ _ _ _ => g0
  | succ k_ ih => exact fun _ _ _ _ => gA (g1 (g1 (g1 g4 (ih _ _ _ _)) g0) g4) (by kernel_rfl)
theorem o151v1 : LoopsOk c151v1 L151v1 (bodyOf Try.f151) := GoodAll.ok (l := [l151v1_0]) (.cons 0 (by kernel_rfl) (gd1 (fun st => (((sv st 2).I) - ((sv st 3).I)).toNat + 1) (fun st => t151v1_0 _ _ _ _ _) fun st => by kernel_rfl) (.nil)) rfl
noncomputable def e151v1 : En Try.prog tab := enP base [e149] false [] Try.func151 (L := L151v1) o151v1 [(.one (.inl t_impl_Timer)), (.fn 149 [q3])] (fun a => slices_IndexFunc_Timer_v1 ((rd a 0).L) ((rd (rd a 1).caps 0).unbox)) (fun r_ : Int => ((vi r_), [])) [] [] [some t_impl_Timer, none] false (by kernel_rfl) fun _ => gA (g2 fun _ => g1 g4 g4) (by kernel_rfl)
noncomputable def e148 : En Try.prog tab := enP base [e151v1] false [] Try.func148 noLo [(.one (.inl t_impl_Timer)), (.fn 149 [q3])] (fun a => slices_ContainsFunc_Timer ((rd a 0).L) ((rd (rd a 1).caps 0).unbox)) (fun r_ : Bool => ((V.bool r_), [])) [] [] [some t_impl_Timer, none] false (by kernel_rfl) fun _ => gA (g2 fun _ => g4) (by kernel_rfl)
noncomputable def e93 : En Try.prog tab := enP base [e80, e147, e148] false [] Try.func93 noLo [(.agg q3)] (fun a => impl_DutyOk (rd a 0)) (fun r_ : Bool => ((V.bool r_), [])) [] [] [none] false (by kernel_rfl) fun _ => gA (g1 g4 (g2 fun _ => g1 g4 (g1 g4 (g2 fun _ => g4)))) (by kernel_rfl)
noncomputable def e178 : En Try.prog tab := enN base [] false [] Try.func178 noLo t_impl_Timer slices_Clone_Timer (fun r_ : List V => ((V.rr t_impl_Timer true r_), [])) [[(.rr t_impl_Timer true)]] [] [some t_impl_Timer] false (by kernel_rfl) (fun _ => gA (g1 g4 g0) (by kernel_rfl)) (by
  have h : evalW (wkF [[(.rr t_impl_Timer true)]] []) (cfgOf (P := Try.prog) (tab := tab) [] false []) noL Try.f178 [V.nl t_impl_Timer] = (some (wkF [[(.rr t_impl_Timer true)]] [] ((V.nil t_impl_Timer), []))) := by kernel_rfl
  rw [h, slices_Clone_Timer]
  clear h
  intro r h; revert h; simp only [List.length_nil]; intro h; first | (cases h; kernel_rfl) | (revert h; simp [roomy]; intro h; subst h; kernel_rfl))
noncomputable def e150 : En Try.prog tab := enP base [e178] false [] Try.func150 noLo [(.agg [(.int .i64), (.inl t_impl_Timer)])] (fun a => impl_Wheel_own (rd a 0)) (fun r_ : V => ((h1 r_), [])) [[.dead, (.rr t_impl_Timer true)]] [] [none] false (by kernel_rfl) fun _ => gA (g2 fun _ => g4) (by kernel_rfl)
noncomputable def e94 : En Try.prog tab := enP base [e150] false [] Try.func94 noLo [(.agg q3)] (fun a => impl_Duty_own (rd a 0)) (fun r_ : V => ((h2 r_), [])) [[.dead, .dead, (.rr t_impl_Timer true)]] [] [none] false (by kernel_rfl) fun _ => gA (g2 fun _ => g4) (by kernel_rfl)
noncomputable def e179 : En Try.prog tab := enDel base Try.func179 (by kernel_rfl) t_impl_Timer rfl true del179 delSame179 [some t_impl_Timer, none, none]
noncomputable def e153 : En Try.prog tab := enP base [e95, e179] false [] Try.func153 noLo [(.ro t_impl_Duty 1 q4), (.one (.int .i64))] (fun a => impl_Wheel_stop ((rd a 0).unbox) ((rd a 1).I)) (fun r_ : Bool × V => ((V.bool r_.1), [(V.rf t_impl_Duty (l5 r_.2))])) [] [[.dead, .dead, (.rr t_impl_Timer true)]] [none, none] false (by kernel_rfl) fun _ => gA (g2 fun _ => g1 (g2 fun _ => g4) g4) (by kernel_rfl)
noncomputable def e154 : En Try.prog tab := enSort base Try.func154 (by kernel_rfl) t_impl_Timer rfl true 155 cfT rfl sort154 [some t_impl_Timer, none]
noncomputable def e96 : En Try.prog tab := enP base [e153, e154] false [] Try.func96 noLo [(.ro t_impl_Duty 1 q4), (.one (.int .i64)), (.one (.int .i64))] (fun a => impl_Wheel_set ((rd a 0).unbox) ((rd a 1).I) ((rd a 2).I)) (fun r_ : V => ((V.tup []), [(V.rf t_impl_Duty (l5 r_))])) [] [[.dead, .dead, (.rr t_impl_Timer true)]] [none, none, none] false (by kernel_rfl) fun _ => gA (g2 fun _ => g1 (g2 fun _ => g4) g0) (by kernel_rfl)
noncomputable def e35 : En Try.prog tab := enP base [e93, e94, e95, e96] false [] Try.func35 noLo [(.agg q3), (.one (.int .i64))] (fun a => impl_DutyRenew (rd a 0) ((rd a 1).I)) (fun r_ : V × Bool => ((V.tup [(h2 r_.1), (V.bool r_.2)]), [])) [[.dead, .dead, (.rr t_impl_Timer true)]] [] [none, none] false (by kernel_rfl) fun _ => gA (g2 fun _ => g1 g4 (g2 fun _ => g2 fun _ => g1 g4 (g2 fun _ => g4))) (by kernel_rfl)
noncomputable def e184 : En Try.prog tab := enT base [] false [] Try.func184 noLo [(.agg [(.int .i64), (.int .i64)]), (.agg [(.int .i64), (.int .i64)])] (fun a => laws_eqTimer (rd a 0) (rd a 1)) (fun r_ : Bool => ((V.bool r_), [])) [] [] [none, none] false (by kernel_rfl) fun _ => gT (g5 g7 (g5 g7 g7)) (by kernel_rfl)
noncomputable def c156 : Cfg := cfgOf (P := Try.prog) (tab := tab) [e184] false []
def a156_0 (r_ : Nat × Bool) : List (Ex × St) := [(Ex.ret, (⟨[(4, (V.bool r_.2))], [], 0, []⟩ : St)), ((Ex.exit 0), (⟨[(4, V.dead)], [], 0, []⟩ : St))]
def s156_0 : SS := ⟨[(0, (.one (.inl t_impl_Timer))), (1, (.one (.inl t_impl_Timer))), (5, (.one (.int .i64)))], [], 0, []⟩
noncomputable def l156_0 : LE := le1 4 s156_0 (fun st => laws_eqTimerS_l4 ((((((sv st 0).L).length : Nat) : Int) - ((sv st 2).I)).toNat + 1) ((sv st 0).L) ((sv st 1).L) ((sv st 2).I)) a156_0
noncomputable def L156 : Loops := ⟨fun k => (look [(4, [0, 1, 5])] k).getD [], fun _ => [], fun k => (look [(4, [4])] k).getD [], runL [l156_0], []⟩
theorem t156_0 (k_ : Nat) : ∀ (a0 : List V) (b1 : List V) (i5 : Int), Agr id (pk1 a156_0) (laws_eqTimerS_l4 k_ a0 b1 i5) (rounds c156 L156 (lpB Try.f156 0) k_ (s156_0.mk' (stv [V.inl 0 a0, V.inl 0 b1, vi i5] []))) := by
  induction k_ with
  | zero => exact fun _ _ _ => g0
  | succ k_ ih => exact fun _ _ _ => gA (g1 (g1 (g1 (g1 g4 (ih _ _ _)) g0) g0) g4) (by kernel_rfl)
theorem o156 : LoopsOk c156 L156 (bodyOf Try.f156) := GoodAll.ok (l := [l156_0]) (.cons 0 (by kernel_rfl) (gd1 (fun st => (((((sv st 0).L).length : Nat) : Int) - ((sv st 2).I)).toNat + 1) (fun st => t156_0 _ _ _ _) fun st => by kernel_rfl) (.nil)) rfl
noncomputable def e156 : En Try.prog tab := enP base [e184] false [] Try.func156 (L := L156) o156 [(.one (.inl t_impl_Timer)), (.one (.inl t_impl_Timer))] (fun a => laws_eqTimerS ((rd a 0).L) ((rd a 1).L)) (fun r_ : Bool => ((V.bool r_), [])) [] [] [some t_impl_Timer, some t_impl_Timer] false (by kernel_rfl) fun _ => gA (g1 g4 (g2 fun _ => g1 g4 g4)) (by kernel_rfl)
noncomputable def e97 : En Try.prog tab := enP base [e156] false [] Try.func97 noLo [(.agg [(.int .i64), (.inl t_impl_Timer)]), (.agg [(.int .i64), (.inl t_impl_Timer)])] (fun a => laws_eqWheel (rd a 0) (rd a 1)) (fun r_ : Bool => ((V.bool r_), [])) [] [] [none, none] false (by kernel_rfl) fun _ => gA (g1 g4 (g2 fun _ => g1 g4 g4)) (by kernel_rfl)
noncomputable def e36 : En Try.prog tab := enP base [e97] false [] Try.func36 noLo [(.agg q3), (.agg q3)] (fun a => laws_eqDuty (rd a 0) (rd a 1)) (fun r_ : Bool => ((V.bool r_), [])) [] [] [none, none] false (by kernel_rfl) fun _ => gA (g1 g4 (g2 fun _ => g1 g4 g4)) (by kernel_rfl)
noncomputable def c157 : Cfg := cfgOf (P := Try.prog) (tab := tab) [] false []
def a157_0 (r_ : Int × List V) : List (Ex × St) := [((Ex.exit 0), (⟨[(1, (vi r_.1))], [(0, some (Blk.drow t_impl_Timer r_.2))], 1, [0]⟩ : St))]
def s157_0 : SS := ⟨[(0, (.one (.sl 0 t_impl_Timer))), (1, (.one (.int .i64))), (5, (.one (.int .i64)))], [(.drow t_impl_Timer)], 1, [0]⟩
noncomputable def l157_0 : LE := le0 2 s157_0 (fun st => laws_markTimerS_l2 (((((br st 0).length : Nat) : Int) - ((sv st 2).I)).toNat + 1) ((sv st 1).I) ((sv st 2).I) (br st 0)) a157_0
noncomputable def L157 : Loops := ⟨fun k => (look [(2, [0, 1, 5])] k).getD [], fun _ => [], fun k => (look [(2, [1])] k).getD [], runL [l157_0], []⟩
theorem t157_0 (k_ : Nat) : ∀ (k1 : Int) (i5 : Int) (r0 : List V), Agr id (pk0 a157_0) (laws_markTimerS_l2 k_ k1 i5 r0) (rounds c157 L157 (lpB Try.f157 0) k_ (s157_0.mk' (stv [.dead, vi k1, vi i5] [rb r0]))) := by
  induction k_ with
  | zero => exact fun _ _ _ => g0
  | succ k_ ih => exact fun _ _ _ => gA (g1 (g1 (g1 (g3 fun _ => ih _ _ _) g0) g0) g4) (by kernel_rfl)
theorem o157 : LoopsOk c157 L157 (bodyOf Try.f157) := GoodAll.ok (l := [l157_0]) (.cons 0 (by kernel_rfl) (gd0 (fun st => ((((br st 0).length : Nat) : Int) - ((sv st 2).I)).toNat + 1) (fun st => t157_0 _ _ _ _) fun st => by kernel_rfl) (.nil)) rfl
noncomputable def e157 : En Try.prog tab := enP base [] false [] Try.func157 (L := L157) o157 [(.one (.dr t_impl_Timer)), (.one (.int .i64))] (fun a => laws_markTimerS ((rd a 0).L) ((rd a 1).I)) (fun r_ : Int × List V => ((vi r_.1), [(V.dr t_impl_Timer r_.2)])) [] [[(.dr t_impl_Timer)]] [some t_impl_Timer, none] true (by kernel_rfl) fun _ => gA (g2 fun _ => g4) (by kernel_rfl)
noncomputable def e98 : En Try.prog tab := enP base [e157] false [] Try.func98 noLo [(.agg [(.int .i64), (.dr t_impl_Timer)]), (.one (.int .i64))] (fun a => laws_markWheel (rd a 0) ((rd a 1).I)) (fun r_ : Int × List V => ((vi r_.1), [(V.dr t_impl_Timer r_.2)])) [] [[(.dr t_impl_Timer)]] [none, none] true (by kernel_rfl) fun _ => gA (g2 fun _ => g4) (by kernel_rfl)
noncomputable def e37 : En Try.prog tab := enP base [e98] false [] Try.func37 noLo [(.agg q9), (.one (.int .i64))] (fun a => laws_markDuty (rd a 0) ((rd a 1).I)) (fun r_ : Int × List V => ((vi r_.1), [(V.dr t_impl_Timer r_.2)])) [] [[(.dr t_impl_Timer)]] [none, none] true (by kernel_rfl) fun _ => gA (g2 fun _ => g4) (by kernel_rfl)
noncomputable def c158 : Cfg := cfgOf (P := Try.prog) (tab := tab) [] false []
def a158_0 (r_ : Nat × Int × Int) : List (Ex × St) := [(Ex.ret, (⟨[(1, (vi r_.2.1)), (4, (vi r_.2.2))], [], 0, []⟩ : St)), ((Ex.exit 0), (⟨[(1, (vi r_.2.1)), (4, V.dead)], [], 0, []⟩ : St))]
def s158_0 : SS := ⟨[(0, (.one (.inl t_impl_Timer))), (1, (.one (.int .i64))), (5, (.one (.int .i64)))], [], 0, []⟩
noncomputable def l158_0 : LE := le1 2 s158_0 (fun st => laws_heldTimerS_l2 ((((((sv st 0).L).length : Nat) : Int) - ((sv st 2).I)).toNat + 1) ((sv st 0).L) ((sv st 1).I) ((sv st 2).I)) a158_0
noncomputable def L158 : Loops := ⟨fun k => (look [(2, [0, 1, 5])] k).getD [], fun _ => [], fun k => (look [(2, [1, 4])] k).getD [], runL [l158_0], []⟩
theorem t158_0 (k_ : Nat) : ∀ (a0 : List V) (k1 : Int) (i5 : Int), Agr id (pk1 a158_0) (laws_heldTimerS_l2 k_ a0 k1 i5) (rounds c158 L158 (lpB Try.f158 0) k_ (s158_0.mk' (stv [V.inl 0 a0, vi k1, vi i5] []))) := by
  induction k_ with
  | zero => exact fun _ _ _ => g0
  | succ k_ ih => exact fun _ _ _ => gA (g1 (g1 (g1 g4 (g1 (g1 g4 (ih _ _ _)) g0)) g0) g4) (by kernel_rfl)
theorem o158 : LoopsOk c158 L158 (bodyOf Try.f158) := GoodAll.ok (l := [l158_0]) (.cons 0 (by kernel_rfl) (gd1 (fun st => (((((sv st 0).L).length : Nat) : Int) - ((sv st 2).I)).toNat + 1) (fun st => t158_0 _ _ _ _) fun st => by kernel_rfl) (.nil)) rfl
noncomputable def e158 : En Try.prog tab := enP base [] false [] Try.func158 (L := L158) o158 [(.one (.inl t_impl_Timer)), (.one (.int .i64))] (fun a => laws_heldTimerS ((rd a 0).L) ((rd a 1).I)) (fun r_ : Int => ((vi r_), [])) [] [] [some t_impl_Timer, none] false (by kernel_rfl) fun _ => gA (g2 fun _ => g1 g4 g4) (by kernel_rfl)
noncomputable def e99 : En Try.prog tab := enP base [e158] false [] Try.func99 noLo [(.agg [(.int .i64), (.inl t_impl_Timer)]), (.one (.int .i64))] (fun a => laws_heldWheel (rd a 0) ((rd a 1).I)) (fun r_ : Int => ((vi r_), [])) [] [] [none, none] false (by kernel_rfl) fun _ => gA (g2 fun _ => g1 g4 g4) (by kernel_rfl)
noncomputable def e38 : En Try.prog tab := enP base [e99] false [] Try.func38 noLo [(.agg q3), (.one (.int .i64))] (fun a => laws_heldDuty (rd a 0) ((rd a 1).I)) (fun r_ : Int => ((vi r_), [])) [] [] [none, none] false (by kernel_rfl) fun _ => gA (g2 fun _ => g1 g4 g4) (by kernel_rfl)
set_option maxRecDepth 100000 in
noncomputable def e7 : En Try.prog tab := enP base [e32, e34, e33, e35, e36, e37, e38] true [] Try.func7 noLo [(.agg q0), (.one (.int .i64))] (fun a => laws_FnExactDutyRenew (rd a 0) ((rd a 1).I)) (fun r_ : Bool => ((V.bool r_), [])) [] [] [none, none] false (by kernel_rfl) fun _ => gA (g1 g4 (g2 fun _ => g2 fun _ => g2 fun _ => g2 fun _ => g2 fun _ => g1 g4 (g1 g4 (g2 fun _ => g2 fun _ => g1 g4 (g2 fun _ => g1 g4 (g2 fun _ => g1 g4 (g1 g4 (g2 fun _ => g2 fun _ => g1 g4 (g1 g4 (g2 fun _ => g2 fun _ => g2 fun _ => g1 g4 (g1 g4 (g2 fun _ => g1 g4 (g1 g4 g4))))))))))))) (by kernel_rfl)
end Go.Eng.R
open Go Go.Eng
namespace Go.Eng.R
def M_byte (x : V) (k : Int) : Prop := gi x 0 = IntKind.u8.wrap k
def M_int (x : V) (k : Int) : Prop := gi x 0 = k
def M_bool (x : V) (k : Int) : Prop := gb x 0 = decide (k.tmod 3 = 0)
def cnv_byte (x : V) : V := .int .u8 (gi x 0)
def cnv_int (x : V) : V := .int .i64 (gi x 0)
def cnv_bool (x : V) : V := .bool (gb x 0)
theorem cnv_int_W (x : V) (h : W_int x) : W_int (cnv_int x) := h
theorem cnv_int_z (x : V) : z0 (cnv_int x) = z0 x := rfl
theorem cnv_int_c (x : V) : c1 (cnv_int x) = c1 x := rfl
theorem cnv_bool_W (x : V) (h : W_bool x) : W_bool (cnv_bool x) := h
theorem cnv_bool_z (x : V) : z0 (cnv_bool x) = z0 x := rfl
theorem cnv_bool_c (x : V) : c1 (cnv_bool x) = c1 x := rfl
theorem cnv_byte_W (x : V) (h : W_byte x) : W_byte (cnv_byte x) := h
theorem cnv_byte_z (x : V) : z0 (cnv_byte x) = z0 x := rfl
theorem cnv_byte_c (x : V) : c1 (cnv_byte x) = c1 x := rfl
def W_Check (x : V) : Prop := LW W_byte (gl x 0) ∧ I64 (gi x 1) ∧ I64 (gi x 2) ∧ I64 (gi x 3) ∧ I64 (gi x 4) ∧ I64 (gi x 5)
def z_Check (x : V) : Nat := zS z0 (gl x 0)
def c_Check (x : V) : Nat := sumL c1 (gl x 0) + 1 + 1 + 1 + 1 + 1
def ct_Check (x : V) : Nat := sumL c1 (gl x 0)
def M_Check (x : V) (k : Int) : Prop := MS c1 M_byte (gl x 0) (k) ∧ gi x 1 = k + ((sumL c1 (gl x 0) : Nat) : Int) ∧ gi x 2 = k + ((sumL c1 (gl x 0) : Nat) : Int) + 1 ∧ gi x 3 = k + ((sumL c1 (gl x 0) : Nat) : Int) + 1 + 1 ∧ gi x 4 = k + ((sumL c1 (gl x 0) : Nat) : Int) + 1 + 1 + 1 ∧ gi x 5 = k + ((sumL c1 (gl x 0) : Nat) : Int) + 1 + 1 + 1 + 1
def cnv_Check (x : V) : V := V.agg [V.inl t_byte ((gl x 0).map cnv_byte), (V.int .i64 (gi x 1)), (V.int .i64 (gi x 2)), (V.int .i64 (gi x 3)), (V.int .i64 (gi x 4)), (V.int .i64 (gi x 5))]
theorem cnv_Check_W (x : V) (h : W_Check x) : W_Check (cnv_Check x) := ⟨LW.map (h := cnv_byte) cnv_byte_W (h.1), h.2.1, h.2.2.1, h.2.2.2.1, h.2.2.2.2.1, h.2.2.2.2.2⟩
theorem cnv_Check_z (x : V) : z_Check (cnv_Check x) = z_Check x := by
  simp only [z_Check, show gl (cnv_Check x) 0 = (gl x 0).map cnv_byte from rfl, zS_map (h := cnv_byte) cnv_byte_z (gl x 0)]
theorem cnv_Check_c (x : V) : c_Check (cnv_Check x) = c_Check x := by
  simp only [c_Check, show gl (cnv_Check x) 0 = (gl x 0).map cnv_byte from rfl, sumL_map (h := cnv_byte) cnv_byte_c (gl x 0)]
theorem cnv_Check_ct (x : V) : ct_Check (cnv_Check x) = ct_Check x := by
  simp only [ct_Check, show gl (cnv_Check x) 0 = (gl x 0).map cnv_byte from rfl, sumL_map (h := cnv_byte) cnv_byte_c (gl x 0)]
theorem c_Check_cz (x : V) : c_Check x ≤ 5 * (1 + z_Check x) := by
  have h0 : sumL c1 (gl x 0) ≤ 1 * zS z0 (gl x 0) := by rw [sumL_c1, zS_z0]; omega
  simp only [c_Check, z_Check]; omega
theorem ct_Check_cz (x : V) : ct_Check x ≤ 5 * z_Check x := by
  have h0 : sumL c1 (gl x 0) ≤ 1 * zS z0 (gl x 0) := by rw [sumL_c1, zS_z0]; omega
  simp only [ct_Check, z_Check]; omega
def W_Service (x : V) : Prop := LW W_byte (gl x 0) ∧ LW W_Check (gl x 1)
def z_Service (x : V) : Nat := zS z0 (gl x 0) + zS z_Check (gl x 1)
def c_Service (x : V) : Nat := sumL c1 (gl x 0) + sumL c_Check (gl x 1)
def ct_Service (x : V) : Nat := sumL c1 (gl x 0) + sumL c_Check (gl x 1)
def M_Service (x : V) (k : Int) : Prop := MS c1 M_byte (gl x 0) (k) ∧ MS c_Check M_Check (gl x 1) (k + ((sumL c1 (gl x 0) : Nat) : Int))
def cnv_Service (x : V) : V := V.agg [V.inl t_byte ((gl x 0).map cnv_byte), V.inl t_impl_Check ((gl x 1).map cnv_Check)]
theorem cnv_Service_W (x : V) (h : W_Service x) : W_Service (cnv_Service x) := ⟨LW.map (h := cnv_byte) cnv_byte_W (h.1), LW.map (h := cnv_Check) cnv_Check_W (h.2)⟩
theorem cnv_Service_z (x : V) : z_Service (cnv_Service x) = z_Service x := by
  simp only [z_Service, show gl (cnv_Service x) 0 = (gl x 0).map cnv_byte from rfl, show gl (cnv_Service x) 1 = (gl x 1).map cnv_Check from rfl, zS_map (h := cnv_byte) cnv_byte_z (gl x 0), zS_map (h := cnv_Check) cnv_Check_z (gl x 1)]
theorem cnv_Service_c (x : V) : c_Service (cnv_Service x) = c_Service x := by
  simp only [c_Service, show gl (cnv_Service x) 0 = (gl x 0).map cnv_byte from rfl, show gl (cnv_Service x) 1 = (gl x 1).map cnv_Check from rfl, sumL_map (h := cnv_byte) cnv_byte_c (gl x 0), sumL_map (h := cnv_Check) cnv_Check_c (gl x 1)]
theorem cnv_Service_ct (x : V) : ct_Service (cnv_Service x) = ct_Service x := by
  simp only [ct_Service, show gl (cnv_Service x) 0 = (gl x 0).map cnv_byte from rfl, show gl (cnv_Service x) 1 = (gl x 1).map cnv_Check from rfl, sumL_map (h := cnv_byte) cnv_byte_c (gl x 0), sumL_map (h := cnv_Check) cnv_Check_c (gl x 1)]
theorem c_Service_cz (x : V) : c_Service x ≤ 5 * (1 + z_Service x) := by
  have h0 : sumL c1 (gl x 0) ≤ 1 * zS z0 (gl x 0) := by rw [sumL_c1, zS_z0]; omega
  have h1 : sumL c_Check (gl x 1) ≤ 5 * zS z_Check (gl x 1) := sumL_mul 5 fun y _ => c_Check_cz y
  simp only [c_Service, z_Service]; omega
theorem ct_Service_cz (x : V) : ct_Service x ≤ 5 * z_Service x := by
  have h0 : sumL c1 (gl x 0) ≤ 1 * zS z0 (gl x 0) := by rw [sumL_c1, zS_z0]; omega
  have h1 : sumL c_Check (gl x 1) ≤ 5 * zS z_Check (gl x 1) := sumL_mul 5 fun y _ => c_Check_cz y
  simp only [ct_Service, z_Service]; omega
def W_Local (x : V) : Prop := LW W_byte (gl x 0) ∧ LW W_Service (gl x 1)
def z_Local (x : V) : Nat := zS z0 (gl x 0) + zS z_Service (gl x 1)
def c_Local (x : V) : Nat := sumL c1 (gl x 0) + sumL c_Service (gl x 1)
def ct_Local (x : V) : Nat := sumL c1 (gl x 0) + sumL c_Service (gl x 1)
def M_Local (x : V) (k : Int) : Prop := MS c1 M_byte (gl x 0) (k) ∧ MS c_Service M_Service (gl x 1) (k + ((sumL c1 (gl x 0) : Nat) : Int))
def cnv_Local (x : V) : V := V.agg [V.inl t_byte ((gl x 0).map cnv_byte), V.inl t_impl_Service ((gl x 1).map cnv_Service)]
theorem cnv_Local_W (x : V) (h : W_Local x) : W_Local (cnv_Local x) := ⟨LW.map (h := cnv_byte) cnv_byte_W (h.1), LW.map (h := cnv_Service) cnv_Service_W (h.2)⟩
theorem cnv_Local_z (x : V) : z_Local (cnv_Local x) = z_Local x := by
  simp only [z_Local, show gl (cnv_Local x) 0 = (gl x 0).map cnv_byte from rfl, show gl (cnv_Local x) 1 = (gl x 1).map cnv_Service from rfl, zS_map (h := cnv_byte) cnv_byte_z (gl x 0), zS_map (h := cnv_Service) cnv_Service_z (gl x 1)]
theorem cnv_Local_c (x : V) : c_Local (cnv_Local x) = c_Local x := by
  simp only [c_Local, show gl (cnv_Local x) 0 = (gl x 0).map cnv_byte from rfl, show gl (cnv_Local x) 1 = (gl x 1).map cnv_Service from rfl, sumL_map (h := cnv_byte) cnv_byte_c (gl x 0), sumL_map (h := cnv_Service) cnv_Service_c (gl x 1)]
theorem cnv_Local_ct (x : V) : ct_Local (cnv_Local x) = ct_Local x := by
  simp only [ct_Local, show gl (cnv_Local x) 0 = (gl x 0).map cnv_byte from rfl, show gl (cnv_Local x) 1 = (gl x 1).map cnv_Service from rfl, sumL_map (h := cnv_byte) cnv_byte_c (gl x 0), sumL_map (h := cnv_Service) cnv_Service_c (gl x 1)]
theorem c_Local_cz (x : V) : c_Local x ≤ 5 * (1 + z_Local x) := by
  have h0 : sumL c1 (gl x 0) ≤ 1 * zS z0 (gl x 0) := by rw [sumL_c1, zS_z0]; omega
  have h1 : sumL c_Service (gl x 1) ≤ 5 * zS z_Service (gl x 1) := sumL_mul 5 fun y _ => c_Service_cz y
  simp only [c_Local, z_Local]; omega
theorem ct_Local_cz (x : V) : ct_Local x ≤ 5 * z_Local x := by
  have h0 : sumL c1 (gl x 0) ≤ 1 * zS z0 (gl x 0) := by rw [sumL_c1, zS_z0]; omega
  have h1 : sumL c_Service (gl x 1) ≤ 5 * zS z_Service (gl x 1) := sumL_mul 5 fun y _ => c_Service_cz y
  simp only [ct_Local, z_Local]; omega
def W_Timer (x : V) : Prop := I64 (gi x 0) ∧ I64 (gi x 1)
def z_Timer (x : V) : Nat := 0
def c_Timer (x : V) : Nat := 1 + 1
def ct_Timer (x : V) : Nat := 0
def M_Timer (x : V) (k : Int) : Prop := gi x 0 = k ∧ gi x 1 = k + 1
def cnv_Timer (x : V) : V := V.agg [(V.int .i64 (gi x 0)), (V.int .i64 (gi x 1))]
theorem cnv_Timer_W (x : V) (h : W_Timer x) : W_Timer (cnv_Timer x) := ⟨h.1, h.2⟩
theorem cnv_Timer_z (x : V) : z_Timer (cnv_Timer x) = z_Timer x := rfl
theorem cnv_Timer_c (x : V) : c_Timer (cnv_Timer x) = c_Timer x := rfl
theorem cnv_Timer_ct (x : V) : ct_Timer (cnv_Timer x) = ct_Timer x := rfl
theorem c_Timer_cz (x : V) : c_Timer x ≤ 2 * (1 + z_Timer x) := by
  simp only [c_Timer, z_Timer]; omega
theorem ct_Timer_cz (x : V) : ct_Timer x ≤ 2 * z_Timer x := by
  simp only [ct_Timer, z_Timer]; omega
def W_Wheel (x : V) : Prop := I64 (gi x 0) ∧ LW W_Timer (gl x 1)
def z_Wheel (x : V) : Nat := zS z_Timer (gl x 1)
def c_Wheel (x : V) : Nat := 1 + sumL c_Timer (gl x 1)
def ct_Wheel (x : V) : Nat := sumL c_Timer (gl x 1)
def M_Wheel (x : V) (k : Int) : Prop := gi x 0 = k ∧ MS c_Timer M_Timer (gl x 1) (k + 1)
def cnv_Wheel (x : V) : V := V.agg [(V.int .i64 (gi x 0)), V.inl t_impl_Timer ((gl x 1).map cnv_Timer)]
theorem cnv_Wheel_W (x : V) (h : W_Wheel x) : W_Wheel (cnv_Wheel x) := ⟨h.1, LW.map (h := cnv_Timer) cnv_Timer_W (h.2)⟩
theorem cnv_Wheel_z (x : V) : z_Wheel (cnv_Wheel x) = z_Wheel x := by
  simp only [z_Wheel, show gl (cnv_Wheel x) 1 = (gl x 1).map cnv_Timer from rfl, zS_map (h := cnv_Timer) cnv_Timer_z (gl x 1)]
theorem cnv_Wheel_c (x : V) : c_Wheel (cnv_Wheel x) = c_Wheel x := by
  simp only [c_Wheel, show gl (cnv_Wheel x) 1 = (gl x 1).map cnv_Timer from rfl, sumL_map (h := cnv_Timer) cnv_Timer_c (gl x 1)]
theorem cnv_Wheel_ct (x : V) : ct_Wheel (cnv_Wheel x) = ct_Wheel x := by
  simp only [ct_Wheel, show gl (cnv_Wheel x) 1 = (gl x 1).map cnv_Timer from rfl, sumL_map (h := cnv_Timer) cnv_Timer_c (gl x 1)]
theorem c_Wheel_cz (x : V) : c_Wheel x ≤ 2 * (1 + z_Wheel x) := by
  have h0 : sumL c_Timer (gl x 1) ≤ 2 * zS z_Timer (gl x 1) := sumL_mul 2 fun y _ => c_Timer_cz y
  simp only [c_Wheel, z_Wheel]; omega
theorem ct_Wheel_cz (x : V) : ct_Wheel x ≤ 2 * z_Wheel x := by
  have h0 : sumL c_Timer (gl x 1) ≤ 2 * zS z_Timer (gl x 1) := sumL_mul 2 fun y _ => c_Timer_cz y
  simp only [ct_Wheel, z_Wheel]; omega
def W_Duty (x : V) : Prop := I64 (gi x 0) ∧ I64 (gi x 1) ∧ LW W_Timer (gl x 2)
def z_Duty (x : V) : Nat := zS z_Timer (gl x 2)
def c_Duty (x : V) : Nat := 1 + 1 + sumL c_Timer (gl x 2)
def ct_Duty (x : V) : Nat := sumL c_Timer (gl x 2)
def M_Duty (x : V) (k : Int) : Prop := gi x 0 = k ∧ gi x 1 = k + 1 ∧ MS c_Timer M_Timer (gl x 2) (k + 1 + 1)
def cnv_Duty (x : V) : V := V.agg [(V.int .i64 (gi x 0)), (V.int .i64 (gi x 1)), V.inl t_impl_Timer ((gl x 2).map cnv_Timer)]
theorem cnv_Duty_W (x : V) (h : W_Duty x) : W_Duty (cnv_Duty x) := ⟨h.1, h.2.1, LW.map (h := cnv_Timer) cnv_Timer_W (h.2.2)⟩
theorem cnv_Duty_z (x : V) : z_Duty (cnv_Duty x) = z_Duty x := by
  simp only [z_Duty, show gl (cnv_Duty x) 2 = (gl x 2).map cnv_Timer from rfl, zS_map (h := cnv_Timer) cnv_Timer_z (gl x 2)]
theorem cnv_Duty_c (x : V) : c_Duty (cnv_Duty x) = c_Duty x := by
  simp only [c_Duty, show gl (cnv_Duty x) 2 = (gl x 2).map cnv_Timer from rfl, sumL_map (h := cnv_Timer) cnv_Timer_c (gl x 2)]
theorem cnv_Duty_ct (x : V) : ct_Duty (cnv_Duty x) = ct_Duty x := by
  simp only [ct_Duty, show gl (cnv_Duty x) 2 = (gl x 2).map cnv_Timer from rfl, sumL_map (h := cnv_Timer) cnv_Timer_c (gl x 2)]
theorem c_Duty_cz (x : V) : c_Duty x ≤ 2 * (1 + z_Duty x) := by
  have h0 : sumL c_Timer (gl x 2) ≤ 2 * zS z_Timer (gl x 2) := sumL_mul 2 fun y _ => c_Timer_cz y
  simp only [c_Duty, z_Duty]; omega
theorem ct_Duty_cz (x : V) : ct_Duty x ≤ 2 * z_Duty x := by
  have h0 : sumL c_Timer (gl x 2) ≤ 2 * zS z_Timer (gl x 2) := sumL_mul 2 fun y _ => c_Timer_cz y
  simp only [ct_Duty, z_Duty]; omega
def W_Row (x : V) : Prop := LW W_byte (gl x 0) ∧ LW W_byte (gl x 1) ∧ I64 (gi x 2) ∧ I64 (gi x 3)
def z_Row (x : V) : Nat := zS z0 (gl x 0) + zS z0 (gl x 1)
def c_Row (x : V) : Nat := sumL c1 (gl x 0) + sumL c1 (gl x 1) + 1 + 1
def ct_Row (x : V) : Nat := sumL c1 (gl x 0) + sumL c1 (gl x 1)
def M_Row (x : V) (k : Int) : Prop := MS c1 M_byte (gl x 0) (k) ∧ MS c1 M_byte (gl x 1) (k + ((sumL c1 (gl x 0) : Nat) : Int)) ∧ gi x 2 = k + ((sumL c1 (gl x 0) : Nat) : Int) + ((sumL c1 (gl x 1) : Nat) : Int) ∧ gi x 3 = k + ((sumL c1 (gl x 0) : Nat) : Int) + ((sumL c1 (gl x 1) : Nat) : Int) + 1
def cnv_Row (x : V) : V := V.agg [V.inl t_byte ((gl x 0).map cnv_byte), V.inl t_byte ((gl x 1).map cnv_byte), (V.int .i64 (gi x 2)), (V.int .i64 (gi x 3))]
theorem cnv_Row_W (x : V) (h : W_Row x) : W_Row (cnv_Row x) := ⟨LW.map (h := cnv_byte) cnv_byte_W (h.1), LW.map (h := cnv_byte) cnv_byte_W (h.2.1), h.2.2.1, h.2.2.2⟩
theorem cnv_Row_z (x : V) : z_Row (cnv_Row x) = z_Row x := by
  simp only [z_Row, show gl (cnv_Row x) 0 = (gl x 0).map cnv_byte from rfl, show gl (cnv_Row x) 1 = (gl x 1).map cnv_byte from rfl, zS_map (h := cnv_byte) cnv_byte_z (gl x 0), zS_map (h := cnv_byte) cnv_byte_z (gl x 1)]
theorem cnv_Row_c (x : V) : c_Row (cnv_Row x) = c_Row x := by
  simp only [c_Row, show gl (cnv_Row x) 0 = (gl x 0).map cnv_byte from rfl, show gl (cnv_Row x) 1 = (gl x 1).map cnv_byte from rfl, sumL_map (h := cnv_byte) cnv_byte_c (gl x 0), sumL_map (h := cnv_byte) cnv_byte_c (gl x 1)]
theorem cnv_Row_ct (x : V) : ct_Row (cnv_Row x) = ct_Row x := by
  simp only [ct_Row, show gl (cnv_Row x) 0 = (gl x 0).map cnv_byte from rfl, show gl (cnv_Row x) 1 = (gl x 1).map cnv_byte from rfl, sumL_map (h := cnv_byte) cnv_byte_c (gl x 0), sumL_map (h := cnv_byte) cnv_byte_c (gl x 1)]
theorem c_Row_cz (x : V) : c_Row x ≤ 2 * (1 + z_Row x) := by
  have h0 : sumL c1 (gl x 0) ≤ 1 * zS z0 (gl x 0) := by rw [sumL_c1, zS_z0]; omega
  have h1 : sumL c1 (gl x 1) ≤ 1 * zS z0 (gl x 1) := by rw [sumL_c1, zS_z0]; omega
  simp only [c_Row, z_Row]; omega
theorem ct_Row_cz (x : V) : ct_Row x ≤ 2 * z_Row x := by
  have h0 : sumL c1 (gl x 0) ≤ 1 * zS z0 (gl x 0) := by rw [sumL_c1, zS_z0]; omega
  have h1 : sumL c1 (gl x 1) ≤ 1 * zS z0 (gl x 1) := by rw [sumL_c1, zS_z0]; omega
  simp only [ct_Row, z_Row]; omega
def W_Tomb (x : V) : Prop := LW W_byte (gl x 0) ∧ I64 (gi x 1)
def z_Tomb (x : V) : Nat := zS z0 (gl x 0)
def c_Tomb (x : V) : Nat := sumL c1 (gl x 0) + 1
def ct_Tomb (x : V) : Nat := sumL c1 (gl x 0)
def M_Tomb (x : V) (k : Int) : Prop := MS c1 M_byte (gl x 0) (k) ∧ gi x 1 = k + ((sumL c1 (gl x 0) : Nat) : Int)
def cnv_Tomb (x : V) : V := V.agg [V.inl t_byte ((gl x 0).map cnv_byte), (V.int .i64 (gi x 1))]
theorem cnv_Tomb_W (x : V) (h : W_Tomb x) : W_Tomb (cnv_Tomb x) := ⟨LW.map (h := cnv_byte) cnv_byte_W (h.1), h.2⟩
theorem cnv_Tomb_z (x : V) : z_Tomb (cnv_Tomb x) = z_Tomb x := by
  simp only [z_Tomb, show gl (cnv_Tomb x) 0 = (gl x 0).map cnv_byte from rfl, zS_map (h := cnv_byte) cnv_byte_z (gl x 0)]
theorem cnv_Tomb_c (x : V) : c_Tomb (cnv_Tomb x) = c_Tomb x := by
  simp only [c_Tomb, show gl (cnv_Tomb x) 0 = (gl x 0).map cnv_byte from rfl, sumL_map (h := cnv_byte) cnv_byte_c (gl x 0)]
theorem cnv_Tomb_ct (x : V) : ct_Tomb (cnv_Tomb x) = ct_Tomb x := by
  simp only [ct_Tomb, show gl (cnv_Tomb x) 0 = (gl x 0).map cnv_byte from rfl, sumL_map (h := cnv_byte) cnv_byte_c (gl x 0)]
theorem c_Tomb_cz (x : V) : c_Tomb x ≤ 1 * (1 + z_Tomb x) := by
  have h0 : sumL c1 (gl x 0) ≤ 1 * zS z0 (gl x 0) := by rw [sumL_c1, zS_z0]; omega
  simp only [c_Tomb, z_Tomb]; omega
theorem ct_Tomb_cz (x : V) : ct_Tomb x ≤ 1 * z_Tomb x := by
  have h0 : sumL c1 (gl x 0) ≤ 1 * zS z0 (gl x 0) := by rw [sumL_c1, zS_z0]; omega
  simp only [ct_Tomb, z_Tomb]; omega
def W_Session (x : V) : Prop := I64 (gi x 0) ∧ True
def z_Session (x : V) : Nat := 0
def c_Session (x : V) : Nat := 1 + 1
def ct_Session (x : V) : Nat := 0
def M_Session (x : V) (k : Int) : Prop := gi x 0 = k ∧ gb x 1 = decide ((k + 1).tmod 3 = 0)
def cnv_Session (x : V) : V := V.agg [(V.int .i64 (gi x 0)), (V.bool (gb x 1))]
theorem cnv_Session_W (x : V) (h : W_Session x) : W_Session (cnv_Session x) := ⟨h.1, h.2⟩
theorem cnv_Session_z (x : V) : z_Session (cnv_Session x) = z_Session x := rfl
theorem cnv_Session_c (x : V) : c_Session (cnv_Session x) = c_Session x := rfl
theorem cnv_Session_ct (x : V) : ct_Session (cnv_Session x) = ct_Session x := rfl
theorem c_Session_cz (x : V) : c_Session x ≤ 2 * (1 + z_Session x) := by
  simp only [c_Session, z_Session]; omega
theorem ct_Session_cz (x : V) : ct_Session x ≤ 2 * z_Session x := by
  simp only [ct_Session, z_Session]; omega
def W_Last (x : V) : Prop := I64 (gi x 0) ∧ I64 (gi x 1) ∧ I64 (gi x 2) ∧ I64 (gi x 3)
def z_Last (x : V) : Nat := 0
def c_Last (x : V) : Nat := 1 + 1 + 1 + 1
def ct_Last (x : V) : Nat := 0
def M_Last (x : V) (k : Int) : Prop := gi x 0 = k ∧ gi x 1 = k + 1 ∧ gi x 2 = k + 1 + 1 ∧ gi x 3 = k + 1 + 1 + 1
def cnv_Last (x : V) : V := V.agg [(V.int .i64 (gi x 0)), (V.int .i64 (gi x 1)), (V.int .i64 (gi x 2)), (V.int .i64 (gi x 3))]
theorem cnv_Last_W (x : V) (h : W_Last x) : W_Last (cnv_Last x) := ⟨h.1, h.2.1, h.2.2.1, h.2.2.2⟩
theorem cnv_Last_z (x : V) : z_Last (cnv_Last x) = z_Last x := rfl
theorem cnv_Last_c (x : V) : c_Last (cnv_Last x) = c_Last x := rfl
theorem cnv_Last_ct (x : V) : ct_Last (cnv_Last x) = ct_Last x := rfl
theorem c_Last_cz (x : V) : c_Last x ≤ 4 * (1 + z_Last x) := by
  simp only [c_Last, z_Last]; omega
theorem ct_Last_cz (x : V) : ct_Last x ≤ 4 * z_Last x := by
  simp only [ct_Last, z_Last]; omega
def W_State (x : V) : Prop := I64 (gi x 0) ∧ LW W_Row (gl x 1) ∧ LW W_Tomb (gl x 2) ∧ I64 (gi x 3) ∧ LW W_Session (gl x 4) ∧ LW W_Last (gl x 5)
def z_State (x : V) : Nat := zS z_Row (gl x 1) + zS z_Tomb (gl x 2) + zS z_Session (gl x 4) + zS z_Last (gl x 5)
def c_State (x : V) : Nat := 1 + sumL c_Row (gl x 1) + sumL c_Tomb (gl x 2) + 1 + sumL c_Session (gl x 4) + sumL c_Last (gl x 5)
def ct_State (x : V) : Nat := sumL c_Row (gl x 1) + sumL c_Tomb (gl x 2) + sumL c_Session (gl x 4) + sumL c_Last (gl x 5)
def M_State (x : V) (k : Int) : Prop := gi x 0 = k ∧ MS c_Row M_Row (gl x 1) (k + 1) ∧ MS c_Tomb M_Tomb (gl x 2) (k + 1 + ((sumL c_Row (gl x 1) : Nat) : Int)) ∧ gi x 3 = k + 1 + ((sumL c_Row (gl x 1) : Nat) : Int) + ((sumL c_Tomb (gl x 2) : Nat) : Int) ∧ MS c_Session M_Session (gl x 4) (k + 1 + ((sumL c_Row (gl x 1) : Nat) : Int) + ((sumL c_Tomb (gl x 2) : Nat) : Int) + 1) ∧ MS c_Last M_Last (gl x 5) (k + 1 + ((sumL c_Row (gl x 1) : Nat) : Int) + ((sumL c_Tomb (gl x 2) : Nat) : Int) + 1 + ((sumL c_Session (gl x 4) : Nat) : Int))
def cnv_State (x : V) : V := V.agg [(V.int .i64 (gi x 0)), V.inl t_impl_Row ((gl x 1).map cnv_Row), V.inl t_impl_Tomb ((gl x 2).map cnv_Tomb), (V.int .i64 (gi x 3)), V.inl t_impl_Session ((gl x 4).map cnv_Session), V.inl t_impl_Last ((gl x 5).map cnv_Last)]
theorem cnv_State_W (x : V) (h : W_State x) : W_State (cnv_State x) := ⟨h.1, LW.map (h := cnv_Row) cnv_Row_W (h.2.1), LW.map (h := cnv_Tomb) cnv_Tomb_W (h.2.2.1), h.2.2.2.1, LW.map (h := cnv_Session) cnv_Session_W (h.2.2.2.2.1), LW.map (h := cnv_Last) cnv_Last_W (h.2.2.2.2.2)⟩
theorem cnv_State_z (x : V) : z_State (cnv_State x) = z_State x := by
  simp only [z_State, show gl (cnv_State x) 1 = (gl x 1).map cnv_Row from rfl, show gl (cnv_State x) 2 = (gl x 2).map cnv_Tomb from rfl, show gl (cnv_State x) 4 = (gl x 4).map cnv_Session from rfl, show gl (cnv_State x) 5 = (gl x 5).map cnv_Last from rfl, zS_map (h := cnv_Row) cnv_Row_z (gl x 1), zS_map (h := cnv_Tomb) cnv_Tomb_z (gl x 2), zS_map (h := cnv_Session) cnv_Session_z (gl x 4), zS_map (h := cnv_Last) cnv_Last_z (gl x 5)]
theorem cnv_State_c (x : V) : c_State (cnv_State x) = c_State x := by
  simp only [c_State, show gl (cnv_State x) 1 = (gl x 1).map cnv_Row from rfl, show gl (cnv_State x) 2 = (gl x 2).map cnv_Tomb from rfl, show gl (cnv_State x) 4 = (gl x 4).map cnv_Session from rfl, show gl (cnv_State x) 5 = (gl x 5).map cnv_Last from rfl, sumL_map (h := cnv_Row) cnv_Row_c (gl x 1), sumL_map (h := cnv_Tomb) cnv_Tomb_c (gl x 2), sumL_map (h := cnv_Session) cnv_Session_c (gl x 4), sumL_map (h := cnv_Last) cnv_Last_c (gl x 5)]
theorem cnv_State_ct (x : V) : ct_State (cnv_State x) = ct_State x := by
  simp only [ct_State, show gl (cnv_State x) 1 = (gl x 1).map cnv_Row from rfl, show gl (cnv_State x) 2 = (gl x 2).map cnv_Tomb from rfl, show gl (cnv_State x) 4 = (gl x 4).map cnv_Session from rfl, show gl (cnv_State x) 5 = (gl x 5).map cnv_Last from rfl, sumL_map (h := cnv_Row) cnv_Row_c (gl x 1), sumL_map (h := cnv_Tomb) cnv_Tomb_c (gl x 2), sumL_map (h := cnv_Session) cnv_Session_c (gl x 4), sumL_map (h := cnv_Last) cnv_Last_c (gl x 5)]
theorem c_State_cz (x : V) : c_State x ≤ 4 * (1 + z_State x) := by
  have h0 : sumL c_Row (gl x 1) ≤ 2 * zS z_Row (gl x 1) := sumL_mul 2 fun y _ => c_Row_cz y
  have h1 : sumL c_Tomb (gl x 2) ≤ 1 * zS z_Tomb (gl x 2) := sumL_mul 1 fun y _ => c_Tomb_cz y
  have h2 : sumL c_Session (gl x 4) ≤ 2 * zS z_Session (gl x 4) := sumL_mul 2 fun y _ => c_Session_cz y
  have h3 : sumL c_Last (gl x 5) ≤ 4 * zS z_Last (gl x 5) := sumL_mul 4 fun y _ => c_Last_cz y
  simp only [c_State, z_State]; omega
theorem ct_State_cz (x : V) : ct_State x ≤ 4 * z_State x := by
  have h0 : sumL c_Row (gl x 1) ≤ 2 * zS z_Row (gl x 1) := sumL_mul 2 fun y _ => c_Row_cz y
  have h1 : sumL c_Tomb (gl x 2) ≤ 1 * zS z_Tomb (gl x 2) := sumL_mul 1 fun y _ => c_Tomb_cz y
  have h2 : sumL c_Session (gl x 4) ≤ 2 * zS z_Session (gl x 4) := sumL_mul 2 fun y _ => c_Session_cz y
  have h3 : sumL c_Last (gl x 5) ≤ 4 * zS z_Last (gl x 5) := sumL_mul 4 fun y _ => c_Last_cz y
  simp only [ct_State, z_State]; omega
def W_Op (x : V) : Prop := I64 (gi x 0) ∧ LW W_byte (gl x 1) ∧ LW W_byte (gl x 2) ∧ I64 (gi x 3)
def z_Op (x : V) : Nat := zS z0 (gl x 1) + zS z0 (gl x 2)
def c_Op (x : V) : Nat := 1 + sumL c1 (gl x 1) + sumL c1 (gl x 2) + 1
def ct_Op (x : V) : Nat := sumL c1 (gl x 1) + sumL c1 (gl x 2)
def M_Op (x : V) (k : Int) : Prop := gi x 0 = k ∧ MS c1 M_byte (gl x 1) (k + 1) ∧ MS c1 M_byte (gl x 2) (k + 1 + ((sumL c1 (gl x 1) : Nat) : Int)) ∧ gi x 3 = k + 1 + ((sumL c1 (gl x 1) : Nat) : Int) + ((sumL c1 (gl x 2) : Nat) : Int)
def cnv_Op (x : V) : V := V.agg [(V.int .i64 (gi x 0)), V.inl t_byte ((gl x 1).map cnv_byte), V.inl t_byte ((gl x 2).map cnv_byte), (V.int .i64 (gi x 3))]
theorem cnv_Op_W (x : V) (h : W_Op x) : W_Op (cnv_Op x) := ⟨h.1, LW.map (h := cnv_byte) cnv_byte_W (h.2.1), LW.map (h := cnv_byte) cnv_byte_W (h.2.2.1), h.2.2.2⟩
theorem cnv_Op_z (x : V) : z_Op (cnv_Op x) = z_Op x := by
  simp only [z_Op, show gl (cnv_Op x) 1 = (gl x 1).map cnv_byte from rfl, show gl (cnv_Op x) 2 = (gl x 2).map cnv_byte from rfl, zS_map (h := cnv_byte) cnv_byte_z (gl x 1), zS_map (h := cnv_byte) cnv_byte_z (gl x 2)]
theorem cnv_Op_c (x : V) : c_Op (cnv_Op x) = c_Op x := by
  simp only [c_Op, show gl (cnv_Op x) 1 = (gl x 1).map cnv_byte from rfl, show gl (cnv_Op x) 2 = (gl x 2).map cnv_byte from rfl, sumL_map (h := cnv_byte) cnv_byte_c (gl x 1), sumL_map (h := cnv_byte) cnv_byte_c (gl x 2)]
theorem cnv_Op_ct (x : V) : ct_Op (cnv_Op x) = ct_Op x := by
  simp only [ct_Op, show gl (cnv_Op x) 1 = (gl x 1).map cnv_byte from rfl, show gl (cnv_Op x) 2 = (gl x 2).map cnv_byte from rfl, sumL_map (h := cnv_byte) cnv_byte_c (gl x 1), sumL_map (h := cnv_byte) cnv_byte_c (gl x 2)]
theorem c_Op_cz (x : V) : c_Op x ≤ 2 * (1 + z_Op x) := by
  have h0 : sumL c1 (gl x 1) ≤ 1 * zS z0 (gl x 1) := by rw [sumL_c1, zS_z0]; omega
  have h1 : sumL c1 (gl x 2) ≤ 1 * zS z0 (gl x 2) := by rw [sumL_c1, zS_z0]; omega
  simp only [c_Op, z_Op]; omega
theorem ct_Op_cz (x : V) : ct_Op x ≤ 2 * z_Op x := by
  have h0 : sumL c1 (gl x 1) ≤ 1 * zS z0 (gl x 1) := by rw [sumL_c1, zS_z0]; omega
  have h1 : sumL c1 (gl x 2) ≤ 1 * zS z0 (gl x 2) := by rw [sumL_c1, zS_z0]; omega
  simp only [ct_Op, z_Op]; omega
def W_Cmd (x : V) : Prop := I64 (gi x 0) ∧ I64 (gi x 1) ∧ I64 (gi x 2) ∧ LW W_byte (gl x 3) ∧ LW W_byte (gl x 4) ∧ I64 (gi x 5)
def z_Cmd (x : V) : Nat := zS z0 (gl x 3) + zS z0 (gl x 4)
def c_Cmd (x : V) : Nat := 1 + 1 + 1 + sumL c1 (gl x 3) + sumL c1 (gl x 4) + 1
def ct_Cmd (x : V) : Nat := sumL c1 (gl x 3) + sumL c1 (gl x 4)
def M_Cmd (x : V) (k : Int) : Prop := gi x 0 = k ∧ gi x 1 = k + 1 ∧ gi x 2 = k + 1 + 1 ∧ MS c1 M_byte (gl x 3) (k + 1 + 1 + 1) ∧ MS c1 M_byte (gl x 4) (k + 1 + 1 + 1 + ((sumL c1 (gl x 3) : Nat) : Int)) ∧ gi x 5 = k + 1 + 1 + 1 + ((sumL c1 (gl x 3) : Nat) : Int) + ((sumL c1 (gl x 4) : Nat) : Int)
def cnv_Cmd (x : V) : V := V.agg [(V.int .i64 (gi x 0)), (V.int .i64 (gi x 1)), (V.int .i64 (gi x 2)), V.inl t_byte ((gl x 3).map cnv_byte), V.inl t_byte ((gl x 4).map cnv_byte), (V.int .i64 (gi x 5))]
theorem cnv_Cmd_W (x : V) (h : W_Cmd x) : W_Cmd (cnv_Cmd x) := ⟨h.1, h.2.1, h.2.2.1, LW.map (h := cnv_byte) cnv_byte_W (h.2.2.2.1), LW.map (h := cnv_byte) cnv_byte_W (h.2.2.2.2.1), h.2.2.2.2.2⟩
theorem cnv_Cmd_z (x : V) : z_Cmd (cnv_Cmd x) = z_Cmd x := by
  simp only [z_Cmd, show gl (cnv_Cmd x) 3 = (gl x 3).map cnv_byte from rfl, show gl (cnv_Cmd x) 4 = (gl x 4).map cnv_byte from rfl, zS_map (h := cnv_byte) cnv_byte_z (gl x 3), zS_map (h := cnv_byte) cnv_byte_z (gl x 4)]
theorem cnv_Cmd_c (x : V) : c_Cmd (cnv_Cmd x) = c_Cmd x := by
  simp only [c_Cmd, show gl (cnv_Cmd x) 3 = (gl x 3).map cnv_byte from rfl, show gl (cnv_Cmd x) 4 = (gl x 4).map cnv_byte from rfl, sumL_map (h := cnv_byte) cnv_byte_c (gl x 3), sumL_map (h := cnv_byte) cnv_byte_c (gl x 4)]
theorem cnv_Cmd_ct (x : V) : ct_Cmd (cnv_Cmd x) = ct_Cmd x := by
  simp only [ct_Cmd, show gl (cnv_Cmd x) 3 = (gl x 3).map cnv_byte from rfl, show gl (cnv_Cmd x) 4 = (gl x 4).map cnv_byte from rfl, sumL_map (h := cnv_byte) cnv_byte_c (gl x 3), sumL_map (h := cnv_byte) cnv_byte_c (gl x 4)]
theorem c_Cmd_cz (x : V) : c_Cmd x ≤ 4 * (1 + z_Cmd x) := by
  have h0 : sumL c1 (gl x 3) ≤ 1 * zS z0 (gl x 3) := by rw [sumL_c1, zS_z0]; omega
  have h1 : sumL c1 (gl x 4) ≤ 1 * zS z0 (gl x 4) := by rw [sumL_c1, zS_z0]; omega
  simp only [c_Cmd, z_Cmd]; omega
theorem ct_Cmd_cz (x : V) : ct_Cmd x ≤ 4 * z_Cmd x := by
  have h0 : sumL c1 (gl x 3) ≤ 1 * zS z0 (gl x 3) := by rw [sumL_c1, zS_z0]; omega
  have h1 : sumL c1 (gl x 4) ≤ 1 * zS z0 (gl x 4) := by rw [sumL_c1, zS_z0]; omega
  simp only [ct_Cmd, z_Cmd]; omega
def W_Reply (x : V) : Prop := I64 (gi x 0) ∧ I64 (gi x 1)
def z_Reply (x : V) : Nat := 0
def c_Reply (x : V) : Nat := 1 + 1
def ct_Reply (x : V) : Nat := 0
def M_Reply (x : V) (k : Int) : Prop := gi x 0 = k ∧ gi x 1 = k + 1
def cnv_Reply (x : V) : V := V.agg [(V.int .i64 (gi x 0)), (V.int .i64 (gi x 1))]
theorem cnv_Reply_W (x : V) (h : W_Reply x) : W_Reply (cnv_Reply x) := ⟨h.1, h.2⟩
theorem cnv_Reply_z (x : V) : z_Reply (cnv_Reply x) = z_Reply x := rfl
theorem cnv_Reply_c (x : V) : c_Reply (cnv_Reply x) = c_Reply x := rfl
theorem cnv_Reply_ct (x : V) : ct_Reply (cnv_Reply x) = ct_Reply x := rfl
theorem c_Reply_cz (x : V) : c_Reply x ≤ 2 * (1 + z_Reply x) := by
  simp only [c_Reply, z_Reply]; omega
theorem ct_Reply_cz (x : V) : ct_Reply x ≤ 2 * z_Reply x := by
  simp only [ct_Reply, z_Reply]; omega
theorem laws_szTimerS_ok (a : List V) (left : Int) (ha : LW W_Timer a) (h0 : 0 ≤ left) (h1 : left ≤ 1048576) : ∃ r, laws_szTimerS a left = r ∧ (r < 0 ∨ (0 ≤ r ∧ r ≤ 1048576 ∧ r + ((zS z_Timer a : Nat) : Int) = left)) := by
  have hl := ha.1
  unfold laws_szTimerS
  rw [wr64' (by omega) (by omega)]
  by_cases h : left - ((a.length : Nat) : Int) < 0
  · exact ⟨-1, by simp [h], .inl (by omega)⟩
  · exact ⟨left - ((a.length : Nat) : Int), by simp [h], .inr ⟨by omega, by omega, by first | (rw [zS_z0]; omega) | (rw [show zS z_Timer a = zS z0 a from rfl, zS_z0]; omega)⟩⟩
theorem laws_szWheel_ok (x : V) (left : Int) (hx : W_Wheel x) (h0 : 0 ≤ left) (h1 : left ≤ 1048576) : ∃ r, laws_szWheel x left = r ∧ (r < 0 ∨ (0 ≤ r ∧ r ≤ 1048576 ∧ r + ((z_Wheel x : Nat) : Int) = left)) := by
  unfold laws_szWheel
  obtain ⟨r0, e0, q0⟩ := laws_szTimerS_ok (gl x 1) left hx.2 h0 h1
  simp only [e0, Option.bind_some]
  rcases q0 with q0 | ⟨a0, b0, s0⟩
  · exact ⟨-1, by simp only [show decide (r0 < 0) = true from by simp; omega, cond_true], .inl (by omega)⟩
  simp only [show decide (r0 < 0) = false from by simp; omega, cond_false]
  exact ⟨r0, rfl, .inr ⟨a0, b0, by simp only [z_Wheel]; omega⟩⟩
theorem laws_szDuty_ok (x : V) (left : Int) (hx : W_Duty x) (h0 : 0 ≤ left) (h1 : left ≤ 1048576) : ∃ r, laws_szDuty x left = r ∧ (r < 0 ∨ (0 ≤ r ∧ r ≤ 1048576 ∧ r + ((z_Duty x : Nat) : Int) = left)) := by
  unfold laws_szDuty
  obtain ⟨r0, e0, q0⟩ := laws_szWheel_ok (V.agg [(V.int .i64 (gi x 1)), (V.inl t_laws_Timer (gl x 2))]) left ⟨hx.2.1, hx.2.2⟩ h0 h1
  simp only [e0, Option.bind_some]
  rcases q0 with q0 | ⟨a0, b0, s0⟩
  · exact ⟨-1, by simp only [show decide (r0 < 0) = true from by simp; omega, cond_true], .inl (by omega)⟩
  simp only [show decide (r0 < 0) = false from by simp; omega, cond_false]
  have s0 : r0 + ((z_Wheel (V.agg [(V.int .i64 (gi x 1)), (V.inl t_laws_Timer (gl x 2))]) : Nat) : Int) = left := s0
  simp only [z_Wheel, gl_c0, gl_cs] at s0
  exact ⟨r0, rfl, .inr ⟨a0, b0, by simp only [z_Duty]; omega⟩⟩
theorem laws_toTimer_ok (x : V) (hx : W_Timer x) (hz : z_Timer x ≤ 1048576) : laws_toTimer x = cnv_Timer x := by
  unfold laws_toTimer
  rfl
theorem laws_toTimerS_ok (a : List V) (ha : LW W_Timer a) (hz : zS z_Timer a ≤ 1048576) : laws_toTimerS a = some (a.map cnv_Timer) := by
  have hl := ha.1
  have hn : a.length ≤ 1048576 := by simp only [zS] at hz; omega
  unfold laws_toTimerS
  rw [fuel_eq, show (((a.length : Nat) : Int)).toNat = a.length from by omega, roomy_of (n := a.length) (by omega) hl]
  simp only [Int.natCast_nonneg, decide_true, Bool.and_self, cond_true]
  have hz' : ∀ i, i < a.length → z_Timer (rd a i) ≤ 1048576 := fun i hi => by
    have := sum_take_succ z_Timer hi
    have := sumL_take_le z_Timer a (i + 1)
    simp only [zS] at hz; omega
  rw [to_loop (F := fun m r i => laws_toTimerS_l3 m a i r) (f := cnv_Timer) ?_ ?_ (by simp)]
  · rfl
  · intro m i r hi hr
    have hr' : i < r.length := by omega
    have e := laws_toTimer_ok (n_impl_Reply (rd a i)) (ha.rd hi) (hz' i hi)
    simp only [laws_toTimerS_l3, lt_nat hi, idxOk_nat hi, idxOk_nat hr', Int.toNat_natCast, Nat.zero_add, cond_true, e, Option.bind_some, wr_succ hi hl]
    rfl
  · intro m r
    simp only [laws_toTimerS_l3, lt_self, cond_false]
theorem laws_toWheel_ok (x : V) (hx : W_Wheel x) (hz : z_Wheel x ≤ 1048576) : laws_toWheel x = some (cnv_Wheel x) := by
  simp only [z_Wheel] at hz
  unfold laws_toWheel
  rw [laws_toTimerS_ok (gl x 1) hx.2 (by omega)]
  simp only [Option.bind_some]
  rfl
theorem laws_toDuty_ok (x : V) (hx : W_Duty x) (hz : z_Duty x ≤ 1048576) : laws_toDuty x = some (cnv_Duty x) := by
  simp only [z_Duty] at hz
  unfold laws_toDuty
  rw [laws_toWheel_ok (V.agg [(V.int .i64 (gi x 1)), (V.inl t_laws_Timer (gl x 2))]) ⟨hx.2.1, hx.2.2⟩ (by simp only [z_Wheel, gl_c0, gl_cs]; omega)]
  simp only [Option.bind_some]
  rfl
theorem laws_eqTimer_ok (x : V) (hx : W_Timer x) : laws_eqTimer x x = true := by
  unfold laws_eqTimer
  simp only [decide_true, beq_self_eq_true, Bool.not_true, cond_false, cond_true, Option.bind_some]
theorem laws_eqTimerS_ok (a : List V) (ha : LW W_Timer a) : laws_eqTimerS a a = some (true) := by
  have hl := ha.1
  unfold laws_eqTimerS
  simp only [decide_true, Bool.not_true, cond_false]
  rw [fuel_eq]
  rw [skip_loop (F := fun m i => laws_eqTimerS_l4 m a a i) (n := a.length) (out := some (1, false)) ?_ ?_]
  · rfl
  · intro m i hi
    have e := laws_eqTimer_ok (n_impl_Reply (rd a i)) (ha.rd hi)
    simp only [laws_eqTimerS_l4, lt_nat hi, idxOk_nat hi, Int.toNat_natCast, cond_true, e, Option.bind_some, wr_succ hi hl, decide_true, beq_self_eq_true, Bool.not_true, cond_false]
  · intro m
    simp only [laws_eqTimerS_l4, lt_self, cond_false]
theorem laws_eqWheel_ok (x : V) (hx : W_Wheel x) : laws_eqWheel x x = some (true) := by
  unfold laws_eqWheel
  simp only [decide_true, beq_self_eq_true, Bool.not_true, cond_false, cond_true, Option.bind_some, laws_eqTimerS_ok (gl x 1) hx.2]
theorem laws_eqDuty_ok (x : V) (hx : W_Duty x) : laws_eqDuty x x = some (true) := by
  unfold laws_eqDuty
  simp only [decide_true, beq_self_eq_true, Bool.not_true, cond_false, cond_true, Option.bind_some, laws_eqWheel_ok (V.agg [(V.int .i64 (gi x 1)), (V.inl t_impl_Timer (gl x 2))]) ⟨hx.2.1, hx.2.2⟩]
theorem laws_markTimerS_ok (a : List V) (k : Int) (ha : LW W_Timer a) (hk : 0 ≤ k) (hs : k + ((sumL c_Timer a : Nat) : Int) ≤ 9223372036854775807) : ∃ b, laws_markTimerS a k = some (k + ((sumL c_Timer a : Nat) : Int), b) ∧ MS c_Timer M_Timer b k ∧ sumL c_Timer b = sumL c_Timer a := by
  have hl := ha.1
  unfold laws_markTimerS
  rw [fuel_eq]
  obtain ⟨b, e1, e2, e3, e4⟩ := mark_loop (F := fun m k i r => laws_markTimerS_l2 m k i r) (c := c_Timer) (M := M_Timer) (w := W_Timer) (by
    intro x k hx hk hs
    simp only [c_Timer] at hs
    refine ⟨V.agg [V.int .i64 (k), V.int .i64 (k + 1)], ?_, ?_, fun m pre rest hlen => ?_⟩
    · simp only [M_Timer, gl_c0, gl_cs, gi_c0, gi_cs, gb_c0, gb_cs, and_true, true_and]
    · simp only [c_Timer, gl_c0, gl_cs]
    · have hi : pre.length < (pre ++ x :: rest).length := by simp
      simp (disch := omega) only [laws_markTimerS_l2, rlet, lt_mid, idxOk_mid, Int.toNat_natCast, Nat.zero_add, set_mid, rd_mid, gi_c0, gi_cs, gl_c0, gl_cs, gb_c0, gb_cs, cond_true, wr_succ hi hlen, wr64', Option.bind_some]
      congr 1
      simp only [c_Timer]; omega)
    (by intro m k pre; simp only [laws_markTimerS_l2, lt_self, cond_false]) a (a.length + 1) k [] (by omega) (by simpa using hl) ha.2 hk hs
  simp only [List.nil_append, List.length_nil, Int.natCast_zero] at e4
  rw [e4]
  exact ⟨b, rfl, ⟨by omega, e3⟩, e2⟩
theorem laws_markWheel_ok (x : V) (k : Int) (hx : W_Wheel x) (hk : 0 ≤ k) (hs : k + ((ct_Wheel x : Nat) : Int) ≤ 9223372036854775807) : ∃ b0, laws_markWheel x k = some (k + ((ct_Wheel x : Nat) : Int), b0) ∧ MS c_Timer M_Timer b0 (k) ∧ sumL c_Timer b0 = sumL c_Timer (gl x 1) := by
  simp only [ct_Wheel] at hs ⊢
  unfold laws_markWheel
  obtain ⟨b0, f0, g0, s0⟩ := laws_markTimerS_ok (gl x 1) (k) hx.2 (by omega) (by omega)
  simp only [f0, Option.bind_some]
  refine ⟨b0, ?_, ?_, s0⟩
  · first | rfl | (congr 2; omega)
  · first | exact g0 | (refine cast (congrArg _ ?_) g0; omega)
theorem laws_markDuty_ok (x : V) (k : Int) (hx : W_Duty x) (hk : 0 ≤ k) (hs : k + ((ct_Duty x : Nat) : Int) ≤ 9223372036854775807) : ∃ b0, laws_markDuty x k = some (k + ((ct_Duty x : Nat) : Int), b0) ∧ MS c_Timer M_Timer b0 (k) ∧ sumL c_Timer b0 = sumL c_Timer (gl x 2) := by
  simp only [ct_Duty] at hs ⊢
  unfold laws_markDuty
  obtain ⟨b0, f0, g0, s0⟩ := laws_markWheel_ok (V.agg [(V.int .i64 (gi x 1)), (V.inl t_impl_Timer (gl x 2))]) (k) ⟨hx.2.1, hx.2.2⟩ (by omega) (by simp only [ct_Wheel, gl_c0, gl_cs]; omega)
  simp only [ct_Wheel, gl_c0, gl_cs] at f0 g0 s0
  simp only [f0, Option.bind_some]
  refine ⟨b0, ?_, ?_, s0⟩
  · first | rfl | (congr 2; omega)
  · first | exact g0 | (refine cast (congrArg _ ?_) g0; omega)
theorem laws_heldTimerS_ok (a : List V) (k : Int) (hM : MS c_Timer M_Timer a k) (hk : 0 ≤ k) (hs : k + ((sumL c_Timer a : Nat) : Int) ≤ 9223372036854775807) : laws_heldTimerS a k = some (k + ((sumL c_Timer a : Nat) : Int)) := by
  have hl := hM.1
  unfold laws_heldTimerS
  rw [fuel_eq]
  rw [held_loop (F := fun m k i => laws_heldTimerS_l2 m a k i) (c := c_Timer) (M := M_Timer) (l := a) (out := fun k => some (1, k, 0)) ?_ ?_ hk hs hM]
  · rfl
  · intro m k i hi hk hs hM
    simp only [c_Timer] at hs
    simp only [M_Timer] at hM
    obtain ⟨q0, q1⟩ := hM
    simp (disch := omega) only [laws_heldTimerS_l2, lt_nat hi, idxOk_nat hi, Int.toNat_natCast, wr64', q0, q1, decide_true, beq_self_eq_true, Bool.not_true, cond_true, cond_false, Option.bind_some, wr_succ hi hl]
    congr 1
    simp only [c_Timer]; omega
  · intro m k
    simp only [laws_heldTimerS_l2, lt_self, cond_false]
theorem laws_heldWheel_ok (x : V) (k : Int) (h1 : MS c_Timer M_Timer (gl x 1) (k)) (hk : 0 ≤ k) (hs : k + ((ct_Wheel x : Nat) : Int) ≤ 9223372036854775807) : laws_heldWheel x k = some (k + ((ct_Wheel x : Nat) : Int)) := by
  simp only [ct_Wheel] at hs ⊢
  unfold laws_heldWheel
  rw [laws_heldTimerS_ok (gl x 1) (k) h1 (by omega) (by omega)]
  simp only [Option.bind_some, show decide (k + ((sumL c_Timer (gl x 1) : Nat) : Int) < 0) = false from by simp; omega, cond_false]
  try first | rfl | (congr 1; omega)
theorem laws_heldDuty_ok (x : V) (k : Int) (h2 : MS c_Timer M_Timer (gl x 2) (k)) (hk : 0 ≤ k) (hs : k + ((ct_Duty x : Nat) : Int) ≤ 9223372036854775807) : laws_heldDuty x k = some (k + ((ct_Duty x : Nat) : Int)) := by
  simp only [ct_Duty] at hs ⊢
  unfold laws_heldDuty
  rw [laws_heldWheel_ok (V.agg [(V.int .i64 (gi x 1)), (V.inl t_impl_Timer (gl x 2))]) (k) (by first | exact h2 | (refine cast (congrArg _ ?_) h2; simp only [gl_c0, gl_cs]; omega)) (by omega) (by simp only [ct_Wheel, gl_c0, gl_cs]; omega)]
  simp only [ct_Wheel, gl_c0, gl_cs]
  simp only [Option.bind_some, show decide (k + ((sumL c_Timer (gl x 2) : Nat) : Int) < 0) = false from by simp; omega, cond_false]
  try first | rfl | (congr 1; omega)
end Go.Eng.R
open Go Go.Eng
namespace Go.Eng.R
theorem within_eq (n lo hi : Int) : impl_within n lo hi = decide (lo ≤ n ∧ n ≤ hi) := by
  unfold impl_within
  by_cases h : lo ≤ n <;> simp [h]
theorem within_nt (n lo hi : Int) : impl_within n lo hi = (!decide (n < lo) && !decide (hi < n)) := by
  rw [within_eq]
  by_cases h1 : n < lo
  · rw [decide_eq_true h1, decide_eq_false (by omega)]; rfl
  · by_cases h2 : hi < n
    · rw [decide_eq_true h2, decide_eq_false (by omega)]; simp
    · rw [decide_eq_false h1, decide_eq_false h2, decide_eq_true (by omega)]; rfl
theorem le_nt (a b : Int) : decide (a ≤ b) = !decide (b < a) := by
  by_cases h : a ≤ b
  · rw [decide_eq_true h, decide_eq_false (by omega)]; rfl
  · rw [decide_eq_false h, decide_eq_true (by omega)]; rfl
theorem wr_pred' {k n : Nat} (h0 : ¬ k = 0) (h : k ≤ n) (hn : n ≤ 9223372036854775807) : IntKind.i64.wrap ((k : Int) - 1) = ((k - 1 : Nat) : Int) := by rw [wr64' (by omega) (by omega)]; omega
end Go.Eng.R
open Go Go.Eng
namespace Go.Eng.R
def ltT (a b : V) : Bool := decide (gi a 1 < gi b 1 ∨ gi a 1 = gi b 1 ∧ gi a 0 < gi b 0)
theorem ahead_eq (a b : V) : spec_l7ahead a b = ltT a b := by
  unfold spec_l7ahead ltT
  by_cases h1 : gi a 1 < gi b 1 <;> by_cases h2 : gi a 1 = gi b 1 <;> simp [h1, h2]
theorem or_eq (x y : Int) : cmp_Or_int [.int .i64 x, .int .i64 y] = some (bif decide (x = 0) then y else x) := by
  have e : cmp_Or_int [.int .i64 x, .int .i64 y] = Option.bind (cmp_Or_int_l3 3 0 [.int .i64 x, .int .i64 y] 2 0) fun r22 => bif (Nat.beq r22.1 0) then some r22.2.1 else some r22.2.2 := rfl
  rw [e]
  have g0 : gi (rd [V.int .i64 x, V.int .i64 y] 0) 0 = x := rfl
  have g1 : gi (rd [V.int .i64 x, V.int .i64 y] 1) 0 = y := rfl
  have w0 : IntKind.i64.wrap (0 + 1) = 1 := by decide
  have w1 : IntKind.i64.wrap (1 + 1) = 2 := by decide
  have i0 : idxOk 0 [V.int .i64 x, V.int .i64 y].length = true := rfl
  have i1 : idxOk 1 [V.int .i64 x, V.int .i64 y].length = true := rfl
  have d0 : decide ((0 : Int) < 2) = true := rfl
  have d1 : decide ((1 : Int) < 2) = true := rfl
  have d2 : decide ((2 : Int) < 2) = false := rfl
  have t0 : (0 : Int).toNat = 0 := rfl
  have t1 : (1 : Int).toNat = 1 := rfl
  simp only [cmp_Or_int_l3, d0, d1, d2, i0, i1, t0, t1, g0, g1, w0, w1, cond_true, cond_false]
  by_cases hx : x = 0
  · subst hx
    by_cases hy : y = 0
    · subst hy; rfl
    · simp [hy]
  · simp [hx]
theorem cmp_eq (a b : V) : impl_compareTimers a b = some (cfT a b) := by
  have c : ∀ x y : Int, cmp_Compare_int x y = bif decide (x < y) then -1 else bif decide (y < x) then 1 else 0 := fun x y => by
    unfold cmp_Compare_int cmp_isNaN_int
    simp
  unfold impl_compareTimers cfT
  rw [or_eq, c, c]
  simp only [Option.bind_some]
  by_cases h1 : gi a 1 < gi b 1 <;> by_cases h2 : gi b 1 < gi a 1 <;> simp [h1, h2]
theorem cfT_neg (a b : V) : decide ((0 : Int) ≤ cfT a b) = !ltT a b := by
  have := cfT_lt a b
  unfold Go.Proofs.ltOf at this
  have e : ltT a b = decide (cfT a b < 0) := this.symm
  rw [e]
  by_cases h : cfT a b < 0
  · rw [decide_eq_true h, decide_eq_false (by omega)]; rfl
  · rw [decide_eq_false h, decide_eq_true (by omega)]; rfl
def fT (l : List V) (id : Int) : Int := match firstI (fun i => decide (gi (rd l i) 0 = id)) 0 l.length with | some j => (j : Int) | none => -1
theorem fT_cases (l : List V) (id : Int) : (fT l id = -1 ∧ ∀ j, j < l.length → gi (rd l j) 0 ≠ id) ∨ ∃ k : Nat, fT l id = (k : Int) ∧ k < l.length ∧ gi (rd l k) 0 = id ∧ ∀ j : Nat, j < k → gi (rd l j) 0 ≠ id := by
  unfold fT
  cases hf : firstI (fun i => decide (gi (rd l i) 0 = id)) 0 l.length with
  | none =>
    rw [firstI_none] at hf
    exact .inl ⟨rfl, fun j hj => by have := hf j (by omega) (by omega); simpa using this⟩
  | some k =>
    obtain ⟨-, h1, h2, h3⟩ := firstI_some hf
    exact .inr ⟨k, rfl, by omega, by simpa using h2, fun j hj => by have := h3 j (by omega) hj; simpa using this⟩
theorem l7find_eq {l : List V} (hl : l.length ≤ 9223372036854775807) (id : Int) : spec_l7find l id = some (fT l id) := by
  unfold spec_l7find fT
  rw [fuel_eq, show (0 : Int) = ((0 : Nat) : Int) from rfl, find_loop (F := fun m i => spec_l7find_l2 m l id i) (n := l.length) (q := fun i => decide (gi (rd l i) 0 = id)) (out := fun j => some (0, j)) (no := some (1, 0)) ?_ ?_ (l.length + 1) 0 (by omega) (by omega)]
  · rw [Nat.sub_zero]
    cases firstI (fun i => decide (gi (rd l i) 0 = id)) 0 l.length <;> rfl
  · intro m i hi
    simp only [spec_l7find_l2, lt_nat hi, idxOk_nat hi, Int.toNat_natCast, cond_true, wr_succ hi hl]
  · intro m; simp only [spec_l7find_l2, lt_self, cond_false]
theorem timer_eq {w : V} (hl : (gl w 1).length ≤ 9223372036854775807) (id : Int) : impl_Wheel_timer (n_impl_Wheel w) id = some (fT (gl w 1) id) := by
  unfold impl_Wheel_timer slices_IndexFunc_Timer fT
  rw [show gl (n_impl_Wheel w) 1 = gl w 1 from rfl, fuel_eq, show (0 : Int) = ((0 : Nat) : Int) from rfl, find_loop (F := fun m i => slices_IndexFunc_Timer_l2 m (gl w 1) (V.agg [(V.int .i64 (gi (V.agg [(V.int .i64 id)]) 0))]) (((gl w 1).length : Nat) : Int) i) (n := (gl w 1).length) (q := fun i => decide (gi (rd (gl w 1) i) 0 = id)) (out := fun j => some (0, j)) (no := some (1, 0)) ?_ ?_ ((gl w 1).length + 1) 0 (by omega) (by omega)]
  · rw [Nat.sub_zero]
    cases firstI (fun i => decide (gi (rd (gl w 1) i) 0 = id)) 0 (gl w 1).length <;> rfl
  · intro m i hi
    simp only [slices_IndexFunc_Timer_l2, lt_nat hi, idxOk_nat hi, Int.toNat_natCast, cond_true, wr_succ hi hl]
    rfl
  · intro m; simp only [slices_IndexFunc_Timer_l2, lt_self, cond_false]
theorem rd_take {l : List V} {i j : Nat} (h : j < i) : rd (l.take i) j = rd l j := by simp [rd, List.getD, h]
theorem fT_self {l : List V} {i : Nat} (hi : i < l.length) : decide (fT l (gi (rd l i) 0) = (i : Int)) = decide (fT (l.take i) (gi (rd l i) 0) < 0) := by
  have hlen : (l.take i).length = i := by simp; omega
  rcases fT_cases (l.take i) (gi (rd l i) 0) with ⟨e, h⟩ | ⟨k, e, h1, h2, h3⟩
  · rw [e, decide_eq_true (p := (-1 : Int) < 0) (by decide)]
    rcases fT_cases l (gi (rd l i) 0) with ⟨e', h'⟩ | ⟨k', e', k1, k2, k3⟩
    · exact absurd rfl (h' i hi)
    · rw [e', decide_eq_true_eq]
      rcases Nat.lt_trichotomy k' i with c | c | c
      · exact absurd (by rw [rd_take c]; exact k2) (h k' (by omega))
      · omega
      · exact absurd rfl (k3 i c)
  · rw [hlen] at h1
    rw [rd_take h1] at h2
    rw [e, decide_eq_false (p := ((k : Nat) : Int) < 0) (by omega), decide_eq_false_iff_not]
    rcases fT_cases l (gi (rd l i) 0) with ⟨e', h'⟩ | ⟨k', e', k1, k2, k3⟩
    · exact absurd rfl (h' i hi)
    · rw [e']
      intro c
      have c : k' = i := by omega
      exact k3 k (by omega) h2
def okT (w : V) (i : Nat) : Bool := decide (0 ≤ gi (rd (gl w 1) i) 0 ∧ gi (rd (gl w 1) i) 0 ≤ 2147483647 ∧ gi w 0 < gi (rd (gl w 1) i) 1 ∧ gi (rd (gl w 1) i) 1 ≤ 2000000) && ((decide (i = 0) || ltT (rd (gl w 1) (i - 1)) (rd (gl w 1) i)) && decide (fT ((gl w 1).take i) (gi (rd (gl w 1) i) 0) < 0))
def okW (w : V) : Bool := decide (0 ≤ gi w 0 ∧ gi w 0 ≤ 1000000 ∧ (gl w 1).length ≤ 40) && (List.range (gl w 1).length).all (okT w)
theorem wrp {k n : Nat} (h0 : 0 < k) (h : k ≤ n) (hn : n ≤ 9223372036854775807) : IntKind.i64.wrap ((k : Int) - 1) = ((k - 1 : Nat) : Int) := by rw [wr64' (by omega) (by omega)]; omega
theorem spec_WheelOk_eq {w : V} (hw : W_Wheel w) : spec_WheelOk (n_impl_Wheel w) = some (okW w) := by
  have hl := hw.2.1
  unfold spec_WheelOk okW
  simp only [show gl (n_impl_Wheel w) 1 = gl w 1 from rfl, show gi (n_impl_Wheel w) 0 = gi w 0 from rfl, show n_impl_Wheel (n_impl_Wheel w) = n_impl_Wheel w from rfl]
  by_cases h1 : gi w 0 < 0
  · rw [decide_eq_true h1, decide_eq_false (p := 0 ≤ gi w 0 ∧ gi w 0 ≤ 1000000 ∧ (gl w 1).length ≤ 40) (by omega)]; rfl
  by_cases h2 : 1000000 < gi w 0
  · rw [decide_eq_false h1, decide_eq_true h2, decide_eq_false (p := 0 ≤ gi w 0 ∧ gi w 0 ≤ 1000000 ∧ (gl w 1).length ≤ 40) (by omega)]; rfl
  by_cases h3 : (40 : Int) < (((gl w 1).length : Nat) : Int)
  · rw [decide_eq_false h1, decide_eq_false h2, decide_eq_true h3, decide_eq_false (p := 0 ≤ gi w 0 ∧ gi w 0 ≤ 1000000 ∧ (gl w 1).length ≤ 40) (by omega)]; rfl
  rw [decide_eq_false h1, decide_eq_false h2, decide_eq_false h3, decide_eq_true (p := 0 ≤ gi w 0 ∧ gi w 0 ≤ 1000000 ∧ (gl w 1).length ≤ 40) (by omega), Bool.true_and]
  simp only [cond_false]
  rw [fuel_eq, all_loopI (F := fun m i => spec_WheelOk_l4 m i (n_impl_Wheel w)) (n := (gl w 1).length) (q := okT w) (yes := some (1, false)) (no := some (0, false)) ?_ ?_]
  · cases (List.range (gl w 1).length).all (okT w) <;> rfl
  · intro m i hi
    have hi' : i ≤ (gl w 1).length := Nat.le_of_lt hi
    simp only [spec_WheelOk_l4, show gl (n_impl_Wheel w) 1 = gl w 1 from rfl, show gi (n_impl_Wheel w) 0 = gi w 0 from rfl, show n_impl_Wheel (n_impl_Wheel w) = n_impl_Wheel w from rfl, lt_nat hi, idxOk_nat hi, Int.toNat_natCast, cond_true, wr_succ hi hl]
    by_cases g1 : gi (rd (gl w 1) i) 0 < 0
    · rw [decide_eq_true g1, show okT w i = false from by unfold okT; rw [decide_eq_false (by omega)]; rfl]; rfl
    by_cases g2 : 2147483647 < gi (rd (gl w 1) i) 0
    · rw [decide_eq_false g1, decide_eq_true g2, show okT w i = false from by unfold okT; rw [decide_eq_false (by omega)]; rfl]; rfl
    by_cases g3 : gi (rd (gl w 1) i) 1 ≤ gi w 0
    · rw [decide_eq_false g1, decide_eq_false g2, decide_eq_true g3, show okT w i = false from by unfold okT; rw [decide_eq_false (by omega)]; rfl]; rfl
    by_cases g4 : 2000000 < gi (rd (gl w 1) i) 1
    · rw [decide_eq_false g1, decide_eq_false g2, decide_eq_false g3, decide_eq_true g4, show okT w i = false from by unfold okT; rw [decide_eq_false (by omega)]; rfl]; rfl
    rw [decide_eq_false g1, decide_eq_false g2, decide_eq_false g3, decide_eq_false g4, decide_eq_true (p := (0 : Int) ≤ (i : Int)) (by omega), decide_eq_true (p := (i : Int) ≤ (((gl w 1).length : Nat) : Int)) (by omega)]
    rw [show okT w i = ((decide (i = 0) || ltT (rd (gl w 1) (i - 1)) (rd (gl w 1) i)) && decide (fT ((gl w 1).take i) (gi (rd (gl w 1) i) 0) < 0)) from by unfold okT; rw [decide_eq_true (by omega), Bool.true_and]]
    simp only [cond_false, Bool.and_self, cond_true, l7find_eq (l := (gl w 1).take i) (by simp; omega), Option.bind_some]
    by_cases h0 : i = 0
    · subst h0
      rw [decide_eq_false (p := (0 : Int) < ((0 : Nat) : Int)) (by omega)]
      by_cases hf : fT ((gl w 1).take 0) (gi (rd (gl w 1) 0) 0) < 0
      · rw [decide_eq_true hf, decide_eq_false (p := (0 : Int) ≤ fT ((gl w 1).take 0) (gi (rd (gl w 1) 0) 0)) (by omega)]; rfl
      · rw [decide_eq_false hf, decide_eq_true (p := (0 : Int) ≤ fT ((gl w 1).take 0) (gi (rd (gl w 1) 0) 0)) (by omega)]; rfl
    · rw [decide_eq_true (p := (0 : Int) < (i : Int)) (by omega), wrp (by omega) hi' hl, idxOk_nat (show i - 1 < (gl w 1).length by omega), Int.toNat_natCast, decide_eq_false h0, ahead_eq, show ltT (n_impl_Reply (rd (gl w 1) (i - 1))) (n_impl_Reply (rd (gl w 1) i)) = ltT (rd (gl w 1) (i - 1)) (rd (gl w 1) i) from rfl]
      cases ltT (rd (gl w 1) (i - 1)) (rd (gl w 1) i) with
      | false => rfl
      | true =>
        by_cases hf : fT ((gl w 1).take i) (gi (rd (gl w 1) i) 0) < 0
        · rw [decide_eq_true hf, decide_eq_false (p := (0 : Int) ≤ fT ((gl w 1).take i) (gi (rd (gl w 1) i) 0)) (by omega)]; rfl
        · rw [decide_eq_false hf, decide_eq_true (p := (0 : Int) ≤ fT ((gl w 1).take i) (gi (rd (gl w 1) i) 0)) (by omega)]; rfl
  · intro m; simp only [spec_WheelOk_l4, show gl (n_impl_Wheel w) 1 = gl w 1 from rfl, lt_self, cond_false]
theorem impl_WheelOk_eq {w : V} (hw : W_Wheel w) : impl_WheelOk (n_impl_Wheel w) = some (okW w) := by
  have hl := hw.2.1
  unfold impl_WheelOk okW
  simp only [show gl (n_impl_Wheel w) 1 = gl w 1 from rfl, show gi (n_impl_Wheel w) 0 = gi w 0 from rfl, show n_impl_Wheel (n_impl_Wheel w) = n_impl_Wheel w from rfl, within_eq]
  by_cases h1 : 0 ≤ gi w 0 ∧ gi w 0 ≤ 1000000
  case neg => rw [decide_eq_false h1, decide_eq_false (p := 0 ≤ gi w 0 ∧ gi w 0 ≤ 1000000 ∧ (gl w 1).length ≤ 40) (by omega)]; rfl
  by_cases h3 : (40 : Int) < (((gl w 1).length : Nat) : Int)
  · rw [decide_eq_true h1, decide_eq_true h3, decide_eq_false (p := 0 ≤ gi w 0 ∧ gi w 0 ≤ 1000000 ∧ (gl w 1).length ≤ 40) (by omega)]; rfl
  rw [decide_eq_true h1, decide_eq_false h3, decide_eq_true (p := 0 ≤ gi w 0 ∧ gi w 0 ≤ 1000000 ∧ (gl w 1).length ≤ 40) (by omega), Bool.true_and]
  simp only [cond_false, Bool.not_true]
  rw [fuel_eq, all_loopI (F := fun m i => impl_WheelOk_l4 m (gl w 1) (((gl w 1).length : Nat) : Int) i (n_impl_Wheel w)) (n := (gl w 1).length) (q := okT w) (yes := some (1, false)) (no := some (0, false)) ?_ ?_]
  · cases (List.range (gl w 1).length).all (okT w) <;> rfl
  · intro m i hi
    have hi' : i ≤ (gl w 1).length := Nat.le_of_lt hi
    have hwr : IntKind.i64.wrap (gi w 0 + 1) = gi w 0 + 1 := wr64' (by omega) (by omega)
    simp only [impl_WheelOk_l4, impl_isId, within_eq, show gl (n_impl_Wheel w) 1 = gl w 1 from rfl, show gi (n_impl_Wheel w) 0 = gi w 0 from rfl, show n_impl_Wheel (n_impl_Wheel w) = n_impl_Wheel w from rfl, lt_nat hi, idxOk_nat hi, Int.toNat_natCast, cond_true, wr_succ hi hl, timer_eq hl, Option.bind_some, fT_self hi, hwr]
    by_cases g1 : 0 ≤ gi (rd (gl w 1) i) 0 ∧ gi (rd (gl w 1) i) 0 ≤ 2147483647
    case neg => rw [decide_eq_false g1, show okT w i = false from by unfold okT; rw [decide_eq_false (by omega)]; rfl]; rfl
    by_cases hf : fT ((gl w 1).take i) (gi (rd (gl w 1) i) 0) < 0
    case neg => rw [decide_eq_true g1, decide_eq_false hf, show okT w i = false from by unfold okT; rw [decide_eq_false hf]; simp]; rfl
    by_cases g3 : gi w 0 + 1 ≤ gi (rd (gl w 1) i) 1 ∧ gi (rd (gl w 1) i) 1 ≤ 2000000
    case neg => rw [decide_eq_true g1, decide_eq_true hf, decide_eq_false g3, show okT w i = false from by unfold okT; rw [decide_eq_false (by omega)]; rfl]; rfl
    rw [decide_eq_true g1, decide_eq_true hf, decide_eq_true g3]
    rw [show okT w i = (decide (i = 0) || ltT (rd (gl w 1) (i - 1)) (rd (gl w 1) i)) from by unfold okT; rw [decide_eq_true (by omega), decide_eq_true hf, Bool.true_and, Bool.and_true]]
    simp only [cond_false, Bool.not_true]
    by_cases h0 : i = 0
    · subst h0
      rw [decide_eq_false (p := (0 : Int) < ((0 : Nat) : Int)) (by omega)]
      rfl
    · rw [decide_eq_true (p := (0 : Int) < (i : Int)) (by omega), wrp (by omega) hi' hl, idxOk_nat (show i - 1 < (gl w 1).length by omega), Int.toNat_natCast, decide_eq_false h0, cmp_eq]
      simp only [Option.bind_some, cond_true, cfT_neg, show ltT (n_impl_Reply (rd (gl w 1) (i - 1))) (n_impl_Reply (rd (gl w 1) i)) = ltT (rd (gl w 1) (i - 1)) (rd (gl w 1) i) from rfl]
      cases ltT (rd (gl w 1) (i - 1)) (rd (gl w 1) i) <;> rfl
  · intro m; simp only [impl_WheelOk_l4, lt_self, cond_false]
end Go.Eng.R
open Go Go.Eng
namespace Go.Eng.R
theorem ltT_iff (a b : V) : ltT a b = true ↔ (gi a 1 < gi b 1 ∨ gi a 1 = gi b 1 ∧ gi a 0 < gi b 0) := by unfold ltT; rw [decide_eq_true_eq]
theorem ltT_trans {a b c : V} (h1 : ltT a b = true) (h2 : ltT b c = true) : ltT a c = true := by rw [ltT_iff] at *; omega
theorem ltT_asymm {a b : V} (h1 : ltT a b = true) : ltT b a = false := by
  rw [ltT_iff] at h1
  cases h : ltT b a with
  | false => rfl
  | true => rw [ltT_iff] at h; omega
theorem ltT_tri {a b : V} (h1 : ltT a b = false) (h2 : gi a 0 ≠ gi b 0) : ltT b a = true := by
  rw [ltT_iff]
  have : ¬ (gi a 1 < gi b 1 ∨ gi a 1 = gi b 1 ∧ gi a 0 < gi b 0) := by rw [← ltT_iff, h1]; simp
  omega
structure Good (l : List V) : Prop where
  asc : l.Pairwise fun a b => ltT a b = true
  ids : l.Pairwise fun a b => gi a 0 ≠ gi b 0
theorem okW_spec {w : V} (h : okW w = true) : 0 ≤ gi w 0 ∧ gi w 0 ≤ 1000000 ∧ (gl w 1).length ≤ 40 ∧ Good (gl w 1) := by
  unfold okW at h
  simp only [Bool.and_eq_true, decide_eq_true_eq, List.all_eq_true, List.mem_range] at h
  obtain ⟨⟨h1, h2, h3⟩, h4⟩ := h
  have hq : ∀ i, i < (gl w 1).length → (i = 0 ∨ ltT (rd (gl w 1) (i - 1)) (rd (gl w 1) i) = true) ∧ fT ((gl w 1).take i) (gi (rd (gl w 1) i) 0) < 0 := fun i hi => by
    have := h4 i hi
    unfold okT at this
    simp only [Bool.and_eq_true, Bool.or_eq_true, decide_eq_true_eq] at this
    exact this.2
  have hasc : ∀ j i, i < j → j < (gl w 1).length → ltT (rd (gl w 1) i) (rd (gl w 1) j) = true := by
    intro j
    induction j with
    | zero => intro i hi; omega
    | succ j ih =>
      intro i hi hj
      have hs := (hq (j + 1) hj).1
      rcases hs with hs | hs
      · omega
      rcases Nat.eq_or_lt_of_le (Nat.le_of_lt_succ hi) with e | e
      · subst e; exact hs
      · exact ltT_trans (ih i e (by omega)) hs
  refine ⟨h1, h2, h3, ⟨?_, ?_⟩⟩
  · rw [List.pairwise_iff_getElem]
    intro i j hi hj hij
    have := hasc j i hij hj
    rw [rd_eq hi, rd_eq hj] at this
    exact this
  · rw [List.pairwise_iff_getElem]
    intro i j hi hj hij
    have h5 := (hq j hj).2
    have hlen : ((gl w 1).take j).length = j := by simp; omega
    rcases fT_cases ((gl w 1).take j) (gi (rd (gl w 1) j) 0) with ⟨e, h⟩ | ⟨k, e, h1, h2, h3⟩
    · have := h i (by omega)
      rw [rd_take hij, rd_eq hi, rd_eq hj] at this
      exact this
    · omega
theorem Good.sub {l l' : List V} (h : Good l) (hs : l'.Sublist l) : Good l' := ⟨h.asc.sublist hs, h.ids.sublist hs⟩
theorem sort_eq {l s : List V} (hs : s.Pairwise fun a b => ltT a b = true) (hp : l.Perm s) : srtV cfT l = s := by
  have hsp := srtV_perm cfT cfT_swo l
  refine List.Perm.eq_of_pairwise (le := fun a b => ltT b a = false) ?_ ?_ ?_ (hsp.trans hp)
  · intro a b ha hb h1 h2
    have ha : a ∈ s := (hsp.trans hp).mem_iff.1 ha
    obtain ⟨i, hi, rfl⟩ := List.getElem_of_mem ha
    obtain ⟨j, hj, rfl⟩ := List.getElem_of_mem hb
    rw [List.pairwise_iff_getElem] at hs
    rcases Nat.lt_trichotomy i j with c | c | c
    · have := hs i j hi hj c; rw [this] at h2; cases h2
    · subst c; rfl
    · have := hs j i hj hi c; rw [this] at h1; cases h1
  · rw [List.pairwise_iff_getElem]
    intro i j hi hj hij
    have hl : (srtV cfT l).length = l.length := srtV_length cfT cfT_swo l
    have := srtV_sorted cfT cfT_swo l i j hij (by omega)
    rw [show (srtV cfT l).getD j default = (srtV cfT l)[j] from by simp [List.getD, hj], show (srtV cfT l).getD i default = (srtV cfT l)[i] from by simp [List.getD, hi]] at this
    have h2 := cfT_lt (srtV cfT l)[j] (srtV cfT l)[i]
    unfold Go.Proofs.ltOf at h2
    rw [h2] at this
    exact this
  · exact hs.imp fun h => ltT_asymm h
def stopL (l : List V) (id : Int) : List V := match firstI (fun i => decide (gi (rd l i) 0 = id)) 0 l.length with | some k => l.take k ++ l.drop (k + 1) | none => l
theorem stopL_cases (l : List V) (id : Int) : (fT l id = -1 ∧ stopL l id = l ∧ ∀ j, j < l.length → gi (rd l j) 0 ≠ id) ∨ ∃ k : Nat, fT l id = (k : Int) ∧ k < l.length ∧ gi (rd l k) 0 = id ∧ stopL l id = l.take k ++ l.drop (k + 1) := by
  unfold fT stopL
  cases hf : firstI (fun i => decide (gi (rd l i) 0 = id)) 0 l.length with
  | none =>
    rw [firstI_none] at hf
    exact .inl ⟨rfl, rfl, fun j hj => by have := hf j (by omega) (by omega); simpa using this⟩
  | some k =>
    obtain ⟨-, h1, h2, h3⟩ := firstI_some hf
    exact .inr ⟨k, rfl, by omega, by simpa using h2, rfl⟩
theorem stopL_sub (l : List V) (id : Int) : (stopL l id).Sublist l := by
  rcases stopL_cases l id with ⟨_, e, _⟩ | ⟨k, _, _, _, e⟩
  · rw [e]; exact List.Sublist.refl _
  · rw [e]
    have h1 : (l.take k ++ l.drop (k + 1)).Sublist (l.take k ++ l.drop k) := (List.Sublist.refl _).append (by rw [← List.drop_drop]; exact List.drop_sublist _ _)
    rwa [List.take_append_drop] at h1
theorem stopL_no {l : List V} {id : Int} (h : Good l) : ∀ x ∈ stopL l id, gi x 0 ≠ id := by
  rcases stopL_cases l id with ⟨_, e, h2⟩ | ⟨k, _, hk, h2, e⟩
  · rw [e]
    intro x hx
    obtain ⟨j, hj, rfl⟩ := List.getElem_of_mem hx
    have := h2 j hj
    rwa [rd_eq hj] at this
  · rw [e]
    intro x hx hxi
    rw [rd_eq hk] at h2
    have hp := h.ids
    rw [List.pairwise_iff_getElem] at hp
    rcases List.mem_append.1 hx with hx | hx
    · obtain ⟨j, hj, rfl⟩ := List.getElem_of_mem hx
      simp only [List.length_take] at hj
      rw [List.getElem_take] at hxi
      exact hp j k (by omega) hk (by omega) (hxi.trans h2.symm)
    · obtain ⟨j, hj, rfl⟩ := List.getElem_of_mem hx
      simp only [List.length_drop] at hj
      rw [List.getElem_drop] at hxi
      exact hp k (k + 1 + j) hk (by omega) (by omega) (h2.trans hxi.symm)
theorem stopL_len (l : List V) (id : Int) : (stopL l id).length ≤ l.length := (stopL_sub l id).length_le
theorem spec_stop_eq {w : V} (hl : (gl w 2).length ≤ 4194304) (id : Int) : ∃ b, spec_l7stop (n_impl_Duty w) id = some (b, V.agg [V.int .i64 (gi w 0), V.int .i64 (gi w 1), V.inl t_impl_Timer (stopL (gl w 2) id)]) := by
  unfold spec_l7stop
  rw [show gl (n_impl_Duty w) 2 = gl w 2 from rfl, show gi (n_impl_Duty w) 0 = gi w 0 from rfl, show gi (n_impl_Duty w) 1 = gi w 1 from rfl, l7find_eq (by omega)]
  simp only [Option.bind_some]
  rcases stopL_cases (gl w 2) id with ⟨e, e2, _⟩ | ⟨k, e, hk, _, e2⟩
  · rw [e, e2]; exact ⟨false, rfl⟩
  · rw [e, e2, decide_eq_false (p := (k : Int) < 0) (by omega), decide_eq_true (p := (0 : Int) ≤ (k : Int)) (by omega), decide_eq_true (p := (k : Int) ≤ (((gl w 2).length : Nat) : Int)) (by omega), wr_succ hk (by omega), decide_eq_true (p := (0 : Int) ≤ ((k + 1 : Nat) : Int)) (by omega), decide_eq_true (p := ((k + 1 : Nat) : Int) ≤ (((gl w 2).length : Nat) : Int)) (by omega)]
    simp only [cond_false, Bool.and_self, cond_true, Int.toNat_natCast, Nat.zero_add, Bool.and_true]
    rw [roomy_of (n := ((gl w 2).take k).length) (by simp; omega) (by simp; omega), roomy_of (n := ((gl w 2).take k).length + ((gl w 2).drop (k + 1)).length) (by simp; omega) (by simp; omega)]
    exact ⟨true, rfl⟩
theorem impl_stop_eq {w : V} (hl : (gl w 2).length ≤ 4194304) (id : Int) : ∃ b, impl_Wheel_stop (n_impl_Duty w) id = some (b, V.agg [V.int .i64 (gi w 0), V.int .i64 (gi w 1), V.inl t_impl_Timer (stopL (gl w 2) id)]) := by
  have ht : impl_Wheel_timer (V.agg [V.int .i64 (gi w 1), V.inl t_impl_Timer (gl w 2)]) id = some (fT (gl w 2) id) := timer_eq (w := V.agg [V.int .i64 (gi w 1), V.inl t_impl_Timer (gl w 2)]) (by show (gl w 2).length ≤ _; omega) id
  unfold impl_Wheel_stop
  rw [show n_impl_Duty (n_impl_Duty w) = n_impl_Duty w from rfl, show gl (n_impl_Duty w) 2 = gl w 2 from rfl, show gi (n_impl_Duty w) 0 = gi w 0 from rfl, show gi (n_impl_Duty w) 1 = gi w 1 from rfl, ht]
  simp only [Option.bind_some]
  rcases stopL_cases (gl w 2) id with ⟨e, e2, _⟩ | ⟨k, e, hk, _, e2⟩
  · rw [e, e2]; exact ⟨_, rfl⟩
  · rw [e, e2, decide_eq_true (p := (0 : Int) ≤ (k : Int)) (by omega), wr_succ hk (by omega)]
    unfold delV
    rw [decide_eq_true (p := (0 : Int) ≤ (k : Int)) (by omega), decide_eq_true (p := (k : Int) ≤ ((k + 1 : Nat) : Int)) (by omega), decide_eq_true (p := ((k + 1 : Nat) : Int) ≤ (((gl w 2).length : Nat) : Int)) (by omega), decide_eq_true (p := (gl w 2).length ≤ 9223372036854775807) (by omega)]
    simp only [Bool.and_self, cond_true, Int.toNat_natCast, Option.bind_some]
    exact ⟨true, rfl⟩
def putL (l : List V) (t : V) : List V := (l.takeWhile fun x => ltT x t) ++ [t] ++ (l.dropWhile fun x => ltT x t)
theorem putL_good {l : List V} {t : V} (h : Good l) (hno : ∀ x ∈ l, gi x 0 ≠ gi t 0) : (putL l t).Pairwise fun a b => ltT a b = true := by
  have hall : ∀ x ∈ l.takeWhile (fun x => ltT x t), ltT x t = true := fun x hx => by
    have := List.all_takeWhile (p := fun x => ltT x t) (l := l)
    rw [List.all_eq_true] at this
    exact this x hx
  have happ : l.takeWhile (fun x => ltT x t) ++ l.dropWhile (fun x => ltT x t) = l := List.takeWhile_append_dropWhile
  have hasc := h.asc
  rw [← happ, List.pairwise_append] at hasc
  obtain ⟨p1, p2, p3⟩ := hasc
  have hdrop : ∀ y ∈ l.dropWhile (fun x => ltT x t), ltT t y = true := fun y hy => by
    have hsub : ∀ z ∈ l.dropWhile (fun x => ltT x t), z ∈ l := fun z hz => by rw [← happ]; exact List.mem_append_right _ hz
    cases hd : l.dropWhile (fun x => ltT x t) with
    | nil => rw [hd] at hy; cases hy
    | cons z r =>
      have hz : ltT z t = false := by
        have := List.head_dropWhile_not (p := fun x => ltT x t) (l := l) (by rw [hd]; simp)
        simpa [hd] using this
      have htz : ltT t z = true := ltT_tri hz (hno z (hsub z (by rw [hd]; simp)))
      rw [hd] at hy p2
      rcases List.mem_cons.1 hy with rfl | hy
      · exact htz
      · exact ltT_trans htz ((List.pairwise_cons.1 p2).1 y hy)
  unfold putL
  rw [List.append_assoc, List.pairwise_append]
  refine ⟨p1, ?_, fun a ha b hb => ?_⟩
  · simp only [List.singleton_append, List.pairwise_cons]
    exact ⟨hdrop, p2⟩
  · simp only [List.singleton_append, List.mem_cons] at hb
    rcases hb with rfl | hb
    · exact hall a ha
    · exact p3 a ha b hb
theorem putL_perm (l : List V) (t : V) : (l ++ [t]).Perm (putL l t) := by
  unfold putL
  have happ : l.takeWhile (fun x => ltT x t) ++ l.dropWhile (fun x => ltT x t) = l := List.takeWhile_append_dropWhile
  have h1 : (l ++ [t]).Perm (t :: l) := List.perm_append_comm
  have h2 : (l.takeWhile (fun x => ltT x t) ++ [t] ++ l.dropWhile (fun x => ltT x t)).Perm (t :: (l.takeWhile (fun x => ltT x t) ++ l.dropWhile (fun x => ltT x t))) := by
    rw [List.append_assoc]
    exact List.perm_middle
  rw [happ] at h2
  exact h1.trans h2.symm
end Go.Eng.R
open Go Go.Eng
namespace Go.Eng.R
theorem while_loop2 {ρ : Type} {F : Nat → Int → ρ} {n n0 : Nat} {p : Nat → Bool} {out : Int → ρ} (hp : ∀ i, i < n0 → p i = true) (hp0 : n0 < n → p n0 = false) (hn : n0 ≤ n)
    (h1 : ∀ m (i : Nat), i < n → F (m + 1) (i : Int) = bif p i then F m ((i + 1 : Nat) : Int) else out (i : Int)) (h0 : ∀ m, F (m + 1) (n : Int) = out (n : Int)) :
    ∀ m (i : Nat), i ≤ n0 → n - i < m → F m (i : Int) = out (n0 : Int)
  | 0, i, _, h => by omega
  | m + 1, i, hi, hm => by
    rcases Nat.eq_or_lt_of_le hi with h | h
    · subst h
      rcases Nat.eq_or_lt_of_le hn with h | h
      · subst h; exact h0 m
      · rw [h1 m i h, hp0 h]; rfl
    · rw [h1 m i (by omega), hp i h, cond_true]
      exact while_loop2 hp hp0 hn h1 h0 m (i + 1) (by omega) (by omega)
theorem take_tw (p : V → Bool) (l : List V) : l.take (l.takeWhile p).length = l.takeWhile p := by
  have := List.take_left (l₁ := l.takeWhile p) (l₂ := l.dropWhile p)
  rwa [List.takeWhile_append_dropWhile] at this
theorem drop_tw (p : V → Bool) (l : List V) : l.drop (l.takeWhile p).length = l.dropWhile p := by
  have := List.drop_left (l₁ := l.takeWhile p) (l₂ := l.dropWhile p)
  rwa [List.takeWhile_append_dropWhile] at this
def mkT (w : V) (id after : Int) : V := V.agg [V.int .i64 id, V.int .i64 (IntKind.i64.wrap (gi w 1 + after))]
def setW (w : V) (id after : Int) : V := V.agg [V.int .i64 (gi w 0), V.int .i64 (gi w 1), V.inl t_impl_Timer (putL (stopL (gl w 2) id) (mkT w id after))]
theorem ins_loop {w T : V} {r : List V} (hT : n_impl_Reply T = T) (hl : r.length ≤ 4194304) (ttl now : Int) :
    spec_l7set_l6 (r.length + 1) 0 (V.agg [V.int .i64 ttl, V.int .i64 now, V.sl 2 t_impl_Timer 0 none]) T r = some ((((r.takeWhile fun x => ltT x T).length : Nat) : Int), V.agg [V.int .i64 ttl, V.int .i64 now, V.sl 2 t_impl_Timer 0 none], T, r) := by
  obtain ⟨h1, h2, h3⟩ := takeWhile_spec (l := r) (p := fun x => ltT x T)
  have key := while_loop2 (F := fun m i => spec_l7set_l6 m i (V.agg [V.int .i64 ttl, V.int .i64 now, V.sl 2 t_impl_Timer 0 none]) T r) (n := r.length) (n0 := (r.takeWhile fun x => ltT x T).length) (p := fun i => ltT (rd r i) T) (out := fun i => some (i, V.agg [V.int .i64 ttl, V.int .i64 now, V.sl 2 t_impl_Timer 0 none], T, r)) h1 h2 h3 ?_ ?_ (r.length + 1) 0 (by omega) (by omega)
  · exact key
  · intro m i hi
    simp only [spec_l7set_l6, lt_nat hi, idxOk_nat hi, Int.toNat_natCast, cond_true, wr_succ hi (Nat.le_of_lt (by omega)), Nat.zero_add, ahead_eq, hT]
    rfl
  · intro m
    simp only [spec_l7set_l6, lt_self, cond_false, hT]
    rfl
theorem spec_set_eq {w : V} (hl : (gl w 2).length ≤ 4194303) (id after : Int) :
    spec_l7set (n_impl_Duty w) id after = some (bif decide (0 ≤ id ∧ id ≤ 2147483647 ∧ 1 ≤ after ∧ after ≤ 1000000 ∧ (0 ≤ fT (gl w 2) id ∨ (gl w 2).length < 40)) then (true, setW w id after) else (false, n_impl_Duty w)) := by
  have hbody : (Option.bind (spec_l7stop (n_impl_Duty w) id) fun r14 =>
      Option.bind (spec_l7set_l6 (((((gl r14.2 2).length : Nat) : Int) - 0).toNat + 1) 0 (V.agg [(V.int .i64 (gi r14.2 0)), (V.int .i64 (gi r14.2 1)), (V.sl 2 t_impl_Timer 0 none)]) (V.agg [(V.int .i64 id), (V.int .i64 (IntKind.i64.wrap ((gi r14.2 1) + after)))]) (gl r14.2 2)) fun r15 =>
      bif ((decide ((0 : Int) ≤ r15.1)) && (decide (r15.1 ≤ ((r15.2.2.2.length : Nat) : Int)))) then
        bif ((roomy (0 + ((r15.2.2.2.take r15.1.toNat).length)) 16) && true) then
          bif ((roomy (((r15.2.2.2.take r15.1.toNat).length) + 1) 16) && true) then
            bif ((decide ((0 : Int) ≤ r15.1)) && (decide (r15.1 ≤ ((r15.2.2.2.length : Nat) : Int)))) then
              bif ((roomy ((((r15.2.2.2.take r15.1.toNat) ++ [(n_impl_Reply r15.2.2.1)]).length) + ((r15.2.2.2.drop (0 + r15.1.toNat)).length)) 16) && true) then
                some (true, (V.agg [(V.int .i64 (gi r15.2.1 0)), (V.int .i64 (gi r15.2.1 1)), (V.inl t_impl_Timer (((r15.2.2.2.take r15.1.toNat) ++ [(n_impl_Reply r15.2.2.1)]) ++ (r15.2.2.2.drop (0 + r15.1.toNat))))]))
              else none
            else none
          else none
        else none
      else none) = some (true, setW w id after) := by
    obtain ⟨b, hb⟩ := spec_stop_eq (w := w) (by omega) id
    rw [hb]
    simp only [Option.bind_some]
    have hsl := stopL_len (gl w 2) id
    have e0 : gi (V.agg [V.int .i64 (gi w 0), V.int .i64 (gi w 1), V.inl t_impl_Timer (stopL (gl w 2) id)]) 0 = gi w 0 := rfl
    have e2 : gi (V.agg [V.int .i64 (gi w 0), V.int .i64 (gi w 1), V.inl t_impl_Timer (stopL (gl w 2) id)]) 1 = gi w 1 := rfl
    have e1 : gl (V.agg [V.int .i64 (gi w 0), V.int .i64 (gi w 1), V.inl t_impl_Timer (stopL (gl w 2) id)]) 2 = stopL (gl w 2) id := rfl
    rw [e0, e2, e1, fuel_eq, ins_loop (w := w) rfl (by omega)]
    simp only [Option.bind_some]
    have htw := (takeWhile_spec (l := stopL (gl w 2) id) (p := fun x => ltT x (V.agg [(V.int .i64 id), (V.int .i64 (IntKind.i64.wrap ((gi w 1) + after)))]))).2.2
    rw [decide_eq_true (p := (0 : Int) ≤ (((stopL (gl w 2) id).takeWhile fun x => ltT x (V.agg [(V.int .i64 id), (V.int .i64 (IntKind.i64.wrap ((gi w 1) + after)))])).length : Int)) (by omega),
      decide_eq_true (p := ((((stopL (gl w 2) id).takeWhile fun x => ltT x (V.agg [(V.int .i64 id), (V.int .i64 (IntKind.i64.wrap ((gi w 1) + after)))])).length : Nat) : Int) ≤ (((stopL (gl w 2) id).length : Nat) : Int)) (by omega)]
    simp only [Bool.and_self, cond_true, Int.toNat_natCast, Nat.zero_add, Bool.and_true, take_tw, drop_tw]
    have hdl : ((stopL (gl w 2) id).dropWhile fun x => ltT x (V.agg [(V.int .i64 id), (V.int .i64 (IntKind.i64.wrap ((gi w 1) + after)))])).length ≤ (stopL (gl w 2) id).length := (List.dropWhile_suffix _).sublist.length_le
    rw [roomy_of (by omega) (by omega), roomy_of (by omega) (by omega), roomy_of (by simp; omega) (by simp; omega)]
    rfl
  unfold spec_l7set
  simp only [show n_impl_Duty (n_impl_Duty w) = n_impl_Duty w from rfl]
  by_cases h1 : id < 0
  · rw [decide_eq_true h1, decide_eq_false (p := 0 ≤ id ∧ id ≤ 2147483647 ∧ 1 ≤ after ∧ after ≤ 1000000 ∧ (0 ≤ fT (gl w 2) id ∨ (gl w 2).length < 40)) (by omega)]; rfl
  by_cases h2 : 2147483647 < id
  · rw [decide_eq_false h1, decide_eq_true h2, decide_eq_false (p := 0 ≤ id ∧ id ≤ 2147483647 ∧ 1 ≤ after ∧ after ≤ 1000000 ∧ (0 ≤ fT (gl w 2) id ∨ (gl w 2).length < 40)) (by omega)]; rfl
  by_cases h3 : after < 1
  · rw [decide_eq_false h1, decide_eq_false h2, decide_eq_true h3, decide_eq_false (p := 0 ≤ id ∧ id ≤ 2147483647 ∧ 1 ≤ after ∧ after ≤ 1000000 ∧ (0 ≤ fT (gl w 2) id ∨ (gl w 2).length < 40)) (by omega)]; rfl
  by_cases h4 : 1000000 < after
  · rw [decide_eq_false h1, decide_eq_false h2, decide_eq_false h3, decide_eq_true h4, decide_eq_false (p := 0 ≤ id ∧ id ≤ 2147483647 ∧ 1 ≤ after ∧ after ≤ 1000000 ∧ (0 ≤ fT (gl w 2) id ∨ (gl w 2).length < 40)) (by omega)]; rfl
  rw [decide_eq_false h1, decide_eq_false h2, decide_eq_false h3, decide_eq_false h4, show gl (n_impl_Duty w) 2 = gl w 2 from rfl, l7find_eq (by omega)]
  simp only [cond_false, Option.bind_some]
  by_cases h5 : fT (gl w 2) id < 0
  · rw [decide_eq_true h5]
    by_cases h6 : (40 : Int) ≤ (((gl w 2).length : Nat) : Int)
    · rw [decide_eq_true h6, decide_eq_false (p := 0 ≤ id ∧ id ≤ 2147483647 ∧ 1 ≤ after ∧ after ≤ 1000000 ∧ (0 ≤ fT (gl w 2) id ∨ (gl w 2).length < 40)) (by omega)]; rfl
    · rw [decide_eq_false h6, decide_eq_true (p := 0 ≤ id ∧ id ≤ 2147483647 ∧ 1 ≤ after ∧ after ≤ 1000000 ∧ (0 ≤ fT (gl w 2) id ∨ (gl w 2).length < 40)) (by omega)]
      simp only [cond_true, cond_false]
      exact hbody
  · rw [decide_eq_false h5, decide_eq_true (p := 0 ≤ id ∧ id ≤ 2147483647 ∧ 1 ≤ after ∧ after ≤ 1000000 ∧ (0 ≤ fT (gl w 2) id ∨ (gl w 2).length < 40)) (by omega)]
    simp only [cond_true, cond_false]
    exact hbody
theorem impl_set_eq {w : V} (hl : (gl w 2).length ≤ 4194303) (hg : Good (gl w 2)) (id after : Int) : impl_Wheel_set (n_impl_Duty w) id after = some (setW w id after) := by
  obtain ⟨b, hb⟩ := impl_stop_eq (w := w) (by omega) id
  have hsl := stopL_len (gl w 2) id
  unfold impl_Wheel_set
  rw [show n_impl_Duty (n_impl_Duty w) = n_impl_Duty w from rfl, hb]
  simp only [Option.bind_some]
  have e0 : gi (V.agg [V.int .i64 (gi w 0), V.int .i64 (gi w 1), V.inl t_impl_Timer (stopL (gl w 2) id)]) 0 = gi w 0 := rfl
  have e2 : gi (V.agg [V.int .i64 (gi w 0), V.int .i64 (gi w 1), V.inl t_impl_Timer (stopL (gl w 2) id)]) 1 = gi w 1 := rfl
  have e1 : gl (V.agg [V.int .i64 (gi w 0), V.int .i64 (gi w 1), V.inl t_impl_Timer (stopL (gl w 2) id)]) 2 = stopL (gl w 2) id := rfl
  rw [e0, e2, e1, roomy_of (by omega) (by omega)]
  unfold srtO
  rw [decide_eq_true (p := 0 < (stopL (gl w 2) id ++ [V.agg [V.int .i64 id, V.int .i64 (IntKind.i64.wrap (gi w 1 + after))]]).length) (by simp), decide_eq_true (p := (stopL (gl w 2) id ++ [V.agg [V.int .i64 id, V.int .i64 (IntKind.i64.wrap (gi w 1 + after))]]).length < 4611686018427387904) (by simp; omega)]
  simp only [Bool.and_self, cond_true, Option.bind_some]
  rw [show V.agg [V.int .i64 id, V.int .i64 (IntKind.i64.wrap (gi w 1 + after))] = mkT w id after from rfl, sort_eq (putL_good (hg.sub (stopL_sub _ id)) (t := mkT w id after) (stopL_no hg)) (putL_perm _ _)]
  rfl
end Go.Eng.R
open Go Go.Eng
namespace Go.Eng.R
def wlD (d : V) : V := V.agg [V.int .i64 (gi d 1), V.inl t_impl_Timer (gl d 2)]
def lateT (d : V) (i : Nat) : Bool := decide (gi d 0 < IntKind.i64.wrap (gi (rd (gl d 2) i) 1 - gi d 1))
def okD (d : V) : Bool := decide (1 ≤ gi d 0 ∧ gi d 0 ≤ 1000 ∧ (gl d 2).length ≤ 8) && (okW (wlD d) && (List.range (gl d 2).length).all fun i => !lateT d i)
theorem wlD_W {d : V} (h : W_Duty d) : W_Wheel (wlD d) := ⟨h.2.1, h.2.2⟩
theorem okD_spec {d : V} (h : okD d = true) : 1 ≤ gi d 0 ∧ gi d 0 ≤ 1000 ∧ (gl d 2).length ≤ 8 ∧ 0 ≤ gi d 1 ∧ gi d 1 ≤ 1000000 ∧ Good (gl d 2) := by
  unfold okD at h
  simp only [Bool.and_eq_true, decide_eq_true_eq] at h
  obtain ⟨⟨h1, h2, h3⟩, h4, -⟩ := h
  obtain ⟨g1, g2, g3, g4⟩ := okW_spec h4
  exact ⟨h1, h2, h3, g1, g2, g4⟩
theorem spec_DutyOk_eq {d : V} (hd : W_Duty d) : spec_DutyOk (n_impl_Duty d) = some (okD d) := by
  have hl := hd.2.2.1
  unfold spec_DutyOk okD
  simp only [show gl (n_impl_Duty d) 2 = gl d 2 from rfl, show gi (n_impl_Duty d) 0 = gi d 0 from rfl, show gi (n_impl_Duty d) 1 = gi d 1 from rfl, show n_impl_Duty (n_impl_Duty d) = n_impl_Duty d from rfl]
  by_cases h1 : gi d 0 < 1
  · rw [decide_eq_true h1, decide_eq_false (p := 1 ≤ gi d 0 ∧ gi d 0 ≤ 1000 ∧ (gl d 2).length ≤ 8) (by omega)]; rfl
  by_cases h2 : 1000 < gi d 0
  · rw [decide_eq_false h1, decide_eq_true h2, decide_eq_false (p := 1 ≤ gi d 0 ∧ gi d 0 ≤ 1000 ∧ (gl d 2).length ≤ 8) (by omega)]; rfl
  rw [decide_eq_false h1, decide_eq_false h2, show spec_WheelOk (V.agg [V.int .i64 (gi d 1), V.inl t_impl_Timer (gl d 2)]) = some (okW (wlD d)) from spec_WheelOk_eq (w := wlD d) (wlD_W hd)]
  simp only [cond_false, Option.bind_some]
  cases hw : okW (wlD d) with
  | false => simp
  | true =>
    by_cases h3 : (8 : Int) < (((gl d 2).length : Nat) : Int)
    · rw [decide_eq_true h3, decide_eq_false (p := 1 ≤ gi d 0 ∧ gi d 0 ≤ 1000 ∧ (gl d 2).length ≤ 8) (by omega)]; rfl
    rw [decide_eq_false h3, decide_eq_true (p := 1 ≤ gi d 0 ∧ gi d 0 ≤ 1000 ∧ (gl d 2).length ≤ 8) (by omega)]
    simp only [Bool.not_true, cond_false, Bool.true_and]
    rw [fuel_eq, all_loopI (F := fun m i => spec_DutyOk_l4 m i (n_impl_Duty d)) (n := (gl d 2).length) (q := fun i => !lateT d i) (yes := some (1, false)) (no := some (0, false)) ?_ ?_]
    · cases (List.range (gl d 2).length).all fun i => !lateT d i <;> rfl
    · intro m i hi
      simp only [spec_DutyOk_l4, show gl (n_impl_Duty d) 2 = gl d 2 from rfl, show gi (n_impl_Duty d) 0 = gi d 0 from rfl, show gi (n_impl_Duty d) 1 = gi d 1 from rfl, show n_impl_Duty (n_impl_Duty d) = n_impl_Duty d from rfl, lt_nat hi, idxOk_nat hi, Int.toNat_natCast, cond_true, wr_succ hi hl, lateT]
      cases decide (gi d 0 < IntKind.i64.wrap (gi (rd (gl d 2) i) 1 - gi d 1)) <;> rfl
    · intro m; simp only [spec_DutyOk_l4, show gl (n_impl_Duty d) 2 = gl d 2 from rfl, lt_self, cond_false]
theorem firstI_all {q : Nat → Bool} {n : Nat} : decide ((0 : Int) ≤ match firstI q 0 n with | some j => (j : Int) | none => -1) = !((List.range n).all fun i => !q i) := by
  cases hf : firstI q 0 n with
  | none =>
    rw [firstI_none] at hf
    have : ((List.range n).all fun i => !q i) = true := by
      rw [List.all_eq_true]
      intro i hi
      rw [hf i (by omega) (by have := List.mem_range.1 hi; omega)]; rfl
    rw [this]; rfl
  | some j =>
    obtain ⟨-, hj, hq, -⟩ := firstI_some hf
    have : ((List.range n).all fun i => !q i) = false := by
      rw [List.all_eq_false]
      exact ⟨j, List.mem_range.2 (by omega), by simp [hq]⟩
    rw [this]
    exact decide_eq_true (by simp)
theorem impl_DutyOk_eq {d : V} (hd : W_Duty d) : impl_DutyOk (n_impl_Duty d) = some (okD d) := by
  have hl := hd.2.2.1
  unfold impl_DutyOk okD
  simp only [show gl (n_impl_Duty d) 2 = gl d 2 from rfl, show gi (n_impl_Duty d) 0 = gi d 0 from rfl, show gi (n_impl_Duty d) 1 = gi d 1 from rfl, show n_impl_Duty (n_impl_Duty d) = n_impl_Duty d from rfl, within_eq]
  by_cases h1 : 1 ≤ gi d 0 ∧ gi d 0 ≤ 1000
  case neg => rw [decide_eq_false h1, decide_eq_false (p := 1 ≤ gi d 0 ∧ gi d 0 ≤ 1000 ∧ (gl d 2).length ≤ 8) (by omega)]; rfl
  rw [decide_eq_true h1, show impl_WheelOk (V.agg [V.int .i64 (gi d 1), V.inl t_impl_Timer (gl d 2)]) = some (okW (wlD d)) from impl_WheelOk_eq (w := wlD d) (wlD_W hd)]
  simp only [cond_false, Bool.not_true, Option.bind_some]
  cases hw : okW (wlD d) with
  | false => simp
  | true =>
    by_cases h3 : (8 : Int) < (((gl d 2).length : Nat) : Int)
    · rw [decide_eq_true h3, decide_eq_false (p := 1 ≤ gi d 0 ∧ gi d 0 ≤ 1000 ∧ (gl d 2).length ≤ 8) (by omega)]; rfl
    rw [decide_eq_false h3, decide_eq_true (p := 1 ≤ gi d 0 ∧ gi d 0 ≤ 1000 ∧ (gl d 2).length ≤ 8) (by omega)]
    simp only [Bool.not_true, cond_false, Bool.true_and]
    unfold slices_ContainsFunc_Timer slices_IndexFunc_Timer_v1
    simp only [show n_impl_Duty (n_impl_Duty d) = n_impl_Duty d from rfl]
    rw [fuel_eq, show (0 : Int) = ((0 : Nat) : Int) from rfl, find_loop (F := fun m i => slices_IndexFunc_Timer_v1_l2 m (gl d 2) (n_impl_Duty d) (((gl d 2).length : Nat) : Int) i) (n := (gl d 2).length) (q := lateT d) (out := fun j => some (0, j)) (no := some (1, 0)) ?_ ?_ ((gl d 2).length + 1) 0 (by omega) (by omega)]
    · rw [Nat.sub_zero]
      have hf := firstI_all (q := lateT d) (n := (gl d 2).length)
      cases hq : firstI (lateT d) 0 (gl d 2).length with
      | none =>
        rw [hq] at hf
        simp only [Option.bind_some]
        rw [show ((List.range (gl d 2).length).all fun i => !lateT d i) = true from by simpa using hf]
        rfl
      | some j =>
        rw [hq] at hf
        simp only [Option.bind_some]
        rw [show ((List.range (gl d 2).length).all fun i => !lateT d i) = false from by
          have : decide ((0 : Int) ≤ (j : Int)) = true := decide_eq_true (by omega)
          simp only [this] at hf
          simpa using hf.symm]
        rw [show Nat.beq 0 0 = true from rfl, cond_true]
        simp only [Option.bind_some, show decide (((0 : Nat) : Int) ≤ (j : Int)) = true from decide_eq_true (by omega)]
        rfl
    · intro m i hi
      simp only [slices_IndexFunc_Timer_v1_l2, lt_nat hi, idxOk_nat hi, Int.toNat_natCast, cond_true, wr_succ hi hl]
      rfl
    · intro m; simp only [slices_IndexFunc_Timer_v1_l2, lt_self, cond_false]
theorem impl_own_eq {d : V} (h : (gl d 2).length ≤ 4194304) : impl_Duty_own (n_impl_Duty d) = some (n_impl_Duty d) := by
  unfold impl_Duty_own impl_Wheel_own slices_Clone_Timer
  rw [show gl (V.agg [V.int .i64 (gi (n_impl_Duty d) 1), V.inl t_impl_Timer (gl (n_impl_Duty d) 2)]) 1 = gl d 2 from rfl, roomy_of (by omega) (by omega)]
  rfl
theorem spec_own_eq {d : V} (h : (gl d 2).length ≤ 4194304) : spec_l15own (n_impl_Duty d) = some (n_impl_Duty d) := by
  unfold spec_l15own spec_l7own
  rw [show gl (V.agg [V.int .i64 (gi (n_impl_Duty d) 1), V.inl t_impl_Timer (gl (n_impl_Duty d) 2)]) 1 = gl d 2 from rfl, roomy_of (by omega) (by omega)]
  rfl
theorem setW_W {w : V} (hw : W_Duty w) (hl : (gl w 2).length ≤ 4194303) {id : Int} (hid : I64 id) {after : Int} (ha : I64 (gi w 1 + after)) : W_Duty (setW w id after) ∧ (gl (setW w id after) 2).length ≤ (gl w 2).length + 1 := by
  have hp := putL_perm (stopL (gl w 2) id) (mkT w id after)
  have hlen : (putL (stopL (gl w 2) id) (mkT w id after)).length = (stopL (gl w 2) id).length + 1 := by rw [← hp.length_eq]; simp
  have hsl := stopL_len (gl w 2) id
  refine ⟨⟨hw.1, hw.2.1, ⟨?_, fun x hx => ?_⟩⟩, ?_⟩
  · show (putL (stopL (gl w 2) id) (mkT w id after)).length ≤ _
    omega
  · have hx : x ∈ putL (stopL (gl w 2) id) (mkT w id after) := hx
    rcases List.mem_append.1 (hp.mem_iff.2 hx) with h | h
    · exact hw.2.2.2 x ((stopL_sub _ _).mem h)
    · simp only [List.mem_singleton] at h
      subst h
      exact ⟨hid, by show I64 (IntKind.i64.wrap (gi w 1 + after)); rw [wr64 ha]; exact ha⟩
  · show (putL (stopL (gl w 2) id) (mkT w id after)).length ≤ _
    omega
def zeroD : V := V.agg [V.int .i64 0, V.int .i64 0, V.inl t_impl_Timer []]
theorem zeroD_W : W_Duty zeroD := ⟨⟨by decide, by decide⟩, ⟨by decide, by decide⟩, LW.nil⟩
theorem z_len (d : V) : z_Duty d = (gl d 2).length := by show zS z_Timer (gl d 2) = _; rw [show zS z_Timer (gl d 2) = zS z0 (gl d 2) from rfl, zS_z0]
end Go.Eng.R
open Go Go.Eng
namespace Go.Eng.R
theorem renew_eq {d : V} (hd : W_Duty d) (hz : z_Duty d ≤ 1048576) {id : Int} (hid : I64 id) :
    ∃ g b, impl_DutyRenew (n_impl_Duty d) id = some (g, b) ∧ spec_DutyRenew (n_impl_Duty d) id = some (g, b) ∧ W_Duty g ∧ z_Duty g ≤ 1048577 ∧ n_impl_Duty g = g := by
  rw [z_len] at hz
  have hl : (gl d 2).length ≤ 4194303 := by omega
  unfold impl_DutyRenew spec_DutyRenew
  simp only [show n_impl_Duty (n_impl_Duty d) = n_impl_Duty d from rfl, spec_DutyOk_eq hd, impl_DutyOk_eq hd, Option.bind_some]
  cases hok : okD d with
  | false => exact ⟨zeroD, false, rfl, rfl, zeroD_W, by decide, rfl⟩
  | true =>
    obtain ⟨g1, g2, g3, g4, g5, g6⟩ := okD_spec hok
    have ht : impl_Wheel_timer (V.agg [V.int .i64 (gi d 1), V.inl t_impl_Timer (gl d 2)]) id = some (fT (gl d 2) id) := timer_eq (w := wlD d) (by show (gl d 2).length ≤ _; omega) id
    simp only [Bool.not_true, cond_false, impl_own_eq (d := d) (by omega), spec_own_eq (d := d) (by omega), Option.bind_some, show n_impl_Duty (n_impl_Duty d) = n_impl_Duty d from rfl, ht, show gl (n_impl_Duty d) 2 = gl d 2 from rfl, show gi (n_impl_Duty d) 0 = gi d 0 from rfl, show gi (n_impl_Duty d) 1 = gi d 1 from rfl, l7find_eq (l := gl d 2) (by omega), spec_set_eq (w := d) hl, impl_set_eq (w := d) hl g6]
    by_cases h : fT (gl d 2) id < 0
    · rw [decide_eq_true h]
      exact ⟨n_impl_Duty d, false, rfl, rfl, hd, by show z_Duty d ≤ _; rw [z_len]; omega, rfl⟩
    · have hin : 0 ≤ id ∧ id ≤ 2147483647 := by
        rcases fT_cases (gl d 2) id with ⟨e, -⟩ | ⟨k, e, hk, h1, -⟩
        · omega
        · unfold okD okW at hok
          simp only [Bool.and_eq_true, decide_eq_true_eq, List.all_eq_true, List.mem_range] at hok
          have hb := hok.2.1.2 k hk
          unfold okT at hb
          simp only [Bool.and_eq_true, decide_eq_true_eq] at hb
          have h1 : gi (rd (gl (wlD d) 1) k) 0 = id := h1
          rw [h1] at hb
          exact ⟨hb.1.1, hb.1.2.1⟩
      rw [decide_eq_false h, decide_eq_true (p := 0 ≤ id ∧ id ≤ 2147483647 ∧ 1 ≤ gi d 0 ∧ gi d 0 ≤ 1000000 ∧ (0 ≤ fT (gl d 2) id ∨ (gl d 2).length < 40)) (by omega)]
      obtain ⟨k1, k2⟩ := setW_W hd hl hid (after := gi d 0) ⟨by omega, by omega⟩
      refine ⟨n_impl_Duty (setW d id (gi d 0)), true, rfl, rfl, k1, ?_, rfl⟩
      show z_Duty (setW d id (gi d 0)) ≤ _
      rw [z_len]; omega
end Go.Eng.R
open Go Go.Eng
namespace Go.Eng.R
theorem law_DutyRenew {n : V} (hn : W_Duty n) {id : Int} (hid : I64 id) : laws_FnExactDutyRenew n id = some true := by
  unfold laws_FnExactDutyRenew
  obtain ⟨r, e, hr⟩ := laws_szDuty_ok (n_laws_Duty n) 1048576 hn (by omega) (by omega)
  rw [e]
  rcases hr with hr | ⟨r0, r1, hz⟩
  · rw [decide_eq_true hr]; rfl
  rw [decide_eq_false (p := r < 0) (by omega)]
  have hz : r + ((z_Duty n : Nat) : Int) = 1048576 := hz
  have hto : laws_toDuty (n_laws_Duty n) = some (cnv_Duty n) := laws_toDuty_ok (n_laws_Duty n) hn (by show z_Duty n ≤ _; omega)
  have hy : W_Duty (cnv_Duty n) := cnv_Duty_W n hn
  have hyz : z_Duty (cnv_Duty n) ≤ 1048576 := by rw [cnv_Duty_z]; omega
  obtain ⟨g, b, g1, g2, g3, g4, g5⟩ := renew_eq (d := cnv_Duty n) (id := id) hy hyz hid
  have hct := ct_Duty_cz (cnv_Duty n)
  have hcg := ct_Duty_cz g
  obtain ⟨b0, f1, -⟩ := laws_markDuty_ok (n_impl_Duty (cnv_Duty n)) 1 hy (by omega) (by show (1 : Int) + ((ct_Duty (cnv_Duty n) : Nat) : Int) ≤ _; omega)
  simp only [show ct_Duty (n_impl_Duty (cnv_Duty n)) = ct_Duty (cnv_Duty n) from rfl] at f1
  obtain ⟨d0, f3, q0, s0⟩ := laws_markDuty_ok (n_impl_Duty g) 1 g3 (by omega) (by show (1 : Int) + ((ct_Duty g : Nat) : Int) ≤ _; omega)
  simp only [show ct_Duty (n_impl_Duty g) = ct_Duty g from rfl] at f3
  have s0 : sumL c_Timer d0 = sumL c_Timer (gl g 2) := s0
  have hc : ct_Duty (V.agg [(V.int .i64 (gi g 0)), (V.int .i64 (gi g 1)), (V.inl t_impl_Timer d0)]) = ct_Duty g := by
    show sumL c_Timer d0 = sumL c_Timer (gl g 2)
    rw [s0]
  have hh := laws_heldDuty_ok (V.agg [(V.int .i64 (gi g 0)), (V.int .i64 (gi g 1)), (V.inl t_impl_Timer d0)]) 1 q0 (by omega) (by rw [hc]; omega)
  rw [hc] at hh
  have eq1 := laws_eqDuty_ok (n_impl_Duty g) g3
  have eq2 := laws_eqDuty_ok (n_impl_Duty (cnv_Duty n)) hy
  simp only [hto, g1, g2, eq1, eq2, f1, f3, hh, Option.bind_some, cond_false, Bool.not_true, beq_self_eq_true]
  rw [decide_eq_false (p := (1 : Int) + ((ct_Duty (cnv_Duty n) : Nat) : Int) < 0) (by omega), decide_eq_false (p := (1 : Int) + ((ct_Duty g : Nat) : Int) < 0) (by omega)]
  simp
end Go.Eng.R
open Go Go.Eng
namespace Go.Eng.R
theorem wt_laws_Timer {x : V} (h : WtT tab t_laws_Timer x) : W_Timer x := ⟨wt_i64 (h.cell 0 rfl), wt_i64 (h.cell 1 rfl)⟩
theorem wt_laws_Duty {x : V} (h : WtT tab t_laws_Duty x) : W_Duty x := ⟨wt_i64 (h.cell 0 rfl), wt_i64 (h.cell 1 rfl), wt_sl (h.cell 2 rfl) fun _ => wt_laws_Timer⟩
theorem wt_int_ {x : V} (h : WtT tab t_int' x) : W_int x := wt_i64 (h.cell 0 rfl)
def readable : List TypeId := [3, 68, 70, 72, 209]
end Go.Eng.R
