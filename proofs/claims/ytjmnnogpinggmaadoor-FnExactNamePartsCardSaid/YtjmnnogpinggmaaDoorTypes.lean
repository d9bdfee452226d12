/- Closed facts of the types and functions of this seat's translation. No conditions. -/
import Derived.Test.YtjmnnogpinggmaaDoorBase
import Derived.Test.YtjmnnogpinggmaaDoorG2
namespace Go.Proofs.YtjmnnogpinggmaaDoor
open Go.RowKit
theorem Tryd.agg_0 : aggB Tryd.prog 0 = some false := by kernel_rfl
theorem Tryd.sz_0 : szB Tryd.prog 0 = some 1 := by kernel_rfl
theorem Tryd.agg_3 : aggB Tryd.prog 3 = some false := by kernel_rfl
theorem Tryd.sz_3 : szB Tryd.prog 3 = some 1 := by kernel_rfl
theorem Tryd.zero_3 : zeroC Tryd.prog 3 = some [(.int .i64 (0) : Value)] := by kernel_rfl
theorem Tryd.elem_3 : elemB Tryd.prog 3 = some (1, 8, 1) := by kernel_rfl
theorem Tryd.agg_4 : aggB Tryd.prog 4 = some false := by kernel_rfl
theorem Tryd.sz_4 : szB Tryd.prog 4 = some 1 := by kernel_rfl
theorem Tryd.zero_4 : zeroC Tryd.prog 4 = some [(.bool false : Value)] := by kernel_rfl
theorem Tryd.elem_4 : elemB Tryd.prog 4 = some (1, 1, 1) := by kernel_rfl
theorem Tryd.agg_5 : aggB Tryd.prog 5 = some false := by kernel_rfl
theorem Tryd.sz_5 : szB Tryd.prog 5 = some 1 := by kernel_rfl
theorem Tryd.zero_5 : zeroC Tryd.prog 5 = some [(.int .u8 (0) : Value)] := by kernel_rfl
theorem Tryd.elem_5 : elemB Tryd.prog 5 = some (1, 1, 1) := by kernel_rfl
theorem Tryd.agg_9 : aggB Tryd.prog 9 = some false := by kernel_rfl
theorem Tryd.sz_9 : szB Tryd.prog 9 = some 1 := by kernel_rfl
theorem Tryd.zero_9 : zeroC Tryd.prog 9 = some [(.string (bs ([])) : Value)] := by kernel_rfl
theorem Tryd.elem_9 : elemB Tryd.prog 9 = some (1, 16, 1) := by kernel_rfl
theorem Tryd.agg_21 : aggB Tryd.prog 21 = some false := by kernel_rfl
theorem Tryd.sz_21 : szB Tryd.prog 21 = some 1 := by kernel_rfl
theorem Tryd.zero_21 : zeroC Tryd.prog 21 = some [(.int .i32 (0) : Value)] := by kernel_rfl
theorem Tryd.elem_21 : elemB Tryd.prog 21 = some (1, 4, 1) := by kernel_rfl
theorem Tryd.agg_22 : aggB Tryd.prog 22 = some false := by kernel_rfl
theorem Tryd.sz_22 : szB Tryd.prog 22 = some 1 := by kernel_rfl
theorem Tryd.zero_22 : zeroC Tryd.prog 22 = some [(.slice none 0 0 : Value)] := by kernel_rfl
theorem Tryd.elem_22 : elemB Tryd.prog 22 = some (1, 24, 1) := by kernel_rfl
theorem Tryd.agg_23 : aggB Tryd.prog 23 = some false := by kernel_rfl
theorem Tryd.sz_23 : szB Tryd.prog 23 = some 1 := by kernel_rfl
theorem Tryd.agg_26 : aggB Tryd.prog 26 = some false := by kernel_rfl
theorem Tryd.sz_26 : szB Tryd.prog 26 = some 1 := by kernel_rfl
theorem Tryd.agg_28 : aggB Tryd.prog 28 = some false := by kernel_rfl
theorem Tryd.sz_28 : szB Tryd.prog 28 = some 1 := by kernel_rfl
theorem Tryd.zero_28 : zeroC Tryd.prog 28 = some [(.slice none 0 0 : Value)] := by kernel_rfl
theorem Tryd.elem_28 : elemB Tryd.prog 28 = some (1, 24, 1) := by kernel_rfl
theorem Tryd.agg_33 : aggB Tryd.prog 33 = some false := by kernel_rfl
theorem Tryd.sz_33 : szB Tryd.prog 33 = some 1 := by kernel_rfl
theorem Tryd.zero_33 : zeroC Tryd.prog 33 = some [(.pointer none : Value)] := by kernel_rfl
theorem Tryd.elem_33 : elemB Tryd.prog 33 = some (1, 8, 1) := by kernel_rfl
theorem Tryd.agg_38 : aggB Tryd.prog 38 = some false := by kernel_rfl
theorem Tryd.sz_38 : szB Tryd.prog 38 = some 1 := by kernel_rfl
theorem Tryd.agg_43 : aggB Tryd.prog 43 = some true := by kernel_rfl
theorem Tryd.sz_43 : szB Tryd.prog 43 = some 2 := by kernel_rfl
theorem Tryd.zero_43 : zeroC Tryd.prog 43 = some [(.slice none 0 0 : Value), (.int .i64 (0) : Value)] := by kernel_rfl
theorem Tryd.elem_43 : elemB Tryd.prog 43 = some (2, 32, 2) := by kernel_rfl
theorem Tryd.places_43 : placesB Tryd.prog 43 = some ([(.slice none 0 0 : Value), (.int .i64 (0) : Value)], [(0, 1), (1, 1)]) := by kernel_rfl
theorem Tryd.foff_43_0 : foff Tryd.prog 43 0 = some 0 := by kernel_rfl
theorem Tryd.fty_43_0 : ftyB Tryd.prog 43 0 = some 0 := by kernel_rfl
theorem Tryd.foff_43_1 : foff Tryd.prog 43 1 = some 1 := by kernel_rfl
theorem Tryd.fty_43_1 : ftyB Tryd.prog 43 1 = some 1 := by kernel_rfl
theorem Tryd.agg_44 : aggB Tryd.prog 44 = some true := by kernel_rfl
theorem Tryd.sz_44 : szB Tryd.prog 44 = some 2 := by kernel_rfl
theorem Tryd.zero_44 : zeroC Tryd.prog 44 = some [(.slice none 0 0 : Value), (.int .i64 (0) : Value)] := by kernel_rfl
theorem Tryd.elem_44 : elemB Tryd.prog 44 = some (2, 32, 2) := by kernel_rfl
theorem Tryd.places_44 : placesB Tryd.prog 44 = some ([(.slice none 0 0 : Value), (.int .i64 (0) : Value)], [(0, 1), (1, 1)]) := by kernel_rfl
theorem Tryd.foff_44_0 : foff Tryd.prog 44 0 = some 0 := by kernel_rfl
theorem Tryd.fty_44_0 : ftyB Tryd.prog 44 0 = some 0 := by kernel_rfl
theorem Tryd.foff_44_1 : foff Tryd.prog 44 1 = some 1 := by kernel_rfl
theorem Tryd.fty_44_1 : ftyB Tryd.prog 44 1 = some 1 := by kernel_rfl
theorem Tryd.agg_51 : aggB Tryd.prog 51 = some true := by kernel_rfl
theorem Tryd.sz_51 : szB Tryd.prog 51 = some 256 := by kernel_rfl
theorem Tryd.zero_51 : zeroC Tryd.prog 51 = some [(.bool false : Value), (.bool false : Value), (.bool false : Value), (.bool false : Value), (.bool false : Value), (.bool false : Value), (.bool false : Value), (.bool false : Value), (.bool false : Value), (.bool false : Value), (.bool false : Value), (.bool false : Value), (.bool false : Value), (.bool false : Value), (.bool false : Value), (.bool false : Value), (.bool false : Value), (.bool false : Value), (.bool false : Value), (.bool false : Value), (.bool false : Value), (.bool false : Value), (.bool false : Value), (.bool false : Value), (.bool false : Value), (.bool false : Value), (.bool false : Value), (.bool false : Value), (.bool false : Value), (.bool false : Value), (.bool false : Value), (.bool false : Value), (.bool false : Value), (.bool false : Value), (.bool false : Value), (.bool false : Value), (.bool false : Value), (.bool false : Value), (.bool false : Value), (.bool false : Value), (.bool false : Value), (.bool false : Value), (.bool false : Value), (.bool false : Value), (.bool false : Value), (.bool false : Value), (.bool false : Value), (.bool false : Value), (.bool false : Value), (.bool false : Value), (.bool false : Value), (.bool false : Value), (.bool false : Value), (.bool false : Value), (.bool false : Value), (.bool false : Value), (.bool false : Value), (.bool false : Value), (.bool false : Value), (.bool false : Value), (.bool false : Value), (.bool false : Value), (.bool false : Value), (.bool false : Value), (.bool false : Value), (.bool false : Value), (.bool false : Value), (.bool false : Value), (.bool false : Value), (.bool false : Value), (.bool false : Value), (.bool false : Value), (.bool false : Value), (.bool false : Value), (.bool false : Value), (.bool false : Value), (.bool false : Value), (.bool false : Value), (.bool false : Value), (.bool false : Value), (.bool false : Value), (.bool false : Value), (.bool false : Value), (.bool false : Value), (.bool false : Value), (.bool false : Value), (.bool false : Value), (.bool false : Value), (.bool false : Value), (.bool false : Value), (.bool false : Value), (.bool false : Value), (.bool false : Value), (.bool false : Value), (.bool false : Value), (.bool false : Value), (.bool false : Value), (.bool false : Value), (.bool false : Value), (.bool false : Value), (.bool false : Value), (.bool false : Value), (.bool false : Value), (.bool false : Value), (.bool false : Value), (.bool false : Value), (.bool false : Value), (.bool false : Value), (.bool false : Value), (.bool false : Value), (.bool false : Value), (.bool false : Value), (.bool false : Value), (.bool false : Value), (.bool false : Value), (.bool false : Value), (.bool false : Value), (.bool false : Value), (.bool false : Value), (.bool false : Value), (.bool false : Value), (.bool false : Value), (.bool false : Value), (.bool false : Value), (.bool false : Value), (.bool false : Value), (.bool false : Value), (.bool false : Value), (.bool false : Value), (.bool false : Value), (.bool false : Value), (.bool false : Value), (.bool false : Value), (.bool false : Value), (.bool false : Value), (.bool false : Value), (.bool false : Value), (.bool false : Value), (.bool false : Value), (.bool false : Value), (.bool false : Value), (.bool false : Value), (.bool false : Value), (.bool false : Value), (.bool false : Value), (.bool false : Value), (.bool false : Value), (.bool false : Value), (.bool false : Value), (.bool false : Value), (.bool false : Value), (.bool false : Value), (.bool false : Value), (.bool false : Value), (.bool false : Value), (.bool false : Value), (.bool false : Value), (.bool false : Value), (.bool false : Value), (.bool false : Value), (.bool false : Value), (.bool false : Value), (.bool false : Value), (.bool false : Value), (.bool false : Value), (.bool false : Value), (.bool false : Value), (.bool false : Value), (.bool false : Value), (.bool false : Value), (.bool false : Value), (.bool false : Value), (.bool false : Value), (.bool false : Value), (.bool false : Value), (.bool false : Value), (.bool false : Value), (.bool false : Value), (.bool false : Value), (.bool false : Value), (.bool false : Value), (.bool false : Value), (.bool false : Value), (.bool false : Value), (.bool false : Value), (.bool false : Value), (.bool false : Value), (.bool false : Value), (.bool false : Value), (.bool false : Value), (.bool false : Value), (.bool false : Value), (.bool false : Value), (.bool false : Value), (.bool false : Value), (.bool false : Value), (.bool false : Value), (.bool false : Value), (.bool false : Value), (.bool false : Value), (.bool false : Value), (.bool false : Value), (.bool false : Value), (.bool false : Value), (.bool false : Value), (.bool false : Value), (.bool false : Value), (.bool false : Value), (.bool false : Value), (.bool false : Value), (.bool false : Value), (.bool false : Value), (.bool false : Value), (.bool false : Value), (.bool false : Value), (.bool false : Value), (.bool false : Value), (.bool false : Value), (.bool false : Value), (.bool false : Value), (.bool false : Value), (.bool false : Value), (.bool false : Value), (.bool false : Value), (.bool false : Value), (.bool false : Value), (.bool false : Value), (.bool false : Value), (.bool false : Value), (.bool false : Value), (.bool false : Value), (.bool false : Value), (.bool false : Value), (.bool false : Value), (.bool false : Value), (.bool false : Value), (.bool false : Value), (.bool false : Value), (.bool false : Value), (.bool false : Value), (.bool false : Value), (.bool false : Value), (.bool false : Value), (.bool false : Value), (.bool false : Value), (.bool false : Value), (.bool false : Value), (.bool false : Value), (.bool false : Value), (.bool false : Value), (.bool false : Value), (.bool false : Value), (.bool false : Value), (.bool false : Value), (.bool false : Value), (.bool false : Value)] := by kernel_rfl
theorem Tryd.elem_51 : elemB Tryd.prog 51 = some (256, 256, 256) := by kernel_rfl
theorem Tryd.agg_52 : aggB Tryd.prog 52 = some true := by kernel_rfl
theorem Tryd.sz_52 : szB Tryd.prog 52 = some 256 := by kernel_rfl
theorem Tryd.zero_52 : zeroC Tryd.prog 52 = some [(.bool false : Value), (.bool false : Value), (.bool false : Value), (.bool false : Value), (.bool false : Value), (.bool false : Value), (.bool false : Value), (.bool false : Value), (.bool false : Value), (.bool false : Value), (.bool false : Value), (.bool false : Value), (.bool false : Value), (.bool false : Value), (.bool false : Value), (.bool false : Value), (.bool false : Value), (.bool false : Value), (.bool false : Value), (.bool false : Value), (.bool false : Value), (.bool false : Value), (.bool false : Value), (.bool false : Value), (.bool false : Value), (.bool false : Value), (.bool false : Value), (.bool false : Value), (.bool false : Value), (.bool false : Value), (.bool false : Value), (.bool false : Value), (.bool false : Value), (.bool false : Value), (.bool false : Value), (.bool false : Value), (.bool false : Value), (.bool false : Value), (.bool false : Value), (.bool false : Value), (.bool false : Value), (.bool false : Value), (.bool false : Value), (.bool false : Value), (.bool false : Value), (.bool false : Value), (.bool false : Value), (.bool false : Value), (.bool false : Value), (.bool false : Value), (.bool false : Value), (.bool false : Value), (.bool false : Value), (.bool false : Value), (.bool false : Value), (.bool false : Value), (.bool false : Value), (.bool false : Value), (.bool false : Value), (.bool false : Value), (.bool false : Value), (.bool false : Value), (.bool false : Value), (.bool false : Value), (.bool false : Value), (.bool false : Value), (.bool false : Value), (.bool false : Value), (.bool false : Value), (.bool false : Value), (.bool false : Value), (.bool false : Value), (.bool false : Value), (.bool false : Value), (.bool false : Value), (.bool false : Value), (.bool false : Value), (.bool false : Value), (.bool false : Value), (.bool false : Value), (.bool false : Value), (.bool false : Value), (.bool false : Value), (.bool false : Value), (.bool false : Value), (.bool false : Value), (.bool false : Value), (.bool false : Value), (.bool false : Value), (.bool false : Value), (.bool false : Value), (.bool false : Value), (.bool false : Value), (.bool false : Value), (.bool false : Value), (.bool false : Value), (.bool false : Value), (.bool false : Value), (.bool false : Value), (.bool false : Value), (.bool false : Value), (.bool false : Value), (.bool false : Value), (.bool false : Value), (.bool false : Value), (.bool false : Value), (.bool false : Value), (.bool false : Value), (.bool false : Value), (.bool false : Value), (.bool false : Value), (.bool false : Value), (.bool false : Value), (.bool false : Value), (.bool false : Value), (.bool false : Value), (.bool false : Value), (.bool false : Value), (.bool false : Value), (.bool false : Value), (.bool false : Value), (.bool false : Value), (.bool false : Value), (.bool false : Value), (.bool false : Value), (.bool false : Value), (.bool false : Value), (.bool false : Value), (.bool false : Value), (.bool false : Value), (.bool false : Value), (.bool false : Value), (.bool false : Value), (.bool false : Value), (.bool false : Value), (.bool false : Value), (.bool false : Value), (.bool false : Value), (.bool false : Value), (.bool false : Value), (.bool false : Value), (.bool false : Value), (.bool false : Value), (.bool false : Value), (.bool false : Value), (.bool false : Value), (.bool false : Value), (.bool false : Value), (.bool false : Value), (.bool false : Value), (.bool false : Value), (.bool false : Value), (.bool false : Value), (.bool false : Value), (.bool false : Value), (.bool false : Value), (.bool false : Value), (.bool false : Value), (.bool false : Value), (.bool false : Value), (.bool false : Value), (.bool false : Value), (.bool false : Value), (.bool false : Value), (.bool false : Value), (.bool false : Value), (.bool false : Value), (.bool false : Value), (.bool false : Value), (.bool false : Value), (.bool false : Value), (.bool false : Value), (.bool false : Value), (.bool false : Value), (.bool false : Value), (.bool false : Value), (.bool false : Value), (.bool false : Value), (.bool false : Value), (.bool false : Value), (.bool false : Value), (.bool false : Value), (.bool false : Value), (.bool false : Value), (.bool false : Value), (.bool false : Value), (.bool false : Value), (.bool false : Value), (.bool false : Value), (.bool false : Value), (.bool false : Value), (.bool false : Value), (.bool false : Value), (.bool false : Value), (.bool false : Value), (.bool false : Value), (.bool false : Value), (.bool false : Value), (.bool false : Value), (.bool false : Value), (.bool false : Value), (.bool false : Value), (.bool false : Value), (.bool false : Value), (.bool false : Value), (.bool false : Value), (.bool false : Value), (.bool false : Value), (.bool false : Value), (.bool false : Value), (.bool false : Value), (.bool false : Value), (.bool false : Value), (.bool false : Value), (.bool false : Value), (.bool false : Value), (.bool false : Value), (.bool false : Value), (.bool false : Value), (.bool false : Value), (.bool false : Value), (.bool false : Value), (.bool false : Value), (.bool false : Value), (.bool false : Value), (.bool false : Value), (.bool false : Value), (.bool false : Value), (.bool false : Value), (.bool false : Value), (.bool false : Value), (.bool false : Value), (.bool false : Value), (.bool false : Value), (.bool false : Value), (.bool false : Value), (.bool false : Value), (.bool false : Value), (.bool false : Value), (.bool false : Value), (.bool false : Value), (.bool false : Value), (.bool false : Value), (.bool false : Value), (.bool false : Value), (.bool false : Value), (.bool false : Value), (.bool false : Value), (.bool false : Value), (.bool false : Value), (.bool false : Value), (.bool false : Value), (.bool false : Value), (.bool false : Value), (.bool false : Value), (.bool false : Value)] := by kernel_rfl
theorem Tryd.elem_52 : elemB Tryd.prog 52 = some (256, 256, 256) := by kernel_rfl
theorem Tryd.agg_53 : aggB Tryd.prog 53 = some false := by kernel_rfl
theorem Tryd.sz_53 : szB Tryd.prog 53 = some 1 := by kernel_rfl
theorem Tryd.agg_56 : aggB Tryd.prog 56 = some false := by kernel_rfl
theorem Tryd.sz_56 : szB Tryd.prog 56 = some 1 := by kernel_rfl
theorem Tryd.zero_56 : zeroC Tryd.prog 56 = some [(.pointer none : Value)] := by kernel_rfl
theorem Tryd.elem_56 : elemB Tryd.prog 56 = some (1, 8, 1) := by kernel_rfl
theorem Tryd.agg_58 : aggB Tryd.prog 58 = some false := by kernel_rfl
theorem Tryd.sz_58 : szB Tryd.prog 58 = some 1 := by kernel_rfl
theorem Tryd.agg_65 : aggB Tryd.prog 65 = some true := by kernel_rfl
theorem Tryd.sz_65 : szB Tryd.prog 65 = some 256 := by kernel_rfl
theorem Tryd.zero_65 : zeroC Tryd.prog 65 = some [(.int .u8 (0) : Value), (.int .u8 (0) : Value), (.int .u8 (0) : Value), (.int .u8 (0) : Value), (.int .u8 (0) : Value), (.int .u8 (0) : Value), (.int .u8 (0) : Value), (.int .u8 (0) : Value), (.int .u8 (0) : Value), (.int .u8 (0) : Value), (.int .u8 (0) : Value), (.int .u8 (0) : Value), (.int .u8 (0) : Value), (.int .u8 (0) : Value), (.int .u8 (0) : Value), (.int .u8 (0) : Value), (.int .u8 (0) : Value), (.int .u8 (0) : Value), (.int .u8 (0) : Value), (.int .u8 (0) : Value), (.int .u8 (0) : Value), (.int .u8 (0) : Value), (.int .u8 (0) : Value), (.int .u8 (0) : Value), (.int .u8 (0) : Value), (.int .u8 (0) : Value), (.int .u8 (0) : Value), (.int .u8 (0) : Value), (.int .u8 (0) : Value), (.int .u8 (0) : Value), (.int .u8 (0) : Value), (.int .u8 (0) : Value), (.int .u8 (0) : Value), (.int .u8 (0) : Value), (.int .u8 (0) : Value), (.int .u8 (0) : Value), (.int .u8 (0) : Value), (.int .u8 (0) : Value), (.int .u8 (0) : Value), (.int .u8 (0) : Value), (.int .u8 (0) : Value), (.int .u8 (0) : Value), (.int .u8 (0) : Value), (.int .u8 (0) : Value), (.int .u8 (0) : Value), (.int .u8 (0) : Value), (.int .u8 (0) : Value), (.int .u8 (0) : Value), (.int .u8 (0) : Value), (.int .u8 (0) : Value), (.int .u8 (0) : Value), (.int .u8 (0) : Value), (.int .u8 (0) : Value), (.int .u8 (0) : Value), (.int .u8 (0) : Value), (.int .u8 (0) : Value), (.int .u8 (0) : Value), (.int .u8 (0) : Value), (.int .u8 (0) : Value), (.int .u8 (0) : Value), (.int .u8 (0) : Value), (.int .u8 (0) : Value), (.int .u8 (0) : Value), (.int .u8 (0) : Value), (.int .u8 (0) : Value), (.int .u8 (0) : Value), (.int .u8 (0) : Value), (.int .u8 (0) : Value), (.int .u8 (0) : Value), (.int .u8 (0) : Value), (.int .u8 (0) : Value), (.int .u8 (0) : Value), (.int .u8 (0) : Value), (.int .u8 (0) : Value), (.int .u8 (0) : Value), (.int .u8 (0) : Value), (.int .u8 (0) : Value), (.int .u8 (0) : Value), (.int .u8 (0) : Value), (.int .u8 (0) : Value), (.int .u8 (0) : Value), (.int .u8 (0) : Value), (.int .u8 (0) : Value), (.int .u8 (0) : Value), (.int .u8 (0) : Value), (.int .u8 (0) : Value), (.int .u8 (0) : Value), (.int .u8 (0) : Value), (.int .u8 (0) : Value), (.int .u8 (0) : Value), (.int .u8 (0) : Value), (.int .u8 (0) : Value), (.int .u8 (0) : Value), (.int .u8 (0) : Value), (.int .u8 (0) : Value), (.int .u8 (0) : Value), (.int .u8 (0) : Value), (.int .u8 (0) : Value), (.int .u8 (0) : Value), (.int .u8 (0) : Value), (.int .u8 (0) : Value), (.int .u8 (0) : Value), (.int .u8 (0) : Value), (.int .u8 (0) : Value), (.int .u8 (0) : Value), (.int .u8 (0) : Value), (.int .u8 (0) : Value), (.int .u8 (0) : Value), (.int .u8 (0) : Value), (.int .u8 (0) : Value), (.int .u8 (0) : Value), (.int .u8 (0) : Value), (.int .u8 (0) : Value), (.int .u8 (0) : Value), (.int .u8 (0) : Value), (.int .u8 (0) : Value), (.int .u8 (0) : Value), (.int .u8 (0) : Value), (.int .u8 (0) : Value), (.int .u8 (0) : Value), (.int .u8 (0) : Value), (.int .u8 (0) : Value), (.int .u8 (0) : Value), (.int .u8 (0) : Value), (.int .u8 (0) : Value), (.int .u8 (0) : Value), (.int .u8 (0) : Value), (.int .u8 (0) : Value), (.int .u8 (0) : Value), (.int .u8 (0) : Value), (.int .u8 (0) : Value), (.int .u8 (0) : Value), (.int .u8 (0) : Value), (.int .u8 (0) : Value), (.int .u8 (0) : Value), (.int .u8 (0) : Value), (.int .u8 (0) : Value), (.int .u8 (0) : Value), (.int .u8 (0) : Value), (.int .u8 (0) : Value), (.int .u8 (0) : Value), (.int .u8 (0) : Value), (.int .u8 (0) : Value), (.int .u8 (0) : Value), (.int .u8 (0) : Value), (.int .u8 (0) : Value), (.int .u8 (0) : Value), (.int .u8 (0) : Value), (.int .u8 (0) : Value), (.int .u8 (0) : Value), (.int .u8 (0) : Value), (.int .u8 (0) : Value), (.int .u8 (0) : Value), (.int .u8 (0) : Value), (.int .u8 (0) : Value), (.int .u8 (0) : Value), (.int .u8 (0) : Value), (.int .u8 (0) : Value), (.int .u8 (0) : Value), (.int .u8 (0) : Value), (.int .u8 (0) : Value), (.int .u8 (0) : Value), (.int .u8 (0) : Value), (.int .u8 (0) : Value), (.int .u8 (0) : Value), (.int .u8 (0) : Value), (.int .u8 (0) : Value), (.int .u8 (0) : Value), (.int .u8 (0) : Value), (.int .u8 (0) : Value), (.int .u8 (0) : Value), (.int .u8 (0) : Value), (.int .u8 (0) : Value), (.int .u8 (0) : Value), (.int .u8 (0) : Value), (.int .u8 (0) : Value), (.int .u8 (0) : Value), (.int .u8 (0) : Value), (.int .u8 (0) : Value), (.int .u8 (0) : Value), (.int .u8 (0) : Value), (.int .u8 (0) : Value), (.int .u8 (0) : Value), (.int .u8 (0) : Value), (.int .u8 (0) : Value), (.int .u8 (0) : Value), (.int .u8 (0) : Value), (.int .u8 (0) : Value), (.int .u8 (0) : Value), (.int .u8 (0) : Value), (.int .u8 (0) : Value), (.int .u8 (0) : Value), (.int .u8 (0) : Value), (.int .u8 (0) : Value), (.int .u8 (0) : Value), (.int .u8 (0) : Value), (.int .u8 (0) : Value), (.int .u8 (0) : Value), (.int .u8 (0) : Value), (.int .u8 (0) : Value), (.int .u8 (0) : Value), (.int .u8 (0) : Value), (.int .u8 (0) : Value), (.int .u8 (0) : Value), (.int .u8 (0) : Value), (.int .u8 (0) : Value), (.int .u8 (0) : Value), (.int .u8 (0) : Value), (.int .u8 (0) : Value), (.int .u8 (0) : Value), (.int .u8 (0) : Value), (.int .u8 (0) : Value), (.int .u8 (0) : Value), (.int .u8 (0) : Value), (.int .u8 (0) : Value), (.int .u8 (0) : Value), (.int .u8 (0) : Value), (.int .u8 (0) : Value), (.int .u8 (0) : Value), (.int .u8 (0) : Value), (.int .u8 (0) : Value), (.int .u8 (0) : Value), (.int .u8 (0) : Value), (.int .u8 (0) : Value), (.int .u8 (0) : Value), (.int .u8 (0) : Value), (.int .u8 (0) : Value), (.int .u8 (0) : Value), (.int .u8 (0) : Value), (.int .u8 (0) : Value), (.int .u8 (0) : Value), (.int .u8 (0) : Value), (.int .u8 (0) : Value), (.int .u8 (0) : Value), (.int .u8 (0) : Value), (.int .u8 (0) : Value), (.int .u8 (0) : Value), (.int .u8 (0) : Value), (.int .u8 (0) : Value), (.int .u8 (0) : Value), (.int .u8 (0) : Value), (.int .u8 (0) : Value), (.int .u8 (0) : Value), (.int .u8 (0) : Value), (.int .u8 (0) : Value), (.int .u8 (0) : Value), (.int .u8 (0) : Value), (.int .u8 (0) : Value), (.int .u8 (0) : Value), (.int .u8 (0) : Value), (.int .u8 (0) : Value), (.int .u8 (0) : Value), (.int .u8 (0) : Value), (.int .u8 (0) : Value), (.int .u8 (0) : Value), (.int .u8 (0) : Value)] := by kernel_rfl
theorem Tryd.elem_65 : elemB Tryd.prog 65 = some (256, 256, 256) := by kernel_rfl
theorem Tryd.agg_66 : aggB Tryd.prog 66 = some true := by kernel_rfl
theorem Tryd.sz_66 : szB Tryd.prog 66 = some 2 := by kernel_rfl
theorem Tryd.zero_66 : zeroC Tryd.prog 66 = some [(.int .u8 (0) : Value), (.int .u8 (0) : Value)] := by kernel_rfl
theorem Tryd.elem_66 : elemB Tryd.prog 66 = some (2, 2, 2) := by kernel_rfl
theorem Tryd.places_66 : placesB Tryd.prog 66 = some ([(.int .u8 (0) : Value), (.int .u8 (0) : Value)], [(0, 1), (1, 1)]) := by kernel_rfl
theorem Tryd.foff_66_0 : foff Tryd.prog 66 0 = some 0 := by kernel_rfl
theorem Tryd.fty_66_0 : ftyB Tryd.prog 66 0 = some 0 := by kernel_rfl
theorem Tryd.foff_66_1 : foff Tryd.prog 66 1 = some 1 := by kernel_rfl
theorem Tryd.fty_66_1 : ftyB Tryd.prog 66 1 = some 1 := by kernel_rfl
theorem Tryd.agg_67 : aggB Tryd.prog 67 = some true := by kernel_rfl
theorem Tryd.sz_67 : szB Tryd.prog 67 = some 2 := by kernel_rfl
theorem Tryd.zero_67 : zeroC Tryd.prog 67 = some [(.int .u8 (0) : Value), (.int .u8 (0) : Value)] := by kernel_rfl
theorem Tryd.elem_67 : elemB Tryd.prog 67 = some (2, 2, 2) := by kernel_rfl
theorem Tryd.places_67 : placesB Tryd.prog 67 = some ([(.int .u8 (0) : Value), (.int .u8 (0) : Value)], [(0, 1), (1, 1)]) := by kernel_rfl
theorem Tryd.foff_67_0 : foff Tryd.prog 67 0 = some 0 := by kernel_rfl
theorem Tryd.fty_67_0 : ftyB Tryd.prog 67 0 = some 0 := by kernel_rfl
theorem Tryd.foff_67_1 : foff Tryd.prog 67 1 = some 1 := by kernel_rfl
theorem Tryd.fty_67_1 : ftyB Tryd.prog 67 1 = some 1 := by kernel_rfl
theorem Tryd.agg_68 : aggB Tryd.prog 68 = some true := by kernel_rfl
theorem Tryd.sz_68 : szB Tryd.prog 68 = some 32 := by kernel_rfl
theorem Tryd.zero_68 : zeroC Tryd.prog 68 = some [(.int .u8 (0) : Value), (.int .u8 (0) : Value), (.int .u8 (0) : Value), (.int .u8 (0) : Value), (.int .u8 (0) : Value), (.int .u8 (0) : Value), (.int .u8 (0) : Value), (.int .u8 (0) : Value), (.int .u8 (0) : Value), (.int .u8 (0) : Value), (.int .u8 (0) : Value), (.int .u8 (0) : Value), (.int .u8 (0) : Value), (.int .u8 (0) : Value), (.int .u8 (0) : Value), (.int .u8 (0) : Value), (.int .u8 (0) : Value), (.int .u8 (0) : Value), (.int .u8 (0) : Value), (.int .u8 (0) : Value), (.int .u8 (0) : Value), (.int .u8 (0) : Value), (.int .u8 (0) : Value), (.int .u8 (0) : Value), (.int .u8 (0) : Value), (.int .u8 (0) : Value), (.int .u8 (0) : Value), (.int .u8 (0) : Value), (.int .u8 (0) : Value), (.int .u8 (0) : Value), (.int .u8 (0) : Value), (.int .u8 (0) : Value)] := by kernel_rfl
theorem Tryd.elem_68 : elemB Tryd.prog 68 = some (32, 32, 32) := by kernel_rfl
theorem Tryd.agg_69 : aggB Tryd.prog 69 = some false := by kernel_rfl
theorem Tryd.sz_69 : szB Tryd.prog 69 = some 1 := by kernel_rfl
theorem Tryd.zero_69 : zeroC Tryd.prog 69 = some [(.int .u32 (0) : Value)] := by kernel_rfl
theorem Tryd.elem_69 : elemB Tryd.prog 69 = some (1, 4, 1) := by kernel_rfl
theorem Tryd.agg_70 : aggB Tryd.prog 70 = some false := by kernel_rfl
theorem Tryd.sz_70 : szB Tryd.prog 70 = some 1 := by kernel_rfl
theorem Tryd.en_2 : enters Tryd.prog 2 = true := by kernel_rfl
theorem Tryd.en_3 : enters Tryd.prog 3 = true := by kernel_rfl
theorem Tryd.en_4 : enters Tryd.prog 4 = true := by kernel_rfl
theorem Tryd.en_5 : enters Tryd.prog 5 = true := by kernel_rfl
theorem Tryd.en_6 : enters Tryd.prog 6 = true := by kernel_rfl
theorem Tryd.en_7 : enters Tryd.prog 7 = true := by kernel_rfl
theorem Tryd.en_8 : enters Tryd.prog 8 = true := by kernel_rfl
theorem Tryd.en_9 : enters Tryd.prog 9 = true := by kernel_rfl
theorem Tryd.en_10 : enters Tryd.prog 10 = true := by kernel_rfl
theorem Tryd.en_11 : enters Tryd.prog 11 = true := by kernel_rfl
theorem Tryd.en_12 : enters Tryd.prog 12 = true := by kernel_rfl
theorem Tryd.en_13 : enters Tryd.prog 13 = true := by kernel_rfl
theorem Tryd.en_14 : enters Tryd.prog 14 = true := by kernel_rfl
theorem Tryd.en_15 : enters Tryd.prog 15 = true := by kernel_rfl
theorem Tryd.en_16 : enters Tryd.prog 16 = true := by kernel_rfl
theorem Tryd.en_17 : enters Tryd.prog 17 = true := by kernel_rfl
theorem Tryd.en_18 : enters Tryd.prog 18 = true := by kernel_rfl
theorem Tryd.en_19 : enters Tryd.prog 19 = true := by kernel_rfl
theorem Tryd.en_20 : enters Tryd.prog 20 = true := by kernel_rfl
theorem Tryd.en_21 : enters Tryd.prog 21 = true := by kernel_rfl
theorem Tryd.en_22 : enters Tryd.prog 22 = true := by kernel_rfl
theorem Tryd.en_23 : enters Tryd.prog 23 = true := by kernel_rfl
theorem Tryd.en_24 : enters Tryd.prog 24 = true := by kernel_rfl
theorem Tryd.en_25 : enters Tryd.prog 25 = true := by kernel_rfl
theorem Tryd.en_26 : enters Tryd.prog 26 = true := by kernel_rfl
theorem Tryd.en_27 : enters Tryd.prog 27 = true := by kernel_rfl
theorem Tryd.en_28 : enters Tryd.prog 28 = true := by kernel_rfl
theorem Tryd.en_29 : enters Tryd.prog 29 = true := by kernel_rfl
theorem Tryd.en_30 : enters Tryd.prog 30 = true := by kernel_rfl
theorem Tryd.en_31 : enters Tryd.prog 31 = true := by kernel_rfl
theorem Tryd.en_32 : enters Tryd.prog 32 = true := by kernel_rfl
theorem Tryd.en_33 : enters Tryd.prog 33 = true := by kernel_rfl
theorem Tryd.en_34 : enters Tryd.prog 34 = true := by kernel_rfl
theorem Tryd.en_35 : enters Tryd.prog 35 = true := by kernel_rfl
theorem Tryd.en_36 : enters Tryd.prog 36 = true := by kernel_rfl
theorem Tryd.en_37 : enters Tryd.prog 37 = true := by kernel_rfl
theorem Tryd.en_38 : enters Tryd.prog 38 = true := by kernel_rfl
theorem Tryd.en_39 : enters Tryd.prog 39 = true := by kernel_rfl
theorem Tryd.en_40 : enters Tryd.prog 40 = true := by kernel_rfl
theorem Tryd.en_41 : enters Tryd.prog 41 = true := by kernel_rfl
theorem Tryd.en_42 : enters Tryd.prog 42 = true := by kernel_rfl
theorem Tryd.en_43 : enters Tryd.prog 43 = true := by kernel_rfl
theorem Tryd.en_44 : enters Tryd.prog 44 = true := by kernel_rfl
theorem Tryd.en_45 : enters Tryd.prog 45 = true := by kernel_rfl
theorem Tryd.en_46 : enters Tryd.prog 46 = true := by kernel_rfl
theorem Tryd.en_47 : enters Tryd.prog 47 = true := by kernel_rfl
theorem Tryd.en_48 : enters Tryd.prog 48 = true := by kernel_rfl
theorem Tryd.en_49 : enters Tryd.prog 49 = true := by kernel_rfl
theorem Tryd.en_50 : enters Tryd.prog 50 = true := by kernel_rfl
theorem Tryd.en_51 : enters Tryd.prog 51 = true := by kernel_rfl
theorem Tryd.en_52 : enters Tryd.prog 52 = true := by kernel_rfl
theorem Tryd.en_53 : enters Tryd.prog 53 = true := by kernel_rfl
theorem Tryd.en_54 : enters Tryd.prog 54 = true := by kernel_rfl
theorem Tryd.en_55 : enters Tryd.prog 55 = true := by kernel_rfl
theorem Tryd.en_56 : enters Tryd.prog 56 = true := by kernel_rfl
theorem Tryd.en_57 : enters Tryd.prog 57 = true := by kernel_rfl
theorem Tryd.en_58 : enters Tryd.prog 58 = true := by kernel_rfl
theorem Tryd.en_59 : enters Tryd.prog 59 = true := by kernel_rfl
theorem Tryd.en_60 : enters Tryd.prog 60 = true := by kernel_rfl
theorem Tryd.en_61 : enters Tryd.prog 61 = true := by kernel_rfl
theorem Tryd.en_62 : enters Tryd.prog 62 = true := by kernel_rfl
theorem Tryd.en_63 : enters Tryd.prog 63 = true := by kernel_rfl
theorem Tryd.en_65 : enters Tryd.prog 65 = true := by kernel_rfl
theorem Tryd.en_66 : enters Tryd.prog 66 = true := by kernel_rfl
theorem Tryd.en_67 : enters Tryd.prog 67 = true := by kernel_rfl
theorem Tryd.en_68 : enters Tryd.prog 68 = true := by kernel_rfl
theorem Tryd.en_69 : enters Tryd.prog 69 = true := by kernel_rfl
theorem Tryd.en_70 : enters Tryd.prog 70 = true := by kernel_rfl
theorem Tryd.en_72 : enters Tryd.prog 72 = true := by kernel_rfl
theorem Tryd.en_73 : enters Tryd.prog 73 = true := by kernel_rfl
theorem Tryd.en_74 : enters Tryd.prog 74 = true := by kernel_rfl
theorem Tryd.en_75 : enters Tryd.prog 75 = true := by kernel_rfl
theorem Tryd.en_77 : enters Tryd.prog 77 = true := by kernel_rfl
theorem Tryd.en_78 : enters Tryd.prog 78 = true := by kernel_rfl
theorem Tryd.en_79 : enters Tryd.prog 79 = true := by kernel_rfl
theorem Tryd.en_100 : enters Tryd.prog 100 = true := by kernel_rfl
theorem Tryd.mixed : Tryd.prog.follows .mixedOrders = true := by kernel_rfl

end Go.Proofs.YtjmnnogpinggmaaDoor
