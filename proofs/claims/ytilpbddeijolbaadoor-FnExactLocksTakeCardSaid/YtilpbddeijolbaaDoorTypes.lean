/- Closed facts of the types and functions of this seat's translation. No conditions. -/
import Derived.Test.YtilpbddeijolbaaDoorBase
import Derived.Test.YtilpbddeijolbaaDoorG2
namespace Go.Proofs.YtilpbddeijolbaaDoor
open Go.RowKit
theorem Tryd.agg_0 : aggB Tryd.prog 0 = some false := by kernel_rfl
theorem Tryd.sz_0 : szB Tryd.prog 0 = some 1 := by kernel_rfl
theorem Tryd.agg_3 : aggB Tryd.prog 3 = some false := by kernel_rfl
theorem Tryd.sz_3 : szB Tryd.prog 3 = some 1 := by kernel_rfl
theorem Tryd.zero_3 : zeroC Tryd.prog 3 = some [(.int .i64 (0) : Value)] := by kernel_rfl
theorem Tryd.elem_3 : elemB Tryd.prog 3 = some (1, 8, 1) := by kernel_rfl
theorem Tryd.agg_4 : aggB Tryd.prog 4 = some false := by kernel_rfl
theorem Tryd.sz_4 : szB Tryd.prog 4 = some 1 := by kernel_rfl
theorem Tryd.zero_4 : zeroC Tryd.prog 4 = some [(.bool false : Value)] := by kernel_rfl
theorem Tryd.elem_4 : elemB Tryd.prog 4 = some (1, 1, 1) := by kernel_rfl
theorem Tryd.agg_5 : aggB Tryd.prog 5 = some false := by kernel_rfl
theorem Tryd.sz_5 : szB Tryd.prog 5 = some 1 := by kernel_rfl
theorem Tryd.zero_5 : zeroC Tryd.prog 5 = some [(.int .u8 (0) : Value)] := by kernel_rfl
theorem Tryd.elem_5 : elemB Tryd.prog 5 = some (1, 1, 1) := by kernel_rfl
theorem Tryd.agg_9 : aggB Tryd.prog 9 = some false := by kernel_rfl
theorem Tryd.sz_9 : szB Tryd.prog 9 = some 1 := by kernel_rfl
theorem Tryd.zero_9 : zeroC Tryd.prog 9 = some [(.string (bs ([])) : Value)] := by kernel_rfl
theorem Tryd.elem_9 : elemB Tryd.prog 9 = some (1, 16, 1) := by kernel_rfl
theorem Tryd.agg_20 : aggB Tryd.prog 20 = some false := by kernel_rfl
theorem Tryd.sz_20 : szB Tryd.prog 20 = some 1 := by kernel_rfl
theorem Tryd.zero_20 : zeroC Tryd.prog 20 = some [(.nilIface : Value)] := by kernel_rfl
theorem Tryd.elem_20 : elemB Tryd.prog 20 = some (1, 16, 1) := by kernel_rfl
theorem Tryd.agg_22 : aggB Tryd.prog 22 = some false := by kernel_rfl
theorem Tryd.sz_22 : szB Tryd.prog 22 = some 1 := by kernel_rfl
theorem Tryd.zero_22 : zeroC Tryd.prog 22 = some [(.slice none 0 0 : Value)] := by kernel_rfl
theorem Tryd.elem_22 : elemB Tryd.prog 22 = some (1, 24, 1) := by kernel_rfl
theorem Tryd.agg_23 : aggB Tryd.prog 23 = some false := by kernel_rfl
theorem Tryd.sz_23 : szB Tryd.prog 23 = some 1 := by kernel_rfl
theorem Tryd.zero_23 : zeroC Tryd.prog 23 = some [(.slice none 0 0 : Value)] := by kernel_rfl
theorem Tryd.elem_23 : elemB Tryd.prog 23 = some (1, 24, 1) := by kernel_rfl
theorem Tryd.agg_25 : aggB Tryd.prog 25 = some false := by kernel_rfl
theorem Tryd.sz_25 : szB Tryd.prog 25 = some 1 := by kernel_rfl
theorem Tryd.agg_28 : aggB Tryd.prog 28 = some false := by kernel_rfl
theorem Tryd.sz_28 : szB Tryd.prog 28 = some 1 := by kernel_rfl
theorem Tryd.zero_28 : zeroC Tryd.prog 28 = some [(.slice none 0 0 : Value)] := by kernel_rfl
theorem Tryd.elem_28 : elemB Tryd.prog 28 = some (1, 24, 1) := by kernel_rfl
theorem Tryd.agg_35 : aggB Tryd.prog 35 = some false := by kernel_rfl
theorem Tryd.sz_35 : szB Tryd.prog 35 = some 1 := by kernel_rfl
theorem Tryd.zero_35 : zeroC Tryd.prog 35 = some [(.slice none 0 0 : Value)] := by kernel_rfl
theorem Tryd.elem_35 : elemB Tryd.prog 35 = some (1, 24, 1) := by kernel_rfl
theorem Tryd.agg_36 : aggB Tryd.prog 36 = some false := by kernel_rfl
theorem Tryd.sz_36 : szB Tryd.prog 36 = some 1 := by kernel_rfl
theorem Tryd.agg_38 : aggB Tryd.prog 38 = some true := by kernel_rfl
theorem Tryd.sz_38 : szB Tryd.prog 38 = some 3 := by kernel_rfl
theorem Tryd.zero_38 : zeroC Tryd.prog 38 = some [(.int .i64 (0) : Value), (.int .i64 (0) : Value), (.int .i64 (0) : Value)] := by kernel_rfl
theorem Tryd.elem_38 : elemB Tryd.prog 38 = some (3, 24, 3) := by kernel_rfl
theorem Tryd.places_38 : placesB Tryd.prog 38 = some ([(.int .i64 (0) : Value), (.int .i64 (0) : Value), (.int .i64 (0) : Value)], [(0, 1), (1, 1), (2, 1)]) := by kernel_rfl
theorem Tryd.ints_38 : intsB Tryd.prog 38 3 = true := by kernel_rfl
theorem Tryd.foff_38_0 : foff Tryd.prog 38 0 = some 0 := by kernel_rfl
theorem Tryd.fty_38_0 : ftyB Tryd.prog 38 0 = some 0 := by kernel_rfl
theorem Tryd.foff_38_1 : foff Tryd.prog 38 1 = some 1 := by kernel_rfl
theorem Tryd.fty_38_1 : ftyB Tryd.prog 38 1 = some 1 := by kernel_rfl
theorem Tryd.foff_38_2 : foff Tryd.prog 38 2 = some 2 := by kernel_rfl
theorem Tryd.fty_38_2 : ftyB Tryd.prog 38 2 = some 2 := by kernel_rfl
theorem Tryd.agg_39 : aggB Tryd.prog 39 = some true := by kernel_rfl
theorem Tryd.sz_39 : szB Tryd.prog 39 = some 3 := by kernel_rfl
theorem Tryd.zero_39 : zeroC Tryd.prog 39 = some [(.int .i64 (0) : Value), (.int .i64 (0) : Value), (.int .i64 (0) : Value)] := by kernel_rfl
theorem Tryd.elem_39 : elemB Tryd.prog 39 = some (3, 24, 3) := by kernel_rfl
theorem Tryd.places_39 : placesB Tryd.prog 39 = some ([(.int .i64 (0) : Value), (.int .i64 (0) : Value), (.int .i64 (0) : Value)], [(0, 1), (1, 1), (2, 1)]) := by kernel_rfl
theorem Tryd.ints_39 : intsB Tryd.prog 39 3 = true := by kernel_rfl
theorem Tryd.foff_39_0 : foff Tryd.prog 39 0 = some 0 := by kernel_rfl
theorem Tryd.fty_39_0 : ftyB Tryd.prog 39 0 = some 0 := by kernel_rfl
theorem Tryd.foff_39_1 : foff Tryd.prog 39 1 = some 1 := by kernel_rfl
theorem Tryd.fty_39_1 : ftyB Tryd.prog 39 1 = some 1 := by kernel_rfl
theorem Tryd.foff_39_2 : foff Tryd.prog 39 2 = some 2 := by kernel_rfl
theorem Tryd.fty_39_2 : ftyB Tryd.prog 39 2 = some 2 := by kernel_rfl
theorem Tryd.agg_42 : aggB Tryd.prog 42 = some false := by kernel_rfl
theorem Tryd.sz_42 : szB Tryd.prog 42 = some 1 := by kernel_rfl
theorem Tryd.agg_45 : aggB Tryd.prog 45 = some true := by kernel_rfl
theorem Tryd.sz_45 : szB Tryd.prog 45 = some 3 := by kernel_rfl
theorem Tryd.zero_45 : zeroC Tryd.prog 45 = some [(.int .i64 (0) : Value), (.int .i64 (0) : Value), (.int .i64 (0) : Value)] := by kernel_rfl
theorem Tryd.elem_45 : elemB Tryd.prog 45 = some (3, 24, 3) := by kernel_rfl
theorem Tryd.places_45 : placesB Tryd.prog 45 = some ([(.int .i64 (0) : Value), (.int .i64 (0) : Value), (.int .i64 (0) : Value)], [(0, 1), (1, 1), (2, 1)]) := by kernel_rfl
theorem Tryd.ints_45 : intsB Tryd.prog 45 3 = true := by kernel_rfl
theorem Tryd.foff_45_0 : foff Tryd.prog 45 0 = some 0 := by kernel_rfl
theorem Tryd.fty_45_0 : ftyB Tryd.prog 45 0 = some 0 := by kernel_rfl
theorem Tryd.foff_45_1 : foff Tryd.prog 45 1 = some 1 := by kernel_rfl
theorem Tryd.fty_45_1 : ftyB Tryd.prog 45 1 = some 1 := by kernel_rfl
theorem Tryd.foff_45_2 : foff Tryd.prog 45 2 = some 2 := by kernel_rfl
theorem Tryd.fty_45_2 : ftyB Tryd.prog 45 2 = some 2 := by kernel_rfl
theorem Tryd.agg_47 : aggB Tryd.prog 47 = some false := by kernel_rfl
theorem Tryd.sz_47 : szB Tryd.prog 47 = some 1 := by kernel_rfl
theorem Tryd.zero_47 : zeroC Tryd.prog 47 = some [(.nilIface : Value)] := by kernel_rfl
theorem Tryd.elem_47 : elemB Tryd.prog 47 = some (1, 16, 1) := by kernel_rfl
theorem Tryd.agg_48 : aggB Tryd.prog 48 = some false := by kernel_rfl
theorem Tryd.sz_48 : szB Tryd.prog 48 = some 1 := by kernel_rfl
theorem Tryd.zero_48 : zeroC Tryd.prog 48 = some [(.nilIface : Value)] := by kernel_rfl
theorem Tryd.elem_48 : elemB Tryd.prog 48 = some (1, 16, 1) := by kernel_rfl
theorem Tryd.agg_51 : aggB Tryd.prog 51 = some false := by kernel_rfl
theorem Tryd.sz_51 : szB Tryd.prog 51 = some 1 := by kernel_rfl
theorem Tryd.zero_51 : zeroC Tryd.prog 51 = some [(.pointer none : Value)] := by kernel_rfl
theorem Tryd.elem_51 : elemB Tryd.prog 51 = some (1, 8, 1) := by kernel_rfl
theorem Tryd.agg_58 : aggB Tryd.prog 58 = some false := by kernel_rfl
theorem Tryd.sz_58 : szB Tryd.prog 58 = some 1 := by kernel_rfl
theorem Tryd.zero_58 : zeroC Tryd.prog 58 = some [(.nilIface : Value)] := by kernel_rfl
theorem Tryd.elem_58 : elemB Tryd.prog 58 = some (1, 16, 1) := by kernel_rfl
theorem Tryd.agg_59 : aggB Tryd.prog 59 = some false := by kernel_rfl
theorem Tryd.sz_59 : szB Tryd.prog 59 = some 1 := by kernel_rfl
theorem Tryd.zero_59 : zeroC Tryd.prog 59 = some [(.nilIface : Value)] := by kernel_rfl
theorem Tryd.elem_59 : elemB Tryd.prog 59 = some (1, 16, 1) := by kernel_rfl
theorem Tryd.agg_63 : aggB Tryd.prog 63 = some true := by kernel_rfl
theorem Tryd.sz_63 : szB Tryd.prog 63 = some 2 := by kernel_rfl
theorem Tryd.zero_63 : zeroC Tryd.prog 63 = some [(.slice none 0 0 : Value), (.int .i64 (0) : Value)] := by kernel_rfl
theorem Tryd.elem_63 : elemB Tryd.prog 63 = some (2, 32, 2) := by kernel_rfl
theorem Tryd.places_63 : placesB Tryd.prog 63 = some ([(.slice none 0 0 : Value), (.int .i64 (0) : Value)], [(0, 1), (1, 1)]) := by kernel_rfl
theorem Tryd.foff_63_0 : foff Tryd.prog 63 0 = some 0 := by kernel_rfl
theorem Tryd.fty_63_0 : ftyB Tryd.prog 63 0 = some 0 := by kernel_rfl
theorem Tryd.foff_63_1 : foff Tryd.prog 63 1 = some 1 := by kernel_rfl
theorem Tryd.fty_63_1 : ftyB Tryd.prog 63 1 = some 1 := by kernel_rfl
theorem Tryd.agg_64 : aggB Tryd.prog 64 = some true := by kernel_rfl
theorem Tryd.sz_64 : szB Tryd.prog 64 = some 2 := by kernel_rfl
theorem Tryd.zero_64 : zeroC Tryd.prog 64 = some [(.slice none 0 0 : Value), (.int .i64 (0) : Value)] := by kernel_rfl
theorem Tryd.elem_64 : elemB Tryd.prog 64 = some (2, 32, 2) := by kernel_rfl
theorem Tryd.places_64 : placesB Tryd.prog 64 = some ([(.slice none 0 0 : Value), (.int .i64 (0) : Value)], [(0, 1), (1, 1)]) := by kernel_rfl
theorem Tryd.foff_64_0 : foff Tryd.prog 64 0 = some 0 := by kernel_rfl
theorem Tryd.fty_64_0 : ftyB Tryd.prog 64 0 = some 0 := by kernel_rfl
theorem Tryd.foff_64_1 : foff Tryd.prog 64 1 = some 1 := by kernel_rfl
theorem Tryd.fty_64_1 : ftyB Tryd.prog 64 1 = some 1 := by kernel_rfl
theorem Tryd.agg_70 : aggB Tryd.prog 70 = some false := by kernel_rfl
theorem Tryd.sz_70 : szB Tryd.prog 70 = some 1 := by kernel_rfl
theorem Tryd.zero_70 : zeroC Tryd.prog 70 = some [(.nilIface : Value)] := by kernel_rfl
theorem Tryd.elem_70 : elemB Tryd.prog 70 = some (1, 16, 1) := by kernel_rfl
theorem Tryd.agg_71 : aggB Tryd.prog 71 = some false := by kernel_rfl
theorem Tryd.sz_71 : szB Tryd.prog 71 = some 1 := by kernel_rfl
theorem Tryd.agg_73 : aggB Tryd.prog 73 = some false := by kernel_rfl
theorem Tryd.sz_73 : szB Tryd.prog 73 = some 1 := by kernel_rfl
theorem Tryd.zero_73 : zeroC Tryd.prog 73 = some [(.nilIface : Value)] := by kernel_rfl
theorem Tryd.elem_73 : elemB Tryd.prog 73 = some (1, 16, 1) := by kernel_rfl
theorem Tryd.agg_75 : aggB Tryd.prog 75 = some false := by kernel_rfl
theorem Tryd.sz_75 : szB Tryd.prog 75 = some 1 := by kernel_rfl
theorem Tryd.zero_75 : zeroC Tryd.prog 75 = some [(.nilIface : Value)] := by kernel_rfl
theorem Tryd.elem_75 : elemB Tryd.prog 75 = some (1, 16, 1) := by kernel_rfl
theorem Tryd.agg_76 : aggB Tryd.prog 76 = some false := by kernel_rfl
theorem Tryd.sz_76 : szB Tryd.prog 76 = some 1 := by kernel_rfl
theorem Tryd.zero_76 : zeroC Tryd.prog 76 = some [(.slice none 0 0 : Value)] := by kernel_rfl
theorem Tryd.elem_76 : elemB Tryd.prog 76 = some (1, 24, 1) := by kernel_rfl
theorem Tryd.agg_78 : aggB Tryd.prog 78 = some false := by kernel_rfl
theorem Tryd.sz_78 : szB Tryd.prog 78 = some 1 := by kernel_rfl
theorem Tryd.zero_78 : zeroC Tryd.prog 78 = some [(.pointer none : Value)] := by kernel_rfl
theorem Tryd.elem_78 : elemB Tryd.prog 78 = some (1, 8, 1) := by kernel_rfl
theorem Tryd.agg_103 : aggB Tryd.prog 103 = some true := by kernel_rfl
theorem Tryd.sz_103 : szB Tryd.prog 103 = some 1 := by kernel_rfl
theorem Tryd.zero_103 : zeroC Tryd.prog 103 = some [(.string (bs ([])) : Value)] := by kernel_rfl
theorem Tryd.elem_103 : elemB Tryd.prog 103 = some (1, 16, 1) := by kernel_rfl
theorem Tryd.places_103 : placesB Tryd.prog 103 = some ([(.string (bs ([])) : Value)], [(0, 1)]) := by kernel_rfl
theorem Tryd.foff_103_0 : foff Tryd.prog 103 0 = some 0 := by kernel_rfl
theorem Tryd.fty_103_0 : ftyB Tryd.prog 103 0 = some 0 := by kernel_rfl
theorem Tryd.agg_104 : aggB Tryd.prog 104 = some true := by kernel_rfl
theorem Tryd.sz_104 : szB Tryd.prog 104 = some 1 := by kernel_rfl
theorem Tryd.zero_104 : zeroC Tryd.prog 104 = some [(.string (bs ([])) : Value)] := by kernel_rfl
theorem Tryd.elem_104 : elemB Tryd.prog 104 = some (1, 16, 1) := by kernel_rfl
theorem Tryd.places_104 : placesB Tryd.prog 104 = some ([(.string (bs ([])) : Value)], [(0, 1)]) := by kernel_rfl
theorem Tryd.foff_104_0 : foff Tryd.prog 104 0 = some 0 := by kernel_rfl
theorem Tryd.fty_104_0 : ftyB Tryd.prog 104 0 = some 0 := by kernel_rfl
theorem Tryd.en_2 : enters Tryd.prog 2 = true := by kernel_rfl
theorem Tryd.en_3 : enters Tryd.prog 3 = true := by kernel_rfl
theorem Tryd.en_4 : enters Tryd.prog 4 = true := by kernel_rfl
theorem Tryd.en_5 : enters Tryd.prog 5 = true := by kernel_rfl
theorem Tryd.en_6 : enters Tryd.prog 6 = true := by kernel_rfl
theorem Tryd.en_7 : enters Tryd.prog 7 = true := by kernel_rfl
theorem Tryd.en_8 : enters Tryd.prog 8 = true := by kernel_rfl
theorem Tryd.en_9 : enters Tryd.prog 9 = true := by kernel_rfl
theorem Tryd.en_10 : enters Tryd.prog 10 = true := by kernel_rfl
theorem Tryd.en_11 : enters Tryd.prog 11 = true := by kernel_rfl
theorem Tryd.en_12 : enters Tryd.prog 12 = true := by kernel_rfl
theorem Tryd.en_13 : enters Tryd.prog 13 = true := by kernel_rfl
theorem Tryd.en_14 : enters Tryd.prog 14 = true := by kernel_rfl
theorem Tryd.en_15 : enters Tryd.prog 15 = true := by kernel_rfl
theorem Tryd.en_16 : enters Tryd.prog 16 = true := by kernel_rfl
theorem Tryd.en_17 : enters Tryd.prog 17 = true := by kernel_rfl
theorem Tryd.en_18 : enters Tryd.prog 18 = true := by kernel_rfl
theorem Tryd.en_19 : enters Tryd.prog 19 = true := by kernel_rfl
theorem Tryd.en_20 : enters Tryd.prog 20 = true := by kernel_rfl
theorem Tryd.en_21 : enters Tryd.prog 21 = true := by kernel_rfl
theorem Tryd.en_22 : enters Tryd.prog 22 = true := by kernel_rfl
theorem Tryd.en_23 : enters Tryd.prog 23 = true := by kernel_rfl
theorem Tryd.en_24 : enters Tryd.prog 24 = true := by kernel_rfl
theorem Tryd.en_25 : enters Tryd.prog 25 = true := by kernel_rfl
theorem Tryd.en_26 : enters Tryd.prog 26 = true := by kernel_rfl
theorem Tryd.en_27 : enters Tryd.prog 27 = true := by kernel_rfl
theorem Tryd.en_28 : enters Tryd.prog 28 = true := by kernel_rfl
theorem Tryd.en_29 : enters Tryd.prog 29 = true := by kernel_rfl
theorem Tryd.en_30 : enters Tryd.prog 30 = true := by kernel_rfl
theorem Tryd.en_31 : enters Tryd.prog 31 = true := by kernel_rfl
theorem Tryd.en_32 : enters Tryd.prog 32 = true := by kernel_rfl
theorem Tryd.en_33 : enters Tryd.prog 33 = true := by kernel_rfl
theorem Tryd.en_34 : enters Tryd.prog 34 = true := by kernel_rfl
theorem Tryd.en_35 : enters Tryd.prog 35 = true := by kernel_rfl
theorem Tryd.en_36 : enters Tryd.prog 36 = true := by kernel_rfl
theorem Tryd.en_37 : enters Tryd.prog 37 = true := by kernel_rfl
theorem Tryd.en_38 : enters Tryd.prog 38 = true := by kernel_rfl
theorem Tryd.en_39 : enters Tryd.prog 39 = true := by kernel_rfl
theorem Tryd.en_41 : enters Tryd.prog 41 = true := by kernel_rfl
theorem Tryd.en_42 : enters Tryd.prog 42 = true := by kernel_rfl
theorem Tryd.en_43 : enters Tryd.prog 43 = true := by kernel_rfl
theorem Tryd.en_44 : enters Tryd.prog 44 = true := by kernel_rfl
theorem Tryd.en_75 : enters Tryd.prog 75 = true := by kernel_rfl
theorem Tryd.en_79 : enters Tryd.prog 79 = true := by kernel_rfl
theorem Tryd.mixed : Tryd.prog.follows .mixedOrders = true := by kernel_rfl

end Go.Proofs.YtilpbddeijolbaaDoor
