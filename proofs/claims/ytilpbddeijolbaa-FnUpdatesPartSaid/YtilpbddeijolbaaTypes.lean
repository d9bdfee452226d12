/- Closed facts of the types and functions of this seat's translation. No conditions. -/
import Derived.Test.YtilpbddeijolbaaBase
import Derived.Test.YtilpbddeijolbaaG2
namespace Go.Proofs.Ytilpbddeijolbaa
open Go.RowKit
theorem Try.agg_0 : aggB Try.prog 0 = some false := by kernel_rfl
theorem Try.sz_0 : szB Try.prog 0 = some 1 := by kernel_rfl
theorem Try.agg_3 : aggB Try.prog 3 = some false := by kernel_rfl
theorem Try.sz_3 : szB Try.prog 3 = some 1 := by kernel_rfl
theorem Try.zero_3 : zeroC Try.prog 3 = some [(.int .i64 (0) : Value)] := by kernel_rfl
theorem Try.elem_3 : elemB Try.prog 3 = some (1, 8, 1) := by kernel_rfl
theorem Try.agg_4 : aggB Try.prog 4 = some false := by kernel_rfl
theorem Try.sz_4 : szB Try.prog 4 = some 1 := by kernel_rfl
theorem Try.zero_4 : zeroC Try.prog 4 = some [(.bool false : Value)] := by kernel_rfl
theorem Try.elem_4 : elemB Try.prog 4 = some (1, 1, 1) := by kernel_rfl
theorem Try.agg_5 : aggB Try.prog 5 = some false := by kernel_rfl
theorem Try.sz_5 : szB Try.prog 5 = some 1 := by kernel_rfl
theorem Try.zero_5 : zeroC Try.prog 5 = some [(.int .u8 (0) : Value)] := by kernel_rfl
theorem Try.elem_5 : elemB Try.prog 5 = some (1, 1, 1) := by kernel_rfl
theorem Try.agg_22 : aggB Try.prog 22 = some false := by kernel_rfl
theorem Try.sz_22 : szB Try.prog 22 = some 1 := by kernel_rfl
theorem Try.zero_22 : zeroC Try.prog 22 = some [(.slice none 0 0 : Value)] := by kernel_rfl
theorem Try.elem_22 : elemB Try.prog 22 = some (1, 24, 1) := by kernel_rfl
theorem Try.agg_26 : aggB Try.prog 26 = some false := by kernel_rfl
theorem Try.sz_26 : szB Try.prog 26 = some 1 := by kernel_rfl
theorem Try.zero_26 : zeroC Try.prog 26 = some [(.slice none 0 0 : Value)] := by kernel_rfl
theorem Try.elem_26 : elemB Try.prog 26 = some (1, 24, 1) := by kernel_rfl
theorem Try.agg_29 : aggB Try.prog 29 = some false := by kernel_rfl
theorem Try.sz_29 : szB Try.prog 29 = some 1 := by kernel_rfl
theorem Try.zero_29 : zeroC Try.prog 29 = some [(.slice none 0 0 : Value)] := by kernel_rfl
theorem Try.elem_29 : elemB Try.prog 29 = some (1, 24, 1) := by kernel_rfl
theorem Try.agg_32 : aggB Try.prog 32 = some false := by kernel_rfl
theorem Try.sz_32 : szB Try.prog 32 = some 1 := by kernel_rfl
theorem Try.zero_32 : zeroC Try.prog 32 = some [(.slice none 0 0 : Value)] := by kernel_rfl
theorem Try.elem_32 : elemB Try.prog 32 = some (1, 24, 1) := by kernel_rfl
theorem Try.agg_42 : aggB Try.prog 42 = some false := by kernel_rfl
theorem Try.sz_42 : szB Try.prog 42 = some 1 := by kernel_rfl
theorem Try.agg_44 : aggB Try.prog 44 = some false := by kernel_rfl
theorem Try.sz_44 : szB Try.prog 44 = some 1 := by kernel_rfl
theorem Try.agg_48 : aggB Try.prog 48 = some false := by kernel_rfl
theorem Try.sz_48 : szB Try.prog 48 = some 1 := by kernel_rfl
theorem Try.agg_50 : aggB Try.prog 50 = some true := by kernel_rfl
theorem Try.sz_50 : szB Try.prog 50 = some 3 := by kernel_rfl
theorem Try.zero_50 : zeroC Try.prog 50 = some [(.int .i64 (0) : Value), (.int .i64 (0) : Value), (.int .i64 (0) : Value)] := by kernel_rfl
theorem Try.elem_50 : elemB Try.prog 50 = some (3, 24, 3) := by kernel_rfl
theorem Try.places_50 : placesB Try.prog 50 = some ([(.int .i64 (0) : Value), (.int .i64 (0) : Value), (.int .i64 (0) : Value)], [(0, 1), (1, 1), (2, 1)]) := by kernel_rfl
theorem Try.ints_50 : intsB Try.prog 50 3 = true := by kernel_rfl
theorem Try.foff_50_0 : foff Try.prog 50 0 = some 0 := by kernel_rfl
theorem Try.fty_50_0 : ftyB Try.prog 50 0 = some 0 := by kernel_rfl
theorem Try.foff_50_1 : foff Try.prog 50 1 = some 1 := by kernel_rfl
theorem Try.fty_50_1 : ftyB Try.prog 50 1 = some 1 := by kernel_rfl
theorem Try.foff_50_2 : foff Try.prog 50 2 = some 2 := by kernel_rfl
theorem Try.fty_50_2 : ftyB Try.prog 50 2 = some 2 := by kernel_rfl
theorem Try.agg_51 : aggB Try.prog 51 = some true := by kernel_rfl
theorem Try.sz_51 : szB Try.prog 51 = some 3 := by kernel_rfl
theorem Try.zero_51 : zeroC Try.prog 51 = some [(.int .i64 (0) : Value), (.int .i64 (0) : Value), (.int .i64 (0) : Value)] := by kernel_rfl
theorem Try.elem_51 : elemB Try.prog 51 = some (3, 24, 3) := by kernel_rfl
theorem Try.places_51 : placesB Try.prog 51 = some ([(.int .i64 (0) : Value), (.int .i64 (0) : Value), (.int .i64 (0) : Value)], [(0, 1), (1, 1), (2, 1)]) := by kernel_rfl
theorem Try.ints_51 : intsB Try.prog 51 3 = true := by kernel_rfl
theorem Try.foff_51_0 : foff Try.prog 51 0 = some 0 := by kernel_rfl
theorem Try.fty_51_0 : ftyB Try.prog 51 0 = some 0 := by kernel_rfl
theorem Try.foff_51_1 : foff Try.prog 51 1 = some 1 := by kernel_rfl
theorem Try.fty_51_1 : ftyB Try.prog 51 1 = some 1 := by kernel_rfl
theorem Try.foff_51_2 : foff Try.prog 51 2 = some 2 := by kernel_rfl
theorem Try.fty_51_2 : ftyB Try.prog 51 2 = some 2 := by kernel_rfl
theorem Try.agg_53 : aggB Try.prog 53 = some false := by kernel_rfl
theorem Try.sz_53 : szB Try.prog 53 = some 1 := by kernel_rfl
theorem Try.agg_57 : aggB Try.prog 57 = some false := by kernel_rfl
theorem Try.sz_57 : szB Try.prog 57 = some 1 := by kernel_rfl
theorem Try.agg_59 : aggB Try.prog 59 = some false := by kernel_rfl
theorem Try.sz_59 : szB Try.prog 59 = some 1 := by kernel_rfl
theorem Try.zero_59 : zeroC Try.prog 59 = some [(.pointer none : Value)] := by kernel_rfl
theorem Try.elem_59 : elemB Try.prog 59 = some (1, 8, 1) := by kernel_rfl
theorem Try.agg_62 : aggB Try.prog 62 = some true := by kernel_rfl
theorem Try.sz_62 : szB Try.prog 62 = some 3 := by kernel_rfl
theorem Try.zero_62 : zeroC Try.prog 62 = some [(.int .i64 (0) : Value), (.int .i64 (0) : Value), (.int .i64 (0) : Value)] := by kernel_rfl
theorem Try.elem_62 : elemB Try.prog 62 = some (3, 24, 3) := by kernel_rfl
theorem Try.places_62 : placesB Try.prog 62 = some ([(.int .i64 (0) : Value), (.int .i64 (0) : Value), (.int .i64 (0) : Value)], [(0, 1), (1, 1), (2, 1)]) := by kernel_rfl
theorem Try.ints_62 : intsB Try.prog 62 3 = true := by kernel_rfl
theorem Try.foff_62_0 : foff Try.prog 62 0 = some 0 := by kernel_rfl
theorem Try.fty_62_0 : ftyB Try.prog 62 0 = some 0 := by kernel_rfl
theorem Try.foff_62_1 : foff Try.prog 62 1 = some 1 := by kernel_rfl
theorem Try.fty_62_1 : ftyB Try.prog 62 1 = some 1 := by kernel_rfl
theorem Try.foff_62_2 : foff Try.prog 62 2 = some 2 := by kernel_rfl
theorem Try.fty_62_2 : ftyB Try.prog 62 2 = some 2 := by kernel_rfl
theorem Try.agg_66 : aggB Try.prog 66 = some false := by kernel_rfl
theorem Try.sz_66 : szB Try.prog 66 = some 1 := by kernel_rfl
theorem Try.agg_70 : aggB Try.prog 70 = some true := by kernel_rfl
theorem Try.sz_70 : szB Try.prog 70 = some 2 := by kernel_rfl
theorem Try.zero_70 : zeroC Try.prog 70 = some [(.slice none 0 0 : Value), (.int .i64 (0) : Value)] := by kernel_rfl
theorem Try.elem_70 : elemB Try.prog 70 = some (2, 32, 2) := by kernel_rfl
theorem Try.places_70 : placesB Try.prog 70 = some ([(.slice none 0 0 : Value), (.int .i64 (0) : Value)], [(0, 1), (1, 1)]) := by kernel_rfl
theorem Try.foff_70_0 : foff Try.prog 70 0 = some 0 := by kernel_rfl
theorem Try.fty_70_0 : ftyB Try.prog 70 0 = some 0 := by kernel_rfl
theorem Try.foff_70_1 : foff Try.prog 70 1 = some 1 := by kernel_rfl
theorem Try.fty_70_1 : ftyB Try.prog 70 1 = some 1 := by kernel_rfl
theorem Try.agg_71 : aggB Try.prog 71 = some true := by kernel_rfl
theorem Try.sz_71 : szB Try.prog 71 = some 2 := by kernel_rfl
theorem Try.zero_71 : zeroC Try.prog 71 = some [(.slice none 0 0 : Value), (.int .i64 (0) : Value)] := by kernel_rfl
theorem Try.elem_71 : elemB Try.prog 71 = some (2, 32, 2) := by kernel_rfl
theorem Try.places_71 : placesB Try.prog 71 = some ([(.slice none 0 0 : Value), (.int .i64 (0) : Value)], [(0, 1), (1, 1)]) := by kernel_rfl
theorem Try.foff_71_0 : foff Try.prog 71 0 = some 0 := by kernel_rfl
theorem Try.fty_71_0 : ftyB Try.prog 71 0 = some 0 := by kernel_rfl
theorem Try.foff_71_1 : foff Try.prog 71 1 = some 1 := by kernel_rfl
theorem Try.fty_71_1 : ftyB Try.prog 71 1 = some 1 := by kernel_rfl
theorem Try.en_2 : enters Try.prog 2 = true := by kernel_rfl
theorem Try.en_3 : enters Try.prog 3 = true := by kernel_rfl
theorem Try.en_4 : enters Try.prog 4 = true := by kernel_rfl
theorem Try.en_5 : enters Try.prog 5 = true := by kernel_rfl
theorem Try.en_6 : enters Try.prog 6 = true := by kernel_rfl
theorem Try.en_7 : enters Try.prog 7 = true := by kernel_rfl
theorem Try.en_8 : enters Try.prog 8 = true := by kernel_rfl
theorem Try.en_9 : enters Try.prog 9 = true := by kernel_rfl
theorem Try.en_10 : enters Try.prog 10 = true := by kernel_rfl
theorem Try.en_11 : enters Try.prog 11 = true := by kernel_rfl
theorem Try.en_12 : enters Try.prog 12 = true := by kernel_rfl
theorem Try.en_13 : enters Try.prog 13 = true := by kernel_rfl
theorem Try.en_14 : enters Try.prog 14 = true := by kernel_rfl
theorem Try.en_15 : enters Try.prog 15 = true := by kernel_rfl
theorem Try.en_16 : enters Try.prog 16 = true := by kernel_rfl
theorem Try.en_17 : enters Try.prog 17 = true := by kernel_rfl
theorem Try.en_18 : enters Try.prog 18 = true := by kernel_rfl
theorem Try.en_19 : enters Try.prog 19 = true := by kernel_rfl
theorem Try.en_20 : enters Try.prog 20 = true := by kernel_rfl
theorem Try.en_21 : enters Try.prog 21 = true := by kernel_rfl
theorem Try.en_22 : enters Try.prog 22 = true := by kernel_rfl
theorem Try.en_23 : enters Try.prog 23 = true := by kernel_rfl
theorem Try.en_24 : enters Try.prog 24 = true := by kernel_rfl
theorem Try.en_25 : enters Try.prog 25 = true := by kernel_rfl
theorem Try.en_26 : enters Try.prog 26 = true := by kernel_rfl
theorem Try.en_27 : enters Try.prog 27 = true := by kernel_rfl
theorem Try.en_28 : enters Try.prog 28 = true := by kernel_rfl
theorem Try.en_29 : enters Try.prog 29 = true := by kernel_rfl
theorem Try.en_30 : enters Try.prog 30 = true := by kernel_rfl
theorem Try.en_31 : enters Try.prog 31 = true := by kernel_rfl
theorem Try.en_32 : enters Try.prog 32 = true := by kernel_rfl
theorem Try.en_33 : enters Try.prog 33 = true := by kernel_rfl
theorem Try.en_34 : enters Try.prog 34 = true := by kernel_rfl
theorem Try.en_35 : enters Try.prog 35 = true := by kernel_rfl
theorem Try.en_36 : enters Try.prog 36 = true := by kernel_rfl
theorem Try.en_37 : enters Try.prog 37 = true := by kernel_rfl
theorem Try.en_38 : enters Try.prog 38 = true := by kernel_rfl
theorem Try.en_39 : enters Try.prog 39 = true := by kernel_rfl
theorem Try.en_40 : enters Try.prog 40 = true := by kernel_rfl
theorem Try.en_41 : enters Try.prog 41 = true := by kernel_rfl
theorem Try.en_42 : enters Try.prog 42 = true := by kernel_rfl
theorem Try.en_43 : enters Try.prog 43 = true := by kernel_rfl
theorem Try.en_44 : enters Try.prog 44 = true := by kernel_rfl
theorem Try.en_45 : enters Try.prog 45 = true := by kernel_rfl
theorem Try.en_46 : enters Try.prog 46 = true := by kernel_rfl
theorem Try.en_47 : enters Try.prog 47 = true := by kernel_rfl
theorem Try.en_48 : enters Try.prog 48 = true := by kernel_rfl
theorem Try.en_49 : enters Try.prog 49 = true := by kernel_rfl
theorem Try.en_50 : enters Try.prog 50 = true := by kernel_rfl
theorem Try.en_51 : enters Try.prog 51 = true := by kernel_rfl
theorem Try.en_52 : enters Try.prog 52 = true := by kernel_rfl
theorem Try.en_53 : enters Try.prog 53 = true := by kernel_rfl
theorem Try.en_54 : enters Try.prog 54 = true := by kernel_rfl
theorem Try.en_55 : enters Try.prog 55 = true := by kernel_rfl
theorem Try.en_56 : enters Try.prog 56 = true := by kernel_rfl
theorem Try.en_57 : enters Try.prog 57 = true := by kernel_rfl
theorem Try.en_58 : enters Try.prog 58 = true := by kernel_rfl
theorem Try.en_59 : enters Try.prog 59 = true := by kernel_rfl
theorem Try.en_60 : enters Try.prog 60 = true := by kernel_rfl
theorem Try.en_61 : enters Try.prog 61 = true := by kernel_rfl
theorem Try.en_62 : enters Try.prog 62 = true := by kernel_rfl
theorem Try.en_63 : enters Try.prog 63 = true := by kernel_rfl
theorem Try.en_64 : enters Try.prog 64 = true := by kernel_rfl
theorem Try.en_65 : enters Try.prog 65 = true := by kernel_rfl
theorem Try.en_66 : enters Try.prog 66 = true := by kernel_rfl
theorem Try.en_67 : enters Try.prog 67 = true := by kernel_rfl
theorem Try.en_68 : enters Try.prog 68 = true := by kernel_rfl
theorem Try.en_69 : enters Try.prog 69 = true := by kernel_rfl
theorem Try.en_70 : enters Try.prog 70 = true := by kernel_rfl
theorem Try.en_71 : enters Try.prog 71 = true := by kernel_rfl
theorem Try.en_72 : enters Try.prog 72 = true := by kernel_rfl
theorem Try.en_73 : enters Try.prog 73 = true := by kernel_rfl
theorem Try.en_74 : enters Try.prog 74 = true := by kernel_rfl
theorem Try.en_75 : enters Try.prog 75 = true := by kernel_rfl
theorem Try.en_76 : enters Try.prog 76 = true := by kernel_rfl
theorem Try.mixed : Try.prog.follows .mixedOrders = true := by kernel_rfl

end Go.Proofs.Ytilpbddeijolbaa
