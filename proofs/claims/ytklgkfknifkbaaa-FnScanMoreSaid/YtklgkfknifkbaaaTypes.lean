/- Closed facts of the types and functions of this seat's translation. No conditions. -/
import Derived.Test.YtklgkfknifkbaaaBase
import Derived.Test.YtklgkfknifkbaaaG2
namespace Go.Proofs.Ytklgkfknifkbaaa
open Go.RowKit
theorem Try.agg_0 : aggB Try.prog 0 = some false := by kernel_rfl
theorem Try.sz_0 : szB Try.prog 0 = some 1 := by kernel_rfl
theorem Try.agg_3 : aggB Try.prog 3 = some false := by kernel_rfl
theorem Try.sz_3 : szB Try.prog 3 = some 1 := by kernel_rfl
theorem Try.zero_3 : zeroC Try.prog 3 = some [(.int .i64 (0) : Value)] := by kernel_rfl
theorem Try.elem_3 : elemB Try.prog 3 = some (1, 8, 1) := by kernel_rfl
theorem Try.agg_4 : aggB Try.prog 4 = some false := by kernel_rfl
theorem Try.sz_4 : szB Try.prog 4 = some 1 := by kernel_rfl
theorem Try.zero_4 : zeroC Try.prog 4 = some [(.bool false : Value)] := by kernel_rfl
theorem Try.elem_4 : elemB Try.prog 4 = some (1, 1, 1) := by kernel_rfl
theorem Try.agg_5 : aggB Try.prog 5 = some false := by kernel_rfl
theorem Try.sz_5 : szB Try.prog 5 = some 1 := by kernel_rfl
theorem Try.zero_5 : zeroC Try.prog 5 = some [(.int .u8 (0) : Value)] := by kernel_rfl
theorem Try.elem_5 : elemB Try.prog 5 = some (1, 1, 1) := by kernel_rfl
theorem Try.agg_9 : aggB Try.prog 9 = some false := by kernel_rfl
theorem Try.sz_9 : szB Try.prog 9 = some 1 := by kernel_rfl
theorem Try.zero_9 : zeroC Try.prog 9 = some [(.string (bs ([])) : Value)] := by kernel_rfl
theorem Try.elem_9 : elemB Try.prog 9 = some (1, 16, 1) := by kernel_rfl
theorem Try.agg_23 : aggB Try.prog 23 = some true := by kernel_rfl
theorem Try.sz_23 : szB Try.prog 23 = some 2 := by kernel_rfl
theorem Try.zero_23 : zeroC Try.prog 23 = some [(.string (bs ([])) : Value), (.int .i64 (0) : Value)] := by kernel_rfl
theorem Try.elem_23 : elemB Try.prog 23 = some (2, 24, 2) := by kernel_rfl
theorem Try.places_23 : placesB Try.prog 23 = some ([(.string (bs ([])) : Value), (.int .i64 (0) : Value)], [(0, 1), (1, 1)]) := by kernel_rfl
theorem Try.si_23 : siB Try.prog 23 = true := by kernel_rfl
theorem Try.foff_23_0 : foff Try.prog 23 0 = some 0 := by kernel_rfl
theorem Try.fty_23_0 : ftyB Try.prog 23 0 = some 0 := by kernel_rfl
theorem Try.foff_23_1 : foff Try.prog 23 1 = some 1 := by kernel_rfl
theorem Try.fty_23_1 : ftyB Try.prog 23 1 = some 1 := by kernel_rfl
theorem Try.agg_24 : aggB Try.prog 24 = some true := by kernel_rfl
theorem Try.sz_24 : szB Try.prog 24 = some 2 := by kernel_rfl
theorem Try.zero_24 : zeroC Try.prog 24 = some [(.string (bs ([])) : Value), (.int .i64 (0) : Value)] := by kernel_rfl
theorem Try.elem_24 : elemB Try.prog 24 = some (2, 24, 2) := by kernel_rfl
theorem Try.places_24 : placesB Try.prog 24 = some ([(.string (bs ([])) : Value), (.int .i64 (0) : Value)], [(0, 1), (1, 1)]) := by kernel_rfl
theorem Try.si_24 : siB Try.prog 24 = true := by kernel_rfl
theorem Try.foff_24_0 : foff Try.prog 24 0 = some 0 := by kernel_rfl
theorem Try.fty_24_0 : ftyB Try.prog 24 0 = some 0 := by kernel_rfl
theorem Try.foff_24_1 : foff Try.prog 24 1 = some 1 := by kernel_rfl
theorem Try.fty_24_1 : ftyB Try.prog 24 1 = some 1 := by kernel_rfl
theorem Try.agg_27 : aggB Try.prog 27 = some true := by kernel_rfl
theorem Try.sz_27 : szB Try.prog 27 = some 2 := by kernel_rfl
theorem Try.zero_27 : zeroC Try.prog 27 = some [(.string (bs ([])) : Value), (.int .i64 (0) : Value)] := by kernel_rfl
theorem Try.elem_27 : elemB Try.prog 27 = some (2, 24, 2) := by kernel_rfl
theorem Try.places_27 : placesB Try.prog 27 = some ([(.string (bs ([])) : Value), (.int .i64 (0) : Value)], [(0, 1), (1, 1)]) := by kernel_rfl
theorem Try.si_27 : siB Try.prog 27 = true := by kernel_rfl
theorem Try.foff_27_0 : foff Try.prog 27 0 = some 0 := by kernel_rfl
theorem Try.fty_27_0 : ftyB Try.prog 27 0 = some 0 := by kernel_rfl
theorem Try.foff_27_1 : foff Try.prog 27 1 = some 1 := by kernel_rfl
theorem Try.fty_27_1 : ftyB Try.prog 27 1 = some 1 := by kernel_rfl
theorem Try.agg_34 : aggB Try.prog 34 = some false := by kernel_rfl
theorem Try.sz_34 : szB Try.prog 34 = some 1 := by kernel_rfl
theorem Try.zero_34 : zeroC Try.prog 34 = some [(.slice none 0 0 : Value)] := by kernel_rfl
theorem Try.elem_34 : elemB Try.prog 34 = some (1, 24, 1) := by kernel_rfl
theorem Try.agg_37 : aggB Try.prog 37 = some false := by kernel_rfl
theorem Try.sz_37 : szB Try.prog 37 = some 1 := by kernel_rfl
theorem Try.agg_40 : aggB Try.prog 40 = some false := by kernel_rfl
theorem Try.sz_40 : szB Try.prog 40 = some 1 := by kernel_rfl
theorem Try.zero_40 : zeroC Try.prog 40 = some [(.slice none 0 0 : Value)] := by kernel_rfl
theorem Try.elem_40 : elemB Try.prog 40 = some (1, 24, 1) := by kernel_rfl
theorem Try.agg_41 : aggB Try.prog 41 = some false := by kernel_rfl
theorem Try.sz_41 : szB Try.prog 41 = some 1 := by kernel_rfl
theorem Try.agg_48 : aggB Try.prog 48 = some false := by kernel_rfl
theorem Try.sz_48 : szB Try.prog 48 = some 1 := by kernel_rfl
theorem Try.agg_52 : aggB Try.prog 52 = some false := by kernel_rfl
theorem Try.sz_52 : szB Try.prog 52 = some 1 := by kernel_rfl
theorem Try.agg_57 : aggB Try.prog 57 = some false := by kernel_rfl
theorem Try.sz_57 : szB Try.prog 57 = some 1 := by kernel_rfl
theorem Try.zero_57 : zeroC Try.prog 57 = some [(.pointer none : Value)] := by kernel_rfl
theorem Try.elem_57 : elemB Try.prog 57 = some (1, 8, 1) := by kernel_rfl
theorem Try.agg_59 : aggB Try.prog 59 = some false := by kernel_rfl
theorem Try.sz_59 : szB Try.prog 59 = some 1 := by kernel_rfl
theorem Try.agg_60 : aggB Try.prog 60 = some false := by kernel_rfl
theorem Try.sz_60 : szB Try.prog 60 = some 1 := by kernel_rfl
theorem Try.zero_60 : zeroC Try.prog 60 = some [(.nilFunc : Value)] := by kernel_rfl
theorem Try.elem_60 : elemB Try.prog 60 = some (1, 8, 1) := by kernel_rfl
theorem Try.agg_65 : aggB Try.prog 65 = some false := by kernel_rfl
theorem Try.sz_65 : szB Try.prog 65 = some 1 := by kernel_rfl
theorem Try.zero_65 : zeroC Try.prog 65 = some [(.slice none 0 0 : Value)] := by kernel_rfl
theorem Try.elem_65 : elemB Try.prog 65 = some (1, 24, 1) := by kernel_rfl
theorem Try.agg_66 : aggB Try.prog 66 = some true := by kernel_rfl
theorem Try.sz_66 : szB Try.prog 66 = some 2 := by kernel_rfl
theorem Try.zero_66 : zeroC Try.prog 66 = some [(.slice none 0 0 : Value), (.int .i64 (0) : Value)] := by kernel_rfl
theorem Try.elem_66 : elemB Try.prog 66 = some (2, 32, 2) := by kernel_rfl
theorem Try.places_66 : placesB Try.prog 66 = some ([(.slice none 0 0 : Value), (.int .i64 (0) : Value)], [(0, 1), (1, 1)]) := by kernel_rfl
theorem Try.foff_66_0 : foff Try.prog 66 0 = some 0 := by kernel_rfl
theorem Try.fty_66_0 : ftyB Try.prog 66 0 = some 0 := by kernel_rfl
theorem Try.foff_66_1 : foff Try.prog 66 1 = some 1 := by kernel_rfl
theorem Try.fty_66_1 : ftyB Try.prog 66 1 = some 1 := by kernel_rfl
theorem Try.agg_67 : aggB Try.prog 67 = some true := by kernel_rfl
theorem Try.sz_67 : szB Try.prog 67 = some 2 := by kernel_rfl
theorem Try.zero_67 : zeroC Try.prog 67 = some [(.slice none 0 0 : Value), (.int .i64 (0) : Value)] := by kernel_rfl
theorem Try.elem_67 : elemB Try.prog 67 = some (2, 32, 2) := by kernel_rfl
theorem Try.places_67 : placesB Try.prog 67 = some ([(.slice none 0 0 : Value), (.int .i64 (0) : Value)], [(0, 1), (1, 1)]) := by kernel_rfl
theorem Try.foff_67_0 : foff Try.prog 67 0 = some 0 := by kernel_rfl
theorem Try.fty_67_0 : ftyB Try.prog 67 0 = some 0 := by kernel_rfl
theorem Try.foff_67_1 : foff Try.prog 67 1 = some 1 := by kernel_rfl
theorem Try.fty_67_1 : ftyB Try.prog 67 1 = some 1 := by kernel_rfl
theorem Try.agg_68 : aggB Try.prog 68 = some false := by kernel_rfl
theorem Try.sz_68 : szB Try.prog 68 = some 1 := by kernel_rfl
theorem Try.en_2 : enters Try.prog 2 = true := by kernel_rfl
theorem Try.en_3 : enters Try.prog 3 = true := by kernel_rfl
theorem Try.en_4 : enters Try.prog 4 = true := by kernel_rfl
theorem Try.en_5 : enters Try.prog 5 = true := by kernel_rfl
theorem Try.en_6 : enters Try.prog 6 = true := by kernel_rfl
theorem Try.en_7 : enters Try.prog 7 = true := by kernel_rfl
theorem Try.en_8 : enters Try.prog 8 = true := by kernel_rfl
theorem Try.en_9 : enters Try.prog 9 = true := by kernel_rfl
theorem Try.en_10 : enters Try.prog 10 = true := by kernel_rfl
theorem Try.en_11 : enters Try.prog 11 = true := by kernel_rfl
theorem Try.en_12 : enters Try.prog 12 = true := by kernel_rfl
theorem Try.en_13 : enters Try.prog 13 = true := by kernel_rfl
theorem Try.en_14 : enters Try.prog 14 = true := by kernel_rfl
theorem Try.en_15 : enters Try.prog 15 = true := by kernel_rfl
theorem Try.en_16 : enters Try.prog 16 = true := by kernel_rfl
theorem Try.en_17 : enters Try.prog 17 = true := by kernel_rfl
theorem Try.en_18 : enters Try.prog 18 = true := by kernel_rfl
theorem Try.en_19 : enters Try.prog 19 = true := by kernel_rfl
theorem Try.en_20 : enters Try.prog 20 = true := by kernel_rfl
theorem Try.en_21 : enters Try.prog 21 = true := by kernel_rfl
theorem Try.en_22 : enters Try.prog 22 = true := by kernel_rfl
theorem Try.en_23 : enters Try.prog 23 = true := by kernel_rfl
theorem Try.en_24 : enters Try.prog 24 = true := by kernel_rfl
theorem Try.en_25 : enters Try.prog 25 = true := by kernel_rfl
theorem Try.en_26 : enters Try.prog 26 = true := by kernel_rfl
theorem Try.en_27 : enters Try.prog 27 = true := by kernel_rfl
theorem Try.en_28 : enters Try.prog 28 = true := by kernel_rfl
theorem Try.en_29 : enters Try.prog 29 = true := by kernel_rfl
theorem Try.en_30 : enters Try.prog 30 = true := by kernel_rfl
theorem Try.en_31 : enters Try.prog 31 = true := by kernel_rfl
theorem Try.en_32 : enters Try.prog 32 = true := by kernel_rfl
theorem Try.en_33 : enters Try.prog 33 = true := by kernel_rfl
theorem Try.en_34 : enters Try.prog 34 = true := by kernel_rfl
theorem Try.en_35 : enters Try.prog 35 = true := by kernel_rfl
theorem Try.en_36 : enters Try.prog 36 = true := by kernel_rfl
theorem Try.en_37 : enters Try.prog 37 = true := by kernel_rfl
theorem Try.en_38 : enters Try.prog 38 = true := by kernel_rfl
theorem Try.en_39 : enters Try.prog 39 = true := by kernel_rfl
theorem Try.en_40 : enters Try.prog 40 = true := by kernel_rfl
theorem Try.en_41 : enters Try.prog 41 = true := by kernel_rfl
theorem Try.en_42 : enters Try.prog 42 = true := by kernel_rfl
theorem Try.en_43 : enters Try.prog 43 = true := by kernel_rfl
theorem Try.en_44 : enters Try.prog 44 = true := by kernel_rfl
theorem Try.en_45 : enters Try.prog 45 = true := by kernel_rfl
theorem Try.en_46 : enters Try.prog 46 = true := by kernel_rfl
theorem Try.en_47 : enters Try.prog 47 = true := by kernel_rfl
theorem Try.en_48 : enters Try.prog 48 = true := by kernel_rfl
theorem Try.en_49 : enters Try.prog 49 = true := by kernel_rfl
theorem Try.en_50 : enters Try.prog 50 = true := by kernel_rfl
theorem Try.en_51 : enters Try.prog 51 = true := by kernel_rfl
theorem Try.en_52 : enters Try.prog 52 = true := by kernel_rfl
theorem Try.en_53 : enters Try.prog 53 = true := by kernel_rfl
theorem Try.en_54 : enters Try.prog 54 = true := by kernel_rfl
theorem Try.en_55 : enters Try.prog 55 = true := by kernel_rfl
theorem Try.en_56 : enters Try.prog 56 = true := by kernel_rfl
theorem Try.en_57 : enters Try.prog 57 = true := by kernel_rfl
theorem Try.en_58 : enters Try.prog 58 = true := by kernel_rfl
theorem Try.en_59 : enters Try.prog 59 = true := by kernel_rfl
theorem Try.en_60 : enters Try.prog 60 = true := by kernel_rfl
theorem Try.en_61 : enters Try.prog 61 = true := by kernel_rfl
theorem Try.en_62 : enters Try.prog 62 = true := by kernel_rfl
theorem Try.mixed : Try.prog.follows .mixedOrders = true := by kernel_rfl

end Go.Proofs.Ytklgkfknifkbaaa
