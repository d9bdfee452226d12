/- Closed facts of the types and functions of this seat's translation. No conditions. -/
import Derived.Test.YtbhidkcljekobaaBase
import Derived.Test.YtbhidkcljekobaaG2
namespace Go.Proofs.Ytbhidkcljekobaa
open Go.RowKit
theorem Try.agg_0 : aggB Try.prog 0 = some false := by kernel_rfl
theorem Try.sz_0 : szB Try.prog 0 = some 1 := by kernel_rfl
theorem Try.agg_3 : aggB Try.prog 3 = some false := by kernel_rfl
theorem Try.sz_3 : szB Try.prog 3 = some 1 := by kernel_rfl
theorem Try.zero_3 : zeroC Try.prog 3 = some [(.int .i64 (0) : Value)] := by kernel_rfl
theorem Try.elem_3 : elemB Try.prog 3 = some (1, 8, 1) := by kernel_rfl
theorem Try.agg_4 : aggB Try.prog 4 = some false := by kernel_rfl
theorem Try.sz_4 : szB Try.prog 4 = some 1 := by kernel_rfl
theorem Try.zero_4 : zeroC Try.prog 4 = some [(.bool false : Value)] := by kernel_rfl
theorem Try.elem_4 : elemB Try.prog 4 = some (1, 1, 1) := by kernel_rfl
theorem Try.agg_5 : aggB Try.prog 5 = some false := by kernel_rfl
theorem Try.sz_5 : szB Try.prog 5 = some 1 := by kernel_rfl
theorem Try.zero_5 : zeroC Try.prog 5 = some [(.int .u8 (0) : Value)] := by kernel_rfl
theorem Try.elem_5 : elemB Try.prog 5 = some (1, 1, 1) := by kernel_rfl
theorem Try.agg_9 : aggB Try.prog 9 = some false := by kernel_rfl
theorem Try.sz_9 : szB Try.prog 9 = some 1 := by kernel_rfl
theorem Try.zero_9 : zeroC Try.prog 9 = some [(.string (bs ([])) : Value)] := by kernel_rfl
theorem Try.elem_9 : elemB Try.prog 9 = some (1, 16, 1) := by kernel_rfl
theorem Try.agg_22 : aggB Try.prog 22 = some false := by kernel_rfl
theorem Try.sz_22 : szB Try.prog 22 = some 1 := by kernel_rfl
theorem Try.zero_22 : zeroC Try.prog 22 = some [(.slice none 0 0 : Value)] := by kernel_rfl
theorem Try.elem_22 : elemB Try.prog 22 = some (1, 24, 1) := by kernel_rfl
theorem Try.agg_23 : aggB Try.prog 23 = some false := by kernel_rfl
theorem Try.sz_23 : szB Try.prog 23 = some 1 := by kernel_rfl
theorem Try.zero_23 : zeroC Try.prog 23 = some [(.slice none 0 0 : Value)] := by kernel_rfl
theorem Try.elem_23 : elemB Try.prog 23 = some (1, 24, 1) := by kernel_rfl
theorem Try.agg_27 : aggB Try.prog 27 = some false := by kernel_rfl
theorem Try.sz_27 : szB Try.prog 27 = some 1 := by kernel_rfl
theorem Try.zero_27 : zeroC Try.prog 27 = some [(.slice none 0 0 : Value)] := by kernel_rfl
theorem Try.elem_27 : elemB Try.prog 27 = some (1, 24, 1) := by kernel_rfl
theorem Try.agg_32 : aggB Try.prog 32 = some false := by kernel_rfl
theorem Try.sz_32 : szB Try.prog 32 = some 1 := by kernel_rfl
theorem Try.zero_32 : zeroC Try.prog 32 = some [(.slice none 0 0 : Value)] := by kernel_rfl
theorem Try.elem_32 : elemB Try.prog 32 = some (1, 24, 1) := by kernel_rfl
theorem Try.agg_35 : aggB Try.prog 35 = some false := by kernel_rfl
theorem Try.sz_35 : szB Try.prog 35 = some 1 := by kernel_rfl
theorem Try.zero_35 : zeroC Try.prog 35 = some [(.slice none 0 0 : Value)] := by kernel_rfl
theorem Try.elem_35 : elemB Try.prog 35 = some (1, 24, 1) := by kernel_rfl
theorem Try.agg_39 : aggB Try.prog 39 = some false := by kernel_rfl
theorem Try.sz_39 : szB Try.prog 39 = some 1 := by kernel_rfl
theorem Try.agg_42 : aggB Try.prog 42 = some true := by kernel_rfl
theorem Try.sz_42 : szB Try.prog 42 = some 3 := by kernel_rfl
theorem Try.zero_42 : zeroC Try.prog 42 = some [(.int .i64 (0) : Value), (.int .i64 (0) : Value), (.string (bs ([])) : Value)] := by kernel_rfl
theorem Try.elem_42 : elemB Try.prog 42 = some (3, 32, 3) := by kernel_rfl
theorem Try.places_42 : placesB Try.prog 42 = some ([(.int .i64 (0) : Value), (.int .i64 (0) : Value), (.string (bs ([])) : Value)], [(0, 1), (1, 1), (2, 1)]) := by kernel_rfl
theorem Try.foff_42_0 : foff Try.prog 42 0 = some 0 := by kernel_rfl
theorem Try.fty_42_0 : ftyB Try.prog 42 0 = some 0 := by kernel_rfl
theorem Try.foff_42_1 : foff Try.prog 42 1 = some 1 := by kernel_rfl
theorem Try.fty_42_1 : ftyB Try.prog 42 1 = some 1 := by kernel_rfl
theorem Try.foff_42_2 : foff Try.prog 42 2 = some 2 := by kernel_rfl
theorem Try.fty_42_2 : ftyB Try.prog 42 2 = some 2 := by kernel_rfl
theorem Try.agg_43 : aggB Try.prog 43 = some true := by kernel_rfl
theorem Try.sz_43 : szB Try.prog 43 = some 3 := by kernel_rfl
theorem Try.zero_43 : zeroC Try.prog 43 = some [(.int .i64 (0) : Value), (.int .i64 (0) : Value), (.string (bs ([])) : Value)] := by kernel_rfl
theorem Try.elem_43 : elemB Try.prog 43 = some (3, 32, 3) := by kernel_rfl
theorem Try.places_43 : placesB Try.prog 43 = some ([(.int .i64 (0) : Value), (.int .i64 (0) : Value), (.string (bs ([])) : Value)], [(0, 1), (1, 1), (2, 1)]) := by kernel_rfl
theorem Try.foff_43_0 : foff Try.prog 43 0 = some 0 := by kernel_rfl
theorem Try.fty_43_0 : ftyB Try.prog 43 0 = some 0 := by kernel_rfl
theorem Try.foff_43_1 : foff Try.prog 43 1 = some 1 := by kernel_rfl
theorem Try.fty_43_1 : ftyB Try.prog 43 1 = some 1 := by kernel_rfl
theorem Try.foff_43_2 : foff Try.prog 43 2 = some 2 := by kernel_rfl
theorem Try.fty_43_2 : ftyB Try.prog 43 2 = some 2 := by kernel_rfl
theorem Try.agg_47 : aggB Try.prog 47 = some false := by kernel_rfl
theorem Try.sz_47 : szB Try.prog 47 = some 1 := by kernel_rfl
theorem Try.zero_47 : zeroC Try.prog 47 = some [(.pointer none : Value)] := by kernel_rfl
theorem Try.elem_47 : elemB Try.prog 47 = some (1, 8, 1) := by kernel_rfl
theorem Try.agg_52 : aggB Try.prog 52 = some true := by kernel_rfl
theorem Try.sz_52 : szB Try.prog 52 = some 3 := by kernel_rfl
theorem Try.zero_52 : zeroC Try.prog 52 = some [(.int .i64 (0) : Value), (.int .i64 (0) : Value), (.string (bs ([])) : Value)] := by kernel_rfl
theorem Try.elem_52 : elemB Try.prog 52 = some (3, 32, 3) := by kernel_rfl
theorem Try.places_52 : placesB Try.prog 52 = some ([(.int .i64 (0) : Value), (.int .i64 (0) : Value), (.string (bs ([])) : Value)], [(0, 1), (1, 1), (2, 1)]) := by kernel_rfl
theorem Try.foff_52_0 : foff Try.prog 52 0 = some 0 := by kernel_rfl
theorem Try.fty_52_0 : ftyB Try.prog 52 0 = some 0 := by kernel_rfl
theorem Try.foff_52_1 : foff Try.prog 52 1 = some 1 := by kernel_rfl
theorem Try.fty_52_1 : ftyB Try.prog 52 1 = some 1 := by kernel_rfl
theorem Try.foff_52_2 : foff Try.prog 52 2 = some 2 := by kernel_rfl
theorem Try.fty_52_2 : ftyB Try.prog 52 2 = some 2 := by kernel_rfl
theorem Try.agg_56 : aggB Try.prog 56 = some false := by kernel_rfl
theorem Try.sz_56 : szB Try.prog 56 = some 1 := by kernel_rfl
theorem Try.zero_56 : zeroC Try.prog 56 = some [(.slice none 0 0 : Value)] := by kernel_rfl
theorem Try.elem_56 : elemB Try.prog 56 = some (1, 24, 1) := by kernel_rfl
theorem Try.agg_57 : aggB Try.prog 57 = some true := by kernel_rfl
theorem Try.sz_57 : szB Try.prog 57 = some 4 := by kernel_rfl
theorem Try.zero_57 : zeroC Try.prog 57 = some [(.int .i64 (0) : Value), (.slice none 0 0 : Value), (.int .i64 (0) : Value), (.slice none 0 0 : Value)] := by kernel_rfl
theorem Try.elem_57 : elemB Try.prog 57 = some (4, 64, 4) := by kernel_rfl
theorem Try.places_57 : placesB Try.prog 57 = some ([(.int .i64 (0) : Value), (.slice none 0 0 : Value), (.int .i64 (0) : Value), (.slice none 0 0 : Value)], [(0, 1), (1, 1), (2, 1), (3, 1)]) := by kernel_rfl
theorem Try.foff_57_0 : foff Try.prog 57 0 = some 0 := by kernel_rfl
theorem Try.fty_57_0 : ftyB Try.prog 57 0 = some 0 := by kernel_rfl
theorem Try.foff_57_1 : foff Try.prog 57 1 = some 1 := by kernel_rfl
theorem Try.fty_57_1 : ftyB Try.prog 57 1 = some 1 := by kernel_rfl
theorem Try.foff_57_2 : foff Try.prog 57 2 = some 2 := by kernel_rfl
theorem Try.fty_57_2 : ftyB Try.prog 57 2 = some 2 := by kernel_rfl
theorem Try.foff_57_3 : foff Try.prog 57 3 = some 3 := by kernel_rfl
theorem Try.fty_57_3 : ftyB Try.prog 57 3 = some 3 := by kernel_rfl
theorem Try.agg_58 : aggB Try.prog 58 = some true := by kernel_rfl
theorem Try.sz_58 : szB Try.prog 58 = some 4 := by kernel_rfl
theorem Try.zero_58 : zeroC Try.prog 58 = some [(.int .i64 (0) : Value), (.slice none 0 0 : Value), (.int .i64 (0) : Value), (.slice none 0 0 : Value)] := by kernel_rfl
theorem Try.elem_58 : elemB Try.prog 58 = some (4, 64, 4) := by kernel_rfl
theorem Try.places_58 : placesB Try.prog 58 = some ([(.int .i64 (0) : Value), (.slice none 0 0 : Value), (.int .i64 (0) : Value), (.slice none 0 0 : Value)], [(0, 1), (1, 1), (2, 1), (3, 1)]) := by kernel_rfl
theorem Try.foff_58_0 : foff Try.prog 58 0 = some 0 := by kernel_rfl
theorem Try.fty_58_0 : ftyB Try.prog 58 0 = some 0 := by kernel_rfl
theorem Try.foff_58_1 : foff Try.prog 58 1 = some 1 := by kernel_rfl
theorem Try.fty_58_1 : ftyB Try.prog 58 1 = some 1 := by kernel_rfl
theorem Try.foff_58_2 : foff Try.prog 58 2 = some 2 := by kernel_rfl
theorem Try.fty_58_2 : ftyB Try.prog 58 2 = some 2 := by kernel_rfl
theorem Try.foff_58_3 : foff Try.prog 58 3 = some 3 := by kernel_rfl
theorem Try.fty_58_3 : ftyB Try.prog 58 3 = some 3 := by kernel_rfl
theorem Try.agg_60 : aggB Try.prog 60 = some true := by kernel_rfl
theorem Try.sz_60 : szB Try.prog 60 = some 4 := by kernel_rfl
theorem Try.zero_60 : zeroC Try.prog 60 = some [(.int .i64 (0) : Value), (.slice none 0 0 : Value), (.int .i64 (0) : Value), (.slice none 0 0 : Value)] := by kernel_rfl
theorem Try.elem_60 : elemB Try.prog 60 = some (4, 64, 4) := by kernel_rfl
theorem Try.places_60 : placesB Try.prog 60 = some ([(.int .i64 (0) : Value), (.slice none 0 0 : Value), (.int .i64 (0) : Value), (.slice none 0 0 : Value)], [(0, 1), (1, 1), (2, 1), (3, 1)]) := by kernel_rfl
theorem Try.foff_60_0 : foff Try.prog 60 0 = some 0 := by kernel_rfl
theorem Try.fty_60_0 : ftyB Try.prog 60 0 = some 0 := by kernel_rfl
theorem Try.foff_60_1 : foff Try.prog 60 1 = some 1 := by kernel_rfl
theorem Try.fty_60_1 : ftyB Try.prog 60 1 = some 1 := by kernel_rfl
theorem Try.foff_60_2 : foff Try.prog 60 2 = some 2 := by kernel_rfl
theorem Try.fty_60_2 : ftyB Try.prog 60 2 = some 2 := by kernel_rfl
theorem Try.foff_60_3 : foff Try.prog 60 3 = some 3 := by kernel_rfl
theorem Try.fty_60_3 : ftyB Try.prog 60 3 = some 3 := by kernel_rfl
theorem Try.agg_61 : aggB Try.prog 61 = some true := by kernel_rfl
theorem Try.sz_61 : szB Try.prog 61 = some 4 := by kernel_rfl
theorem Try.zero_61 : zeroC Try.prog 61 = some [(.int .i64 (0) : Value), (.slice none 0 0 : Value), (.int .i64 (0) : Value), (.slice none 0 0 : Value)] := by kernel_rfl
theorem Try.elem_61 : elemB Try.prog 61 = some (4, 64, 4) := by kernel_rfl
theorem Try.places_61 : placesB Try.prog 61 = some ([(.int .i64 (0) : Value), (.slice none 0 0 : Value), (.int .i64 (0) : Value), (.slice none 0 0 : Value)], [(0, 1), (1, 1), (2, 1), (3, 1)]) := by kernel_rfl
theorem Try.foff_61_0 : foff Try.prog 61 0 = some 0 := by kernel_rfl
theorem Try.fty_61_0 : ftyB Try.prog 61 0 = some 0 := by kernel_rfl
theorem Try.foff_61_1 : foff Try.prog 61 1 = some 1 := by kernel_rfl
theorem Try.fty_61_1 : ftyB Try.prog 61 1 = some 1 := by kernel_rfl
theorem Try.foff_61_2 : foff Try.prog 61 2 = some 2 := by kernel_rfl
theorem Try.fty_61_2 : ftyB Try.prog 61 2 = some 2 := by kernel_rfl
theorem Try.foff_61_3 : foff Try.prog 61 3 = some 3 := by kernel_rfl
theorem Try.fty_61_3 : ftyB Try.prog 61 3 = some 3 := by kernel_rfl
theorem Try.agg_63 : aggB Try.prog 63 = some false := by kernel_rfl
theorem Try.sz_63 : szB Try.prog 63 = some 1 := by kernel_rfl
theorem Try.zero_63 : zeroC Try.prog 63 = some [(.slice none 0 0 : Value)] := by kernel_rfl
theorem Try.elem_63 : elemB Try.prog 63 = some (1, 24, 1) := by kernel_rfl
theorem Try.agg_64 : aggB Try.prog 64 = some false := by kernel_rfl
theorem Try.sz_64 : szB Try.prog 64 = some 1 := by kernel_rfl
theorem Try.agg_66 : aggB Try.prog 66 = some false := by kernel_rfl
theorem Try.sz_66 : szB Try.prog 66 = some 1 := by kernel_rfl
theorem Try.zero_66 : zeroC Try.prog 66 = some [(.pointer none : Value)] := by kernel_rfl
theorem Try.elem_66 : elemB Try.prog 66 = some (1, 8, 1) := by kernel_rfl
theorem Try.agg_70 : aggB Try.prog 70 = some false := by kernel_rfl
theorem Try.sz_70 : szB Try.prog 70 = some 1 := by kernel_rfl
theorem Try.zero_70 : zeroC Try.prog 70 = some [(.pointer none : Value)] := by kernel_rfl
theorem Try.elem_70 : elemB Try.prog 70 = some (1, 8, 1) := by kernel_rfl
theorem Try.agg_71 : aggB Try.prog 71 = some false := by kernel_rfl
theorem Try.sz_71 : szB Try.prog 71 = some 1 := by kernel_rfl
theorem Try.agg_73 : aggB Try.prog 73 = some true := by kernel_rfl
theorem Try.sz_73 : szB Try.prog 73 = some 4 := by kernel_rfl
theorem Try.zero_73 : zeroC Try.prog 73 = some [(.int .i64 (0) : Value), (.int .i64 (0) : Value), (.string (bs ([])) : Value), (.pointer none : Value)] := by kernel_rfl
theorem Try.elem_73 : elemB Try.prog 73 = some (4, 40, 4) := by kernel_rfl
theorem Try.places_73 : placesB Try.prog 73 = some ([(.int .i64 (0) : Value), (.int .i64 (0) : Value), (.string (bs ([])) : Value), (.pointer none : Value)], [(0, 3), (3, 1)]) := by kernel_rfl
theorem Try.foff_73_0 : foff Try.prog 73 0 = some 0 := by kernel_rfl
theorem Try.foff_73_1 : foff Try.prog 73 1 = some 3 := by kernel_rfl
theorem Try.fty_73_1 : ftyB Try.prog 73 1 = some 3 := by kernel_rfl
theorem Try.agg_74 : aggB Try.prog 74 = some true := by kernel_rfl
theorem Try.sz_74 : szB Try.prog 74 = some 4 := by kernel_rfl
theorem Try.zero_74 : zeroC Try.prog 74 = some [(.int .i64 (0) : Value), (.int .i64 (0) : Value), (.string (bs ([])) : Value), (.pointer none : Value)] := by kernel_rfl
theorem Try.elem_74 : elemB Try.prog 74 = some (4, 40, 4) := by kernel_rfl
theorem Try.places_74 : placesB Try.prog 74 = some ([(.int .i64 (0) : Value), (.int .i64 (0) : Value), (.string (bs ([])) : Value), (.pointer none : Value)], [(0, 3), (3, 1)]) := by kernel_rfl
theorem Try.foff_74_0 : foff Try.prog 74 0 = some 0 := by kernel_rfl
theorem Try.foff_74_1 : foff Try.prog 74 1 = some 3 := by kernel_rfl
theorem Try.fty_74_1 : ftyB Try.prog 74 1 = some 3 := by kernel_rfl
theorem Try.agg_77 : aggB Try.prog 77 = some true := by kernel_rfl
theorem Try.sz_77 : szB Try.prog 77 = some 2 := by kernel_rfl
theorem Try.zero_77 : zeroC Try.prog 77 = some [(.slice none 0 0 : Value), (.int .i64 (0) : Value)] := by kernel_rfl
theorem Try.elem_77 : elemB Try.prog 77 = some (2, 32, 2) := by kernel_rfl
theorem Try.places_77 : placesB Try.prog 77 = some ([(.slice none 0 0 : Value), (.int .i64 (0) : Value)], [(0, 1), (1, 1)]) := by kernel_rfl
theorem Try.foff_77_0 : foff Try.prog 77 0 = some 0 := by kernel_rfl
theorem Try.fty_77_0 : ftyB Try.prog 77 0 = some 0 := by kernel_rfl
theorem Try.foff_77_1 : foff Try.prog 77 1 = some 1 := by kernel_rfl
theorem Try.fty_77_1 : ftyB Try.prog 77 1 = some 1 := by kernel_rfl
theorem Try.agg_78 : aggB Try.prog 78 = some true := by kernel_rfl
theorem Try.sz_78 : szB Try.prog 78 = some 2 := by kernel_rfl
theorem Try.zero_78 : zeroC Try.prog 78 = some [(.slice none 0 0 : Value), (.int .i64 (0) : Value)] := by kernel_rfl
theorem Try.elem_78 : elemB Try.prog 78 = some (2, 32, 2) := by kernel_rfl
theorem Try.places_78 : placesB Try.prog 78 = some ([(.slice none 0 0 : Value), (.int .i64 (0) : Value)], [(0, 1), (1, 1)]) := by kernel_rfl
theorem Try.foff_78_0 : foff Try.prog 78 0 = some 0 := by kernel_rfl
theorem Try.fty_78_0 : ftyB Try.prog 78 0 = some 0 := by kernel_rfl
theorem Try.foff_78_1 : foff Try.prog 78 1 = some 1 := by kernel_rfl
theorem Try.fty_78_1 : ftyB Try.prog 78 1 = some 1 := by kernel_rfl
theorem Try.agg_81 : aggB Try.prog 81 = some true := by kernel_rfl
theorem Try.sz_81 : szB Try.prog 81 = some 6 := by kernel_rfl
theorem Try.zero_81 : zeroC Try.prog 81 = some [(.int .i64 (0) : Value), (.slice none 0 0 : Value), (.int .i64 (0) : Value), (.slice none 0 0 : Value), (.pointer none : Value), (.string (bs ([])) : Value)] := by kernel_rfl
theorem Try.elem_81 : elemB Try.prog 81 = some (6, 88, 6) := by kernel_rfl
theorem Try.places_81 : placesB Try.prog 81 = some ([(.int .i64 (0) : Value), (.slice none 0 0 : Value), (.int .i64 (0) : Value), (.slice none 0 0 : Value), (.pointer none : Value), (.string (bs ([])) : Value)], [(0, 4), (4, 1), (5, 1)]) := by kernel_rfl
theorem Try.foff_81_0 : foff Try.prog 81 0 = some 0 := by kernel_rfl
theorem Try.foff_81_1 : foff Try.prog 81 1 = some 4 := by kernel_rfl
theorem Try.fty_81_1 : ftyB Try.prog 81 1 = some 4 := by kernel_rfl
theorem Try.foff_81_2 : foff Try.prog 81 2 = some 5 := by kernel_rfl
theorem Try.fty_81_2 : ftyB Try.prog 81 2 = some 5 := by kernel_rfl
theorem Try.agg_82 : aggB Try.prog 82 = some true := by kernel_rfl
theorem Try.sz_82 : szB Try.prog 82 = some 6 := by kernel_rfl
theorem Try.zero_82 : zeroC Try.prog 82 = some [(.int .i64 (0) : Value), (.slice none 0 0 : Value), (.int .i64 (0) : Value), (.slice none 0 0 : Value), (.pointer none : Value), (.string (bs ([])) : Value)] := by kernel_rfl
theorem Try.elem_82 : elemB Try.prog 82 = some (6, 88, 6) := by kernel_rfl
theorem Try.places_82 : placesB Try.prog 82 = some ([(.int .i64 (0) : Value), (.slice none 0 0 : Value), (.int .i64 (0) : Value), (.slice none 0 0 : Value), (.pointer none : Value), (.string (bs ([])) : Value)], [(0, 4), (4, 1), (5, 1)]) := by kernel_rfl
theorem Try.foff_82_0 : foff Try.prog 82 0 = some 0 := by kernel_rfl
theorem Try.foff_82_1 : foff Try.prog 82 1 = some 4 := by kernel_rfl
theorem Try.fty_82_1 : ftyB Try.prog 82 1 = some 4 := by kernel_rfl
theorem Try.foff_82_2 : foff Try.prog 82 2 = some 5 := by kernel_rfl
theorem Try.fty_82_2 : ftyB Try.prog 82 2 = some 5 := by kernel_rfl
theorem Try.agg_88 : aggB Try.prog 88 = some false := by kernel_rfl
theorem Try.sz_88 : szB Try.prog 88 = some 1 := by kernel_rfl
theorem Try.zero_88 : zeroC Try.prog 88 = some [(.int .u32 (0) : Value)] := by kernel_rfl
theorem Try.elem_88 : elemB Try.prog 88 = some (1, 4, 1) := by kernel_rfl
theorem Try.agg_89 : aggB Try.prog 89 = some false := by kernel_rfl
theorem Try.sz_89 : szB Try.prog 89 = some 1 := by kernel_rfl
theorem Try.en_2 : enters Try.prog 2 = true := by kernel_rfl
theorem Try.en_3 : enters Try.prog 3 = true := by kernel_rfl
theorem Try.en_4 : enters Try.prog 4 = true := by kernel_rfl
theorem Try.en_5 : enters Try.prog 5 = true := by kernel_rfl
theorem Try.en_6 : enters Try.prog 6 = true := by kernel_rfl
theorem Try.en_7 : enters Try.prog 7 = true := by kernel_rfl
theorem Try.en_8 : enters Try.prog 8 = true := by kernel_rfl
theorem Try.en_9 : enters Try.prog 9 = true := by kernel_rfl
theorem Try.en_10 : enters Try.prog 10 = true := by kernel_rfl
theorem Try.en_11 : enters Try.prog 11 = true := by kernel_rfl
theorem Try.en_12 : enters Try.prog 12 = true := by kernel_rfl
theorem Try.en_13 : enters Try.prog 13 = true := by kernel_rfl
theorem Try.en_14 : enters Try.prog 14 = true := by kernel_rfl
theorem Try.en_15 : enters Try.prog 15 = true := by kernel_rfl
theorem Try.en_16 : enters Try.prog 16 = true := by kernel_rfl
theorem Try.en_17 : enters Try.prog 17 = true := by kernel_rfl
theorem Try.en_18 : enters Try.prog 18 = true := by kernel_rfl
theorem Try.en_19 : enters Try.prog 19 = true := by kernel_rfl
theorem Try.en_20 : enters Try.prog 20 = true := by kernel_rfl
theorem Try.en_21 : enters Try.prog 21 = true := by kernel_rfl
theorem Try.en_22 : enters Try.prog 22 = true := by kernel_rfl
theorem Try.en_23 : enters Try.prog 23 = true := by kernel_rfl
theorem Try.en_24 : enters Try.prog 24 = true := by kernel_rfl
theorem Try.en_25 : enters Try.prog 25 = true := by kernel_rfl
theorem Try.en_26 : enters Try.prog 26 = true := by kernel_rfl
theorem Try.en_27 : enters Try.prog 27 = true := by kernel_rfl
theorem Try.en_28 : enters Try.prog 28 = true := by kernel_rfl
theorem Try.en_29 : enters Try.prog 29 = true := by kernel_rfl
theorem Try.en_30 : enters Try.prog 30 = true := by kernel_rfl
theorem Try.en_31 : enters Try.prog 31 = true := by kernel_rfl
theorem Try.en_32 : enters Try.prog 32 = true := by kernel_rfl
theorem Try.en_33 : enters Try.prog 33 = true := by kernel_rfl
theorem Try.en_34 : enters Try.prog 34 = true := by kernel_rfl
theorem Try.en_35 : enters Try.prog 35 = true := by kernel_rfl
theorem Try.en_36 : enters Try.prog 36 = true := by kernel_rfl
theorem Try.en_37 : enters Try.prog 37 = true := by kernel_rfl
theorem Try.en_38 : enters Try.prog 38 = true := by kernel_rfl
theorem Try.en_39 : enters Try.prog 39 = true := by kernel_rfl
theorem Try.en_40 : enters Try.prog 40 = true := by kernel_rfl
theorem Try.en_41 : enters Try.prog 41 = true := by kernel_rfl
theorem Try.en_42 : enters Try.prog 42 = true := by kernel_rfl
theorem Try.en_43 : enters Try.prog 43 = true := by kernel_rfl
theorem Try.en_44 : enters Try.prog 44 = true := by kernel_rfl
theorem Try.en_45 : enters Try.prog 45 = true := by kernel_rfl
theorem Try.en_46 : enters Try.prog 46 = true := by kernel_rfl
theorem Try.en_47 : enters Try.prog 47 = true := by kernel_rfl
theorem Try.en_48 : enters Try.prog 48 = true := by kernel_rfl
theorem Try.en_49 : enters Try.prog 49 = true := by kernel_rfl
theorem Try.en_50 : enters Try.prog 50 = true := by kernel_rfl
theorem Try.en_51 : enters Try.prog 51 = true := by kernel_rfl
theorem Try.en_52 : enters Try.prog 52 = true := by kernel_rfl
theorem Try.en_53 : enters Try.prog 53 = true := by kernel_rfl
theorem Try.en_54 : enters Try.prog 54 = true := by kernel_rfl
theorem Try.en_56 : enters Try.prog 56 = true := by kernel_rfl
theorem Try.en_57 : enters Try.prog 57 = true := by kernel_rfl
theorem Try.en_59 : enters Try.prog 59 = true := by kernel_rfl
theorem Try.mixed : Try.prog.follows .mixedOrders = true := by kernel_rfl

end Go.Proofs.Ytbhidkcljekobaa
