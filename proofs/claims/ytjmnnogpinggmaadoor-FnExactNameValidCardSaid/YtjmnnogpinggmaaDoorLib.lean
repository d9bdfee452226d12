/- The library's strings.Split and strings.Trim at this dump, and what the row's first world says of the library's one variable that they read. No conditions but those said. -/
import Derived.Test.YtjmnnogpinggmaaDoorBase
import Derived.Ground.NamesProg
import Derived.Shelf.Lay
import Derived.Shelf.Strings.Split
import Derived.Shelf.Strings.SlTrimAscii
import Derived.Shelf.Vars
namespace Go.Proofs
open Go.RowKit Go.Shelf
shelf_lay Lays.n146 Nm 146 at Tryd as Tryd.laysSplit
shelf_lay Lays.n160 Nm 160 at Tryd as Tryd.laysTrim
end Go.Proofs
namespace Go.Proofs.YtjmnnogpinggmaaDoor
set_option linter.unusedVariables false
set_option linter.unusedSimpArgs false
open Go.RowKit Go.Shelf Go.Proofs

theorem split_c (s sep : ByteArray) (m : Int) (w : World) (hs : s.size < 4294967281) (hm : w.cell? ⟨0, 0, none⟩ = some (.int .i64 m)) (h1 : 1 ≤ sep.size) :
    Calls Tryd.prog 41 #[.string s, .string sep] w fun e w' =>
      e = .returned (.slice (some ⟨w.heap.size, 0, none⟩) (Lib.countB s sep + 1) (Lib.countB s sep + 1)) ∧ w' = w.alloc (.cells ((Lib.splitB sep 0 (Lib.countB s sep) s).map Value.string).toArray 9) :=
  Any.strings_Split Tryd.laysSplit (by kernel_rfl) s sep m w hs hm h1
theorem trim_c (s cutset : ByteArray) (w : World) (hs : s.size ≤ 9223372036854775807) (hcs : cutset.size < 4294967281) (hascii : ∀ (j : Nat) b, cutset.data.toList[j]? = some b → b.toNat < 128) :
    Calls Tryd.prog 50 #[.string s, .string cutset] w fun e w' => e = .returned (.string ⟨(Lib.trimS s.data.toList cutset.data.toList).toArray⟩) ∧ Below w.heap.size w w' :=
  Any.strings_Trim_laid Tryd.laysTrim (by kernel_rfl) s cutset w hs hcs hascii

end Go.Proofs.YtjmnnogpinggmaaDoor
