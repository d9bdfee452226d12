/- errors.Is at a sentinel of errors.New's make: the same one, and no error. No conditions. -/
import Derived.Test.YtilpbddeijolbaaDoorTypes
import Derived.WalkKit
import Derived.LaidEql
import Derived.Stop.Asserts
import Derived.RowKitTokens
namespace Go.Proofs.YtilpbddeijolbaaDoor
set_option linter.unusedVariables false
set_option linter.unusedSimpArgs false
open Go.RowKit Go.Extern.Stop Go.Stop Go.Extern

theorem Tryd.isTypeOf (v : Value) (w : World) : (Extern.ReflectliteType.typeOf #[.iface 78 v]).run Tryd.prog w = .ok (.iface 68 (.agg #[.pointer (some ⟨1, 78, none⟩)])) w := by kernel_rfl
theorem Tryd.isComparable (w : World) : ((Extern.ReflectliteType.method fun t => do Go.Extern.Rtype.noPackHeld "Comparable" t; pure (.bool (← typeInfo t).comparable)) #[.agg #[.pointer (some ⟨1, 78, none⟩)]]).run Tryd.prog w = .ok (.bool true) w := by kernel_rfl
theorem Tryd.isMethodComparable (v : Value) (w : World) : (Go.method 216 68 v "Comparable").run Tryd.prog w = .ok (63, v) w := by kernel_rfl
theorem Tryd.isComp : (Tryd.prog.info? 78).map (·.comparable) = some true := by kernel_rfl
theorem Tryd.isSize : (Tryd.prog.info? 104).map (·.size) = some 1 := by kernel_rfl

theorem is_same (a : Addr) (w : World) :
    Calls Tryd.prog 27 #[.iface 78 (.pointer (some a)), .iface 78 (.pointer (some a))] w fun e w' => e = .returned (.bool true) ∧ w' = w := by
  obtain ⟨i, hi, hcmp⟩ := Option.map_eq_some_iff.1 Tryd.isComp
  obtain ⟨j, hj, hjs⟩ := Option.map_eq_some_iff.1 Tryd.isSize
  have h8 := @run_callFunc_extern Tryd.prog 40 _ Extern.ReflectliteType.typeOf Tryd.func40 (by kernel_rfl) (by kernel_rfl) (by kernel_rfl) (by kernel_rfl)
  have h32 := @run_callFunc_extern Tryd.prog 63 _ (Extern.ReflectliteType.method fun t => do Go.Extern.Rtype.noPackHeld "Comparable" t; pure (.bool (← typeInfo t).comparable)) Tryd.func63 (by kernel_rfl) (by kernel_rfl) (by kernel_rfl) (by kernel_rfl)
  have tT := Tryd.isTypeOf
  have cT := Tryd.isComparable
  generalize (Extern.ReflectliteType.method fun t => do Go.Extern.Rtype.noPackHeld "Comparable" t; pure (.bool (← typeInfo t).comparable)) = M at h32 cT
  have mR := Tryd.isMethodComparable
  have heq := run_eql_iface_ptr_same (P := Tryd.prog) w a Tryd.underlying48 Tryd.underlying78 hi hcmp hj
  go_enter Tryd.func27, Tryd.ntmps27
  go_wp2
  refine wp_loop_rounds 1 ?_
  rw [rounds_succ]
  go_wp2
  go_ret
  exact ⟨rfl, rfl⟩
theorem is_nil (b : Addr) (w : World) :
    Calls Tryd.prog 27 #[.nilIface, .iface 78 (.pointer (some b))] w fun e w' => e = .returned (.bool false) ∧ w' = w := by
  have hn := run_eql_iface_nil_left (P := Tryd.prog) w 78 (.pointer (some b)) Tryd.underlying48
  go_enter Tryd.func27, Tryd.ntmps27
  go_wp2
  go_ret
  exact ⟨rfl, rfl⟩
theorem errIs_same (a0 : Addr) (w0 : World) : Calls Tryd.prog 27 #[.iface 78 (.pointer (some a0)), .iface 78 (.pointer (some a0))] w0 fun e w => e = .returned (.bool true) ∧ Own w0 [] [] w :=
  (is_same a0 w0).mono fun e w h => ⟨h.1, by rw [h.2]; exact Own.start w0⟩
theorem errIs_nil (a0 : Addr) (w0 : World) : Calls Tryd.prog 27 #[.nilIface, .iface 78 (.pointer (some a0))] w0 fun e w => e = .returned (.bool false) ∧ Own w0 [] [] w :=
  (is_nil a0 w0).mono fun e w h => ⟨h.1, by rw [h.2]; exact Own.start w0⟩

end Go.Proofs.YtilpbddeijolbaaDoor
