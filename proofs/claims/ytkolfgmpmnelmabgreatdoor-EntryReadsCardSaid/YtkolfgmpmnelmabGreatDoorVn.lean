/-
  What a row's list gives: errors.errorType.
-/
import Derived.Test.YtkolfgmpmnelmabGreatDoorRows
import Derived.Test.YtkolfgmpmnelmabGreatDoorE2
import Derived.LaidHandle
namespace Go.Proofs.YtkolfgmpmnelmabGreatDoor
open Go Vx Go.Proofs
set_option maxRecDepth 100000

theorem gErr : Tryz.prog.globalNamed "errors.errorType" = some 0 := by kernel_rfl
theorem gRt : (Tryz.prog.cutTypes.find? (·.1 == "internal/reflectlite.rtype")).map (·.2) = some 143 := by kernel_rfl
theorem gSize : Tryz.prog.types.size = 195 := by kernel_rfl
theorem gRow : ((List.range 195).filter fun t => Tryz.prog.rowNamed t [101, 114, 114, 111, 114]) = [28] := by kernel_rfl
theorem err_of_handle {W : World} {l : List (String × DataW Unit)} (h : handlesMet Tryz.prog l W) (hm : ("errors.errorType", Rows.laid_errors_errorType) ∈ l) : ErrAt W := by
  obtain ⟨name, u, ty, e1, e2, e3, e4, e5⟩ := h _ hm
  have en : name = [101, 114, 114, 111, 114] := (Option.some.inj e1).symm
  subst en
  obtain rfl := Option.some.inj (gRt.symm.trans e2)
  have hm2 : ty ∈ (List.range 195).filter fun t => Tryz.prog.rowNamed t [101, 114, 114, 111, 114] := List.mem_filter.2 ⟨List.mem_range.2 (by rw [← gSize]; exact e3), e4⟩
  rw [gRow] at hm2
  obtain rfl := List.mem_singleton.1 hm2
  have hh : typeHandle Tryz.prog 28 = .pointer (some ⟨9, 28, none⟩) := by kernel_rfl
  rw [hh] at e5
  have := World.var?_cell gErr e5 0
  unfold ErrAt
  simpa using this
end Go.Proofs.YtkolfgmpmnelmabGreatDoor
