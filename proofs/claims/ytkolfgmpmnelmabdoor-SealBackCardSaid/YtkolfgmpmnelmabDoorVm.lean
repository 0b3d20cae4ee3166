/-
  What a row's list gives: the table of the rounds.
-/
import Derived.Test.YtkolfgmpmnelmabDoorH2
import Derived.Lib.LaidTab
namespace Go.Proofs.YtkolfgmpmnelmabDoor
open Go Vx Go.Proofs
set_option maxRecDepth 100000

theorem gTab : Tryd.prog.globalNamed "saltern/sum.rounds" = some 2 := by kernel_rfl
theorem gTabType : (Tryd.prog.globals[2]?).map (·.type) = some 125 := by kernel_rfl
theorem rounds_of_tab {W : World} (t : Lib.TabIs Tryd.prog W "saltern/sum.rounds" .u32 (kT.map fun u => (u.toNat : Int))) : RoundsAt W := by
  have hc : ∀ i, i < 64 → W.cell? ⟨2, i, none⟩ = some (uv (kT.getD i 0)) := fun i hi => by
    have h := t.cell gTab i (by rw [List.length_map]; exact hi)
    rw [h]
    have hi' : i < kT.length := hi
    simp [List.getD_eq_getElem?_getD, hi']
  refine ⟨?_, hc⟩
  have h0 := hc 0 (by decide)
  rcases Nat.lt_or_ge 2 W.heap.size with h' | h'
  · exact h'
  · simp [World.cell?, Array.getElem?_eq_none h'] at h0
theorem rounds_head {rest : List (String × DataW Unit)} {W : World} (h : laidMet Tryd.prog (("saltern/sum.rounds", Lib.tabData .u32 (kT.map fun u => (u.toNat : Int))) :: rest) W) : RoundsAt W :=
  rounds_of_tab (Lib.tabIs_of_head (rest := rest) gTab gTabType Tryd.underlying125 Tryd.underlying123 (by kernel_rfl) (by kernel_rfl) h)
end Go.Proofs.YtkolfgmpmnelmabDoor
