/-
  Walks: what the statements against the document have in common: law.long, law.bare.
-/
import Derived.Test.YtkolfgmpmnelmabGreatDoorE2
namespace Go.Proofs.YtkolfgmpmnelmabGreatDoor
open Go Vx Go.Proofs
set_option linter.unusedVariables false
set_option maxRecDepth 4000
set_option maxHeartbeats 400000

theorem long_any (s : List UInt8) (w : World) : C Tryz.prog 20 ⟨[str s]⟩ w fun v w' => v = .bool (decide (60 < (s.length : Int))) ∧ St w [] w' := by
  refine C_enter (n := 6) Tryz.func20 rfl rfl rfl (fun w1 hs1 => ?_)
  refine W_seq ?_
  refine W_region ?_
  refine L0 (wanted_none rfl) rfl (y_assign (v := Value.bool _) rfl rfl) ?_
  refine Lnil ?_
  refine W_seq ?_
  refine W_region ?_
  refine L0 (wanted_none rfl) rfl (y_move (v := Value.string ⟨⟨_⟩⟩) rfl rfl) ?_
  refine L0 (wanted_none rfl) rfl (y_len rfl Tryz.underlying9 rfl) ?_
  refine L0 (wanted_none rfl) rfl (y_gt rfl rfl rfl) ?_
  refine L0 (wanted_none rfl) rfl (y_assign (v := Value.bool _) rfl rfl) ?_
  refine Lnil ?_
  refine W_ret ?_
  refine fin1 (fn := Tryz.f20) rfl rfl ?_
  exact ⟨rfl, hs1⟩
/-- An error that is just this one (0: none), without a place. -/
def BareE (e : Value) (k : Int) : Prop := (e = .nilIface ∧ k = 0) ∨ e = errno k
theorem bare_of {e : Value} {k : Int} (h : BareE e k) (w : World) (he : ErrAt w) : C Tryz.prog 7 ⟨[e, iv k]⟩ w fun v w' => v = .bool true ∧ St w [] w' := by
  rcases h with ⟨rfl, rfl⟩ | rfl
  · exact (bare_nil 0 w).mono fun v w' h => ⟨h.1, h.2⟩
  · exact (bare_errno k k w he).mono fun v w' h => ⟨by rw [h.1]; simp, h.2⟩
end Go.Proofs.YtkolfgmpmnelmabGreatDoor
