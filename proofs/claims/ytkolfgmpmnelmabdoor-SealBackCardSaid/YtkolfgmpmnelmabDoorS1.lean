/-
  Walks: stream.turn, stream.word.
-/
import Derived.Test.YtkolfgmpmnelmabDoorProg
import Derived.Test.YtkolfgmpmnelmabDoorVf
import Derived.Test.YtkolfgmpmnelmabDoorVt
namespace Go.Proofs.YtkolfgmpmnelmabDoor
open Go Vx Go.Proofs
set_option linter.unusedVariables false

theorem turn_any (x : UInt32) (s : Nat) (h0 : 0 < s) (h1 : s < 32) (w : World) :
    C Tryd.prog 177 ⟨[uv x, iv s]⟩ w fun v w' => v = uv (x <<< UInt32.ofNat s ||| x >>> UInt32.ofNat (32 - s)) ∧ St w [] w' := by
  refine C_enter (n := 13) Tryd.func177 rfl rfl rfl (fun w1 hs1 => ?_)
  refine W_seq ?_
  refine W_region ?_
  refine L0 (wanted_none rfl) rfl (y_assign (v := Value.int _ _) rfl rfl) ?_
  refine Lnil ?_
  refine W_seq ?_
  refine W_drawSt [(0, 0), (0, 1), (0, 3), (0, 4), (0, 2), (0, 5), (0, 6), (0, 7), (0, 8)] hs1 mixed (by kernel_rfl) (fun w2 hs3 => ?_)
  refine E0 (wanted_none rfl) rfl (y_move (v := Value.int _ _) rfl rfl) ?_
  refine E0 (wanted_none rfl) rfl (y_move (v := Value.int _ _) rfl rfl) ?_
  refine E0 (wanted_none rfl) rfl (y_move (v := Value.int _ _) rfl rfl) ?_
  refine E0 (wanted_none rfl) rfl (y_move (v := Value.int _ _) rfl rfl) ?_
  refine E0 (wanted_none rfl) rfl (y_shl32 rfl rfl rfl (s := s) (by first | rfl | omega) (by omega)) ?_
  refine E0 (wanted_none rfl) rfl (y_sub64 rfl rfl rfl (by omega)) ?_
  refine E0 (wanted_none rfl) rfl (y_shr32 rfl rfl rfl (s := (32 - s)) (by first | rfl | omega) (by omega)) ?_
  refine E0 (wanted_none rfl) rfl (y_or32 rfl rfl rfl) ?_
  refine E0 (wanted_none rfl) rfl (y_assign (v := Value.int _ _) rfl rfl) ?_
  refine Enil ?_
  refine W_ret ?_
  refine fin1 (fn := Tryd.f177) rfl rfl ?_
  exact ⟨rfl, hs3⟩

theorem word_any (l : List UInt8) (h : 4 ≤ l.length) (w : World) :
    C Tryd.prog 149 ⟨[str l]⟩ w fun v w' => v = uv ((l.getD 0 0).toUInt32 ||| (l.getD 1 0).toUInt32 <<< 8 ||| (l.getD 2 0).toUInt32 <<< 16 ||| (l.getD 3 0).toUInt32 <<< 24) ∧ St w [] w' := by
  refine C_enter (n := 21) Tryd.func149 rfl rfl rfl (fun w1 hs1 => ?_)
  refine W_seq ?_
  refine W_region ?_
  refine L0 (wanted_none rfl) rfl (y_assign (v := Value.int _ _) rfl rfl) ?_
  refine Lnil ?_
  refine W_seq ?_
  refine W_drawSt [(0, 0), (0, 3), (0, 8), (0, 13), (0, 1), (0, 4), (0, 9), (0, 14), (0, 2), (0, 5), (0, 10), (0, 15), (0, 6), (0, 11), (0, 16), (0, 7), (0, 12), (0, 17), (0, 18)] hs1 mixed (by kernel_rfl) (fun w2 hs3 => ?_)
  refine E0 (wanted_none rfl) rfl (y_move (v := Value.string ⟨⟨_⟩⟩) rfl rfl) ?_
  refine E0 (wanted_none rfl) rfl (y_move (v := Value.string ⟨⟨_⟩⟩) rfl rfl) ?_
  refine E0 (wanted_none rfl) rfl (y_move (v := Value.string ⟨⟨_⟩⟩) rfl rfl) ?_
  refine E0 (wanted_none rfl) rfl (y_move (v := Value.string ⟨⟨_⟩⟩) rfl rfl) ?_
  refine E0 (wanted_none rfl) rfl (y_sindex rfl Tryd.underlying9 rfl rfl (by omega) (by omega)) ?_
  refine E0 (wanted_none rfl) rfl (y_sindex rfl Tryd.underlying9 rfl rfl (by omega) (by omega)) ?_
  refine E0 (wanted_none rfl) rfl (y_sindex rfl Tryd.underlying9 rfl rfl (by omega) (by omega)) ?_
  refine E0 (wanted_none rfl) rfl (y_sindex rfl Tryd.underlying9 rfl rfl (by omega) (by omega)) ?_
  refine E0 (wanted_none rfl) rfl (y_c8to32 rfl Tryd.underlying5 Tryd.underlying123 rfl) ?_
  refine E0 (wanted_none rfl) rfl (y_c8to32 rfl Tryd.underlying5 Tryd.underlying123 rfl) ?_
  refine E0 (wanted_none rfl) rfl (y_c8to32 rfl Tryd.underlying5 Tryd.underlying123 rfl) ?_
  refine E0 (wanted_none rfl) rfl (y_c8to32 rfl Tryd.underlying5 Tryd.underlying123 rfl) ?_
  refine E0 (wanted_none rfl) rfl (y_shl32 rfl rfl rfl (s := 8) (by first | rfl | omega) (by omega)) ?_
  refine E0 (wanted_none rfl) rfl (y_shl32 rfl rfl rfl (s := 16) (by first | rfl | omega) (by omega)) ?_
  refine E0 (wanted_none rfl) rfl (y_shl32 rfl rfl rfl (s := 24) (by first | rfl | omega) (by omega)) ?_
  refine E0 (wanted_none rfl) rfl (y_or32 rfl rfl rfl) ?_
  refine E0 (wanted_none rfl) rfl (y_or32 rfl rfl rfl) ?_
  refine E0 (wanted_none rfl) rfl (y_or32 rfl rfl rfl) ?_
  refine E0 (wanted_none rfl) rfl (y_assign (v := Value.int _ _) rfl rfl) ?_
  refine Enil ?_
  refine W_ret ?_
  refine fin1 (fn := Tryd.f149) rfl rfl ?_
  exact ⟨rfl, hs3⟩
end Go.Proofs.YtkolfgmpmnelmabDoor
