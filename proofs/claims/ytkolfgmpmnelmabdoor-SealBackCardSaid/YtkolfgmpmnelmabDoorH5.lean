/-
  Walks: sum.Mark, keep.marked, keep.summed; what is marked, in plain words.
-/
import Derived.Test.YtkolfgmpmnelmabDoorH4
import Derived.Test.YtkolfgmpmnelmabDoorS3
namespace Go.Proofs.YtkolfgmpmnelmabDoor
open Go Vx Go.Proofs
set_option linter.unusedVariables false
set_option maxRecDepth 4000
set_option maxHeartbeats 400000

def part (p : List UInt8) : List UInt8 := numOf p.length ++ p
def markS (s : List UInt8) (l : List (List UInt8)) : List UInt8 := l.foldl (fun s p => s ++ (numOf p.length ++ p)) s
def markT (k : UInt8) (l : List (List UInt8)) (i : Nat) : List UInt8 := markS [k] (l.take i)
def markOf (k : UInt8) (l : List (List UInt8)) : List UInt8 := (shaOf (markS [k] l)).take 16
theorem markT_succ (k : UInt8) (l : List (List UInt8)) (i : Nat) (h : i < l.length) : markT k l (i + 1) = markT k l i ++ (numOf (l.getD i []).length ++ l.getD i []) := by
  rw [markT, List.take_succ_eq_append_getElem h, markS, List.foldl_append]
  simp [markT, markS, List.getD_eq_getElem?_getD, h]
theorem markS_le (l : List (List UInt8)) : ∀ s, s.length ≤ (markS s l).length := by
  induction l with
  | nil => intro s; exact Nat.le_refl _
  | cons p l ih => intro s; exact Nat.le_trans (by simp) (ih (s ++ (numOf p.length ++ p)))
theorem markT_le (k : UInt8) (l : List (List UInt8)) (i : Nat) : (markT k l i).length ≤ (markS [k] l).length := by
  have h : markS [k] l = markS (markT k l i) (l.drop i) := by
    rw [markT, markS, markS, markS, ← List.foldl_append, List.take_append_drop]
  rw [h]; exact markS_le _ _
theorem markT_lt (k : UInt8) (l : List (List UInt8)) (i : Nat) (h : i < l.length) : (markT k l i).length + (8 + (l.getD i []).length) ≤ (markS [k] l).length := by
  have h1 := markT_le k l (i + 1)
  rw [markT_succ k l i h] at h1
  simp only [List.length_append, numOf_len] at h1
  exact h1
theorem markT_all (k : UInt8) (l : List (List UInt8)) : markT k l l.length = markS [k] l := by rw [markT, List.take_length]
theorem mark_any (k : UInt8) (l : List (List UInt8)) (va : Value) (hbig : (markS [k] l).length ≤ 1099511627776) (hl : l.length ≤ 9223372036854775807) (w : World) (hr : RoundsAt w) (hSa : Sl w va l.length (strs l)) :
    C Tryd.prog 24 ⟨[bv k, va]⟩ w fun v w' => v = str (markOf k l) ∧ St w [] w' := by
  refine C_enter (n := 28) Tryd.func24 rfl rfl rfl (fun w1 hs1 => ?_)
  refine W_seq ?_
  refine W_region ?_
  refine L0 (wanted_none rfl) rfl (y_assign (v := Value.string ⟨⟨_⟩⟩) rfl rfl) ?_
  refine Lnil ?_
  refine W_seq ?_
  refine W_region ?_
  refine L0 (wanted_none rfl) rfl (y_move (v := Value.int _ _) rfl rfl) ?_
  refine Lc (wanted_none rfl) (c_bs1 (v0 := bv _) hs1 rfl rfl Tryd.underlying113 sz5 zr5 rfl rfl (fun b2 w3 hbb2 hs4 => ?_))
  refine L1 (wanted_none rfl) rfl hs4 (y_bstr rfl Tryd.underlying113 Tryd.underlying5 Tryd.underlying9 rfl (Row.of_block (E := 5) (xs := bs [k]) hbb2 (by simp)) (fun x hx => by first | exact hx | exact List.mem_cons.2 (.inl (List.mem_singleton.1 hx)) | simp [hx])) ?_
  refine L0 (wanted_none rfl) rfl (y_assign (v := Value.string ⟨⟨_⟩⟩) rfl rfl) ?_
  refine Lnil ?_
  refine W_seq ?_
  refine W_seq ?_
  refine W_region ?_
  refine L0 (wanted_none rfl) rfl (y_move (v := va) rfl rfl) ?_
  refine L0 (wanted_none rfl) rfl (y_slenSl rfl Tryd.underlying22 rfl hSa) ?_
  refine L0 (wanted_none rfl) rfl (y_move (v := Value.int _ _) rfl rfl) ?_
  refine Lnil ?_
  refine W_block ?_
  refine W_loop (G := Nat) (fun i aL wl => ∃ e, aL = A 28 ((13, iv i) :: (12, iv l.length) :: (11, va) :: (5, str (markT k l i)) :: e) ∧ i ≤ l.length ∧ St w [(b2, .cells ⟨[bv k]⟩ 5 (0, 0))] wl) (fun i => l.length - i) (0) ?_ ?_
  · exact ⟨_, A_pins _ _ [13, 12, 11, 5], by omega, hs4⟩
  rintro i _ w5 ⟨ehs6, rfl, hi, hs6⟩
  refine W_seq ?_
  refine W_region ?_
  refine L0 (wanted_none rfl) rfl (y_lt rfl rfl rfl) ?_
  refine Lnil ?_
  refine W_seq ?_
  refine Wsp (t := 14) rfl (fun h7 => ?_) (fun h7 => ?_)
  · have h7' := h7
    first | replace h7' := of_decide_eq_true h7' | replace h7' := bnT' h7' | skip
    refine W_condT rfl h7 ?_
    refine W_skip ?_
    refine W_seq ?_
    refine W_block ?_
    refine W_seq ?_
    refine W_region ?_
    refine L0 (wanted_none rfl) rfl (y_indexSlAt rfl Tryd.underlying22 sz9 rfl rfl hSa (by omega) (by omega)) ?_
    refine L1 (wanted_none rfl) rfl hs6 (y_loadSl i rfl Tryd.underlying9 rfl rfl hSa (by omega) (by omega) (by intro k hk; first | (simp [keys] at hk; done) | (simp [keys] at hk; omega))) ?_
    refine L0 (wanted_none rfl) rfl (y_assign (v := Value.string ⟨⟨_⟩⟩) rfl rfl) ?_
    refine Lnil ?_
    refine W_region ?_
    refine L0 (wanted_none rfl) rfl (y_move (v := Value.string ⟨⟨_⟩⟩) rfl rfl) ?_
    refine L0 (wanted_none rfl) rfl (y_move (v := Value.string ⟨⟨_⟩⟩) rfl rfl) ?_
    refine L0 (wanted_none rfl) rfl (y_len rfl Tryd.underlying9 rfl) ?_
    refine Lc (wanted_none rfl) (c_call rfl rfl rfl Tryd.func25 (by kernel_rfl) rfl (num_any _ w5) rfl ?_)
    rintro _ w8 ⟨rfl, hc9⟩
    have hs10 := hs6.call0 hc9
    refine L0 (wanted_none rfl) rfl (y_move (v := Value.string ⟨⟨_⟩⟩) rfl rfl) ?_
    refine L0 (wanted_none rfl) rfl (y_scat rfl rfl rfl (by have := markT_lt k l i (by omega); rw [numOf_len]; omega)) ?_
    refine L0 (wanted_none rfl) rfl (y_scat rfl rfl rfl (by have := markT_lt k l i (by omega); rw [List.length_append, numOf_len]; omega)) ?_
    refine L0 (wanted_none rfl) rfl (y_assign (v := Value.string ⟨⟨_⟩⟩) rfl rfl) ?_
    refine Lnil ?_
    refine W_region ?_
    refine L0 (wanted_none rfl) rfl (y_add64 rfl rfl rfl (by omega)) ?_
    refine L0 (wanted_none rfl) rfl (y_move (v := Value.int _ _) rfl rfl) ?_
    refine Lnil ?_
    have hms : str (markT k l i ++ (numOf (l.getD i []).length ++ l.getD i [])) = str (markT k l (i + 1)) := by rw [markT_succ k l i (by omega)]
    exact ⟨i + 1, by (try dsimp only); omega, _, A_c (iv_eq (by (try dsimp only); omega)) (A_c rfl (A_c rfl (A_c hms (rfl)))), by omega, hs10⟩
  · have h7' := h7
    first | replace h7' := of_decide_eq_false h7' | replace h7' := bnF' h7' | skip
    refine W_condF rfl h7 ?_
    refine W_exit ?_
    refine W_seq ?_
    refine W_region ?_
    refine L0 (wanted_none rfl) rfl (y_move (v := Value.string ⟨⟨_⟩⟩) rfl rfl) ?_
    refine Lc (wanted_none rfl) (c_call rfl rfl rfl Tryd.func79 (by kernel_rfl) rfl (sum_any _ (by have := markT_le k l i; omega) w5 (hr.keep hs6 (by have := hbb2; have := hr.1; simp [keys]; omega))) rfl ?_)
    rintro _ w11 ⟨rfl, hc12⟩
    have hs13 := hs6.call0 hc12
    refine L0 (wanted_none rfl) rfl (y_sslice_hi rfl Tryd.underlying9 rfl rfl (by rw [shaOf_len]; omega)) ?_
    refine L0 (wanted_none rfl) rfl (y_assign (v := Value.string ⟨⟨_⟩⟩) rfl rfl) ?_
    refine Lnil ?_
    refine W_ret ?_
    refine fin1 (fn := Tryd.f24) rfl rfl ?_
    obtain rfl : i = l.length := by omega
    rw [markT_all]
    exact ⟨rfl, hs13.drop (.inl hbb2)⟩
end Go.Proofs.YtkolfgmpmnelmabDoor
