/-
  Plain words: heads of what is written; how long it is; cells that nobody has.
-/
import Derived.Test.YtkolfgmpmnelmabGreatDoorQ1
namespace Go.Proofs.YtkolfgmpmnelmabGreatDoor.Ent
open Go

theorem RightP.take {l : List Fl} (h : RightP l) (k : Nat) : RightP (l.take k) := by
  have hs : allCells (l.take k) <+: allCells l := by
    refine ⟨allCells (l.drop k), ?_⟩
    rw [allCells, allCells, allCells, ← List.flatMap_append, List.take_append_drop]
  refine ⟨Nat.le_trans (List.length_take_le' _ _) h.few, fun f hf => h.name f (List.mem_of_mem_take hf), fun i hi => ?_, fun f hf => h.size f (List.mem_of_mem_take hf), fun f hf => h.need f (List.mem_of_mem_take hf), fun j hj => h.range j (hs.subset hj), hs.sublist.nodup h.once⟩
  rw [List.length_take] at hi
  have e : ∀ j, j < k → (l.take k).getD j ⟨[], 0, []⟩ = l.getD j ⟨[], 0, []⟩ := fun j hj => by rw [List.getD_eq_getElem?_getD, List.getD_eq_getElem?_getD, List.getElem?_take_of_lt hj]
  rw [e _ (by omega), e _ (by omega)]
  exact h.rise i (by omega)
theorem printed_append (a b : List Fl) : printed (a ++ b) = printed a ++ printed b := by rw [printed, printed, printed, List.flatMap_append]
theorem printed_cons (f : Fl) (l : List Fl) : printed (f :: l) = lb f ++ 10 :: printed l := by simp [printed]
/-- A head that ends a line is the first lines. -/
theorem head_lines : ∀ (l : List Fl) (cut : Nat), (∀ f ∈ l, FlP f) → cut ≤ (printed l).length → (cut = 0 ∨ (printed l).getD (cut - 1) 0 = 10) → (printed l).take cut = printed (l.take (((printed l).take cut).count 10))
  | [], cut, _, hc, _ => by simp [printed]
  | f :: l, cut, h, hc, he => by
    have hno := lb_no (h f (by simp))
    rcases Nat.lt_or_ge (lb f).length cut with hlt | hge
    · obtain ⟨c, rfl⟩ : ∃ c, cut = (lb f).length + (c + 1) := ⟨cut - (lb f).length - 1, by omega⟩
      have e1 : (printed (f :: l)).take ((lb f).length + (c + 1)) = lb f ++ 10 :: (printed l).take c := by
        rw [printed_cons, List.take_length_add_append, List.take_succ_cons]
      have hcnt : (lb f ++ 10 :: (printed l).take c).count 10 = ((printed l).take c).count 10 + 1 := by
        rw [List.count_append, List.count_eq_zero_of_not_mem hno, List.count_cons]; simp
      rw [e1, hcnt, List.take_succ_cons, printed_cons]
      rw [← head_lines l c (fun g hg => h g (by simp [hg])) ?_ ?_]
      · rw [printed_cons, List.length_append, List.length_cons] at hc; omega
      · cases c with
        | zero => exact .inl rfl
        | succ c =>
          right
          rcases he with he | he
          · omega
          · rw [printed_cons] at he
            have e2 : (lb f).length + (c + 1 + 1) - 1 = (lb f).length + (c + 1) := by omega
            rw [e2] at he
            rw [List.getD_eq_getElem?_getD, List.getElem?_append_right (by omega)] at he
            rw [show (lb f).length + (c + 1) - (lb f).length = c + 1 from by omega, List.getElem?_cons_succ] at he
            rw [List.getD_eq_getElem?_getD]; simpa using he
    · have e1 : (printed (f :: l)).take cut = (lb f).take cut := by rw [printed_cons, List.take_append_of_le_length hge]
      have hn : (10 : UInt8) ∉ (lb f).take cut := fun hm => hno (List.mem_of_mem_take hm)
      rw [e1, List.count_eq_zero_of_not_mem hn, List.take_zero]
      rcases he with rfl | he
      · simp [printed]
      · cases cut with
        | zero => simp [printed]
        | succ c =>
          exfalso
          rw [printed_cons, Nat.add_sub_cancel, List.getD_eq_getElem?_getD, List.getElem?_append_left (by omega)] at he
          rw [List.getElem?_eq_getElem (by omega)] at he
          exact hno (he ▸ List.getElem_mem (show c < (lb f).length by omega))
/-- What does not end a line is no file's. -/
theorem head_none {s : List UInt8} (h : s ≠ []) (he : s.getLast? ≠ some 10) : Reads s none := fun m _ e => by
  cases m with
  | nil => exact h e.symm
  | cons f m =>
    obtain ⟨r, hr⟩ := printed_cut (f :: m) (by simp)
    rw [hr] at e
    exact he (by rw [← e]; simp)
theorem getLast_take {s : List UInt8} {cut : Nat} (h0 : 0 < cut) (h1 : cut ≤ s.length) : (s.take cut).getLast? = some (s.getD (cut - 1) 0) := by
  rw [List.getLast?_eq_getElem?, List.length_take, Nat.min_eq_left h1, List.getElem?_take_of_lt (by omega), List.getD_eq_getElem?_getD, List.getElem?_eq_getElem (by omega)]; simp
/-! ### How long -/
theorem dec_len {n : Nat} (h : n < 10000) : (Lib.decDigits n).length ≤ 4 := by
  rw [Lib.decDigits_length]
  by_cases h1 : n < 10
  · rw [Lib.nDigits_small h1]; omega
  by_cases h2 : n / 10 < 10
  · rw [Lib.nDigits_big h1, Lib.nDigits_small h2]; omega
  by_cases h3 : n / 10 / 10 < 10
  · rw [Lib.nDigits_big h1, Lib.nDigits_big h2, Lib.nDigits_small h3]; omega
  · rw [Lib.nDigits_big h1, Lib.nDigits_big h2, Lib.nDigits_big h3, Lib.nDigits_small (by omega)]; omega
theorem dec_len2 {n : Nat} (h : n < 100) : (Lib.decDigits n).length ≤ 2 := by
  rw [Lib.decDigits_length]
  by_cases h1 : n < 10
  · rw [Lib.nDigits_small h1]; omega
  · rw [Lib.nDigits_big h1, Lib.nDigits_small (by omega)]; omega
theorem cells_len : ∀ (l : List Int), (∀ k ∈ l, 3 ≤ k ∧ k < 24) → (l.flatMap fun k => 32 :: Lib.itoa k).length ≤ 3 * l.length
  | [], _ => by simp
  | k :: l, h => by
    have h1 := h k (by simp)
    have h2 := cells_len l (fun j hj => h j (by simp [hj]))
    have h3 : (Lib.itoa k).length ≤ 2 := by rw [itoa_small (by omega)]; exact dec_len2 (by omega)
    simp only [List.flatMap_cons, List.length_append, List.length_cons]; omega
theorem lb_len {f : Fl} (h : FlP f) : (lb f).length ≤ 15 + 3 * f.cs.length := by
  have h1 := h.name.len
  have h2 := h.size
  have h3 : (Lib.itoa f.sz).length ≤ 4 := by rw [itoa_small (by omega)]; exact dec_len (by omega)
  have h4 := cells_len f.cs h.cell
  simp only [lb, nums, List.flatMap_cons, List.length_append, List.length_cons]; omega
theorem printed_len : ∀ (l : List Fl), (∀ f ∈ l, FlP f) → (printed l).length ≤ 16 * l.length + 3 * (allCells l).length
  | [], _ => by simp [printed]
  | f :: l, h => by
    have h1 := lb_len (h f (by simp))
    have h2 := printed_len l (fun g hg => h g (by simp [hg]))
    have h3 : (allCells (f :: l)).length = f.cs.length + (allCells l).length := by simp [allCells]
    rw [printed_cons, List.length_append, List.length_cons, h3, List.length_cons]; omega
/-! ### Cells that nobody has -/
theorem nodup_len : ∀ (n : Nat) (l : List Int), l.Nodup → (∀ k ∈ l, 3 ≤ k ∧ k < 3 + (n : Int)) → l.length ≤ n
  | 0, l, _, h => by
    cases l with
    | nil => simp
    | cons k r => have := h k (by simp); omega
  | n + 1, l, hn, h => by
    have h1 := nodup_len n (l.erase (3 + n)) (hn.erase _) (fun k hk => by
      have h2 := h k (List.mem_of_mem_erase hk)
      have h3 : k ≠ 3 + n := fun e => by
        subst e
        exact (List.Nodup.not_mem_erase hn) hk
      omega)
    have h2 := List.length_erase_le (a := (3 + n : Int)) (l := l)
    have h3 : l.length ≤ (l.erase (3 + (n : Int))).length + 1 := by
      rw [List.length_erase]; split <;> omega
    omega
theorem RightP.cells21 {l : List Fl} (h : RightP l) : (allCells l).length ≤ 21 := nodup_len 21 _ h.once (fun k hk => by have := h.range k hk; omega)
theorem RightP.len240 {l : List Fl} (h : RightP l) : (printed l).length ≤ 240 := by
  have h1 := printed_len l (fun f hf => h.fl hf)
  have := h.few; have := h.cells21; omega
/-- The cells from 3 on, n of them, that are not in this list. -/
def freeTo (all : List Int) : Nat → List Int
  | 0 => []
  | n + 1 => if (3 + (n : Int)) ∈ all then freeTo all n else freeTo all n ++ [3 + (n : Int)]
theorem freeTo_mem {all : List Int} {k : Int} : ∀ {n : Nat}, k ∈ freeTo all n ↔ (3 ≤ k ∧ k < 3 + (n : Int) ∧ k ∉ all)
  | 0 => by simp [freeTo]; omega
  | n + 1 => by
    rw [freeTo]
    split
    · rename_i h
      rw [freeTo_mem]
      constructor
      · rintro ⟨a, b, c⟩; exact ⟨a, by omega, c⟩
      · rintro ⟨a, b, c⟩
        have e : k ≠ 3 + n := fun e => c (e ▸ h)
        exact ⟨a, by omega, c⟩
    · rename_i h
      rw [List.mem_append, freeTo_mem, List.mem_singleton]
      constructor
      · rintro (⟨a, b, c⟩ | rfl)
        · exact ⟨a, by omega, c⟩
        · exact ⟨by omega, by omega, h⟩
      · rintro ⟨a, b, c⟩
        by_cases e : k = 3 + n
        · exact .inr e
        · exact .inl ⟨a, by omega, c⟩
theorem freeTo_sorted (all : List Int) : ∀ n : Nat, (freeTo all n).Pairwise (· < ·)
  | 0 => by simp [freeTo]
  | n + 1 => by
    rw [freeTo]
    split
    · exact freeTo_sorted all n
    · rw [List.pairwise_append]
      refine ⟨freeTo_sorted all n, by simp, fun a ha b hb => ?_⟩
      rw [List.mem_singleton] at hb
      have := freeTo_mem.1 ha; omega
theorem freeTo_count (all : List Int) (hn : all.Nodup) : ∀ n : Nat, ((all.filter fun k => decide (3 ≤ k ∧ k < 3 + (n : Int))).length + (freeTo all n).length) = n
  | 0 => by
    have h0 : (all.filter fun k => decide (3 ≤ k ∧ k < 3 + ((0 : Nat) : Int))) = [] := by
      rw [List.filter_eq_nil_iff]; intro k _; simp; try omega
    rw [h0]; simp [freeTo]
  | n + 1 => by
    have ih := freeTo_count all hn n
    have key : (all.filter fun k => decide (3 ≤ k ∧ k < 3 + ((n + 1 : Nat) : Int))).length = (all.filter fun k => decide (3 ≤ k ∧ k < 3 + (n : Int))).length + all.count (3 + (n : Int)) := by
      clear ih hn
      induction all with
      | nil => simp
      | cons a r ih =>
        rw [List.filter_cons, List.filter_cons, List.count_cons]
        by_cases e : a = 3 + (n : Int)
        · subst e
          rw [if_pos (by simp; omega), if_neg (by simp)]
          simp only [List.length_cons, ih]; simp only [beq_self_eq_true, if_true]; omega
        · have e2 : (a == 3 + (n : Int)) = false := by simpa using e
          by_cases e3 : 3 ≤ a ∧ a < 3 + (n : Int)
          · rw [if_pos (by simp; omega), if_pos (by simpa using e3)]
            simp only [List.length_cons, ih, e2]; simp; omega
          · rw [if_neg (by simp; omega), if_neg (by simpa using e3), ih, e2]; simp
    rw [key, freeTo]
    by_cases hm : (3 + (n : Int)) ∈ all
    · rw [if_pos hm, hn.count, if_pos hm]; omega
    · rw [if_neg hm, List.count_eq_zero_of_not_mem hm, List.length_append]; simp only [List.length_cons, List.length_nil]; omega
theorem RightP.free {l : List Fl} (h : RightP l) : (allCells l).length + (freeTo (allCells l) 21).length = 21 := by
  have h1 := freeTo_count (allCells l) h.once 21
  rw [List.filter_eq_self.2 (fun k hk => by have := h.range k hk; simp; omega)] at h1
  exact h1
end Go.Proofs.YtkolfgmpmnelmabGreatDoor.Ent
