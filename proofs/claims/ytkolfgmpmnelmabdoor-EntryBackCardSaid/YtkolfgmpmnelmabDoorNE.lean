/-
  Walks: keep.sameFiles.
-/
import Derived.Test.YtkolfgmpmnelmabDoorNC
namespace Go.Proofs.YtkolfgmpmnelmabDoor.Ent
open Go Vx Go.Proofs Go.RowKit
set_option linter.unusedVariables false
set_option maxRecDepth 8000
set_option maxHeartbeats 1000000
theorem fl_iff (f g : Fl) : f = g ↔ f.nm = g.nm ∧ f.sz = g.sz ∧ f.cs = g.cs := by cases f; cases g; simp
theorem same1_any (f g : Fl) (vi vj : Value) (hl : f.cs.length ≤ 9223372036854775807) (w : World) (hA : Sl w vi f.cs.length (ivs f.cs)) (hB : Sl w vj g.cs.length (ivs g.cs)) : C Tryd.prog 111 ⟨[.agg ⟨flCells f vi⟩, .agg ⟨flCells g vj⟩]⟩ w fun v w' => v = .bool (decide (f = g)) ∧ St w [] w' := by
  refine C_enter (n := 24) Tryd.func111 rfl rfl rfl (fun w1 hs1 => ?_)
  refine W_seq ?_
  refine W_region ?_
  refine Lc (wanted_none rfl) (c_box hs1 rfl rfl rfl (fun b2 w3 hbb2 hs4 => ?_))
  refine Lc (wanted_none rfl) (c_box hs4 rfl rfl rfl (fun b5 w6 hbb5 hs7 => ?_))
  refine L0 (wanted_none rfl) rfl (y_assign (v := Value.bool _) rfl rfl) ?_
  refine Lnil ?_
  refine W_seq ?_
  refine W_region ?_
  refine L0 (wanted_none rfl) rfl (y_fieldAddr rfl Tryd.underlying97 rfl sz9 rfl) ?_
  refine L1 (wanted_none rfl) rfl hs7 (y_load 1 rfl Tryd.underlying9 rfl rfl rfl rfl) ?_
  refine L0 (wanted_none rfl) rfl (y_fieldAddr rfl Tryd.underlying97 rfl sz9 rfl) ?_
  refine L1 (wanted_none rfl) rfl hs7 (y_load 0 rfl Tryd.underlying9 rfl rfl rfl rfl) ?_
  refine L0 (wanted_none rfl) rfl (y_seq rfl rfl rfl) ?_
  refine L0 (wanted_none rfl) rfl (y_move (v := Value.bool _) rfl rfl) ?_
  refine Lsp (t := 10) rfl (fun h8 => ?_) (fun h8 => ?_)
  · have h8' := h8
    first | replace h8' := of_decide_eq_true h8' | replace h8' := bnT' h8' | skip
    refine L0 (wanted_yesB rfl rfl rfl h8) rfl (y_fieldAddr rfl Tryd.underlying97 rfl sz3 rfl) ?_
    refine L1 (wanted_yesB rfl rfl rfl h8) rfl hs7 (y_load 1 rfl Tryd.underlying3 rfl rfl rfl rfl) ?_
    refine L0 (wanted_yesB rfl rfl rfl h8) rfl (y_fieldAddr rfl Tryd.underlying97 rfl sz3 rfl) ?_
    refine L1 (wanted_yesB rfl rfl rfl h8) rfl hs7 (y_load 0 rfl Tryd.underlying3 rfl rfl rfl rfl) ?_
    refine L0 (wanted_yesB rfl rfl rfl h8) rfl (y_eq rfl rfl rfl) ?_
    refine L0 (wanted_none rfl) rfl (y_pickT rfl rfl h8 rfl) ?_
    refine L0 (wanted_none rfl) rfl (y_move (v := Value.bool _) rfl rfl) ?_
    refine Lsp (t := 17) rfl (fun h9 => ?_) (fun h9 => ?_)
    · have h9' := h9
      first | replace h9' := of_decide_eq_true h9' | replace h9' := bnT' h9' | skip
      refine L0 (wanted_yesB rfl rfl rfl h9) rfl (y_fieldAddr rfl Tryd.underlying97 rfl sz23 rfl) ?_
      refine L1 (wanted_yesB rfl rfl rfl h9) rfl hs7 ((y_load 1 rfl Tryd.underlying23 rfl rfl rfl (v := vi) rfl)) ?_
      refine L0 (wanted_yesB rfl rfl rfl h9) rfl (y_fieldAddr rfl Tryd.underlying97 rfl sz23 rfl) ?_
      refine L1 (wanted_yesB rfl rfl rfl h9) rfl hs7 ((y_load 0 rfl Tryd.underlying23 rfl rfl rfl (v := vj) rfl)) ?_
      refine Lc (wanted_yesB rfl rfl rfl h9) (c_call rfl rfl rfl Tryd.func102 (by kernel_rfl) rfl (equalInts_any f.cs g.cs vi vj hl w6 (hA.keep hs7 (fun x hx => by obtain ⟨y, hy, rfl⟩ := List.mem_map.1 hx; exact fr2 hbb5 hbb2 y hy)) (hB.keep hs7 (fun x hx => by obtain ⟨y, hy, rfl⟩ := List.mem_map.1 hx; exact fr2 hbb5 hbb2 y hy))) rfl ?_)
      rintro _ w10 ⟨rfl, hc11⟩
      have hs12 := hs7.call0 hc11
      refine L0 (wanted_none rfl) rfl (y_pickT rfl rfl h9 rfl) ?_
      refine L0 (wanted_none rfl) rfl (y_assign (v := Value.bool _) rfl rfl) ?_
      refine Lnil ?_
      refine W_ret ?_
      refine fin1 (fn := Tryd.f111) rfl rfl ?_
      refine ⟨congrArg Value.bool ?_, (hs12.drop (.inl hbb5)).drop (.inl hbb2)⟩
      simp only [fl_iff]; simp_all
    · have h9' := h9
      first | replace h9' := of_decide_eq_false h9' | replace h9' := bnF' h9' | skip
      refine Lno (wanted_noB rfl rfl rfl h9 (by decide)) rfl ?_
      refine Lno (wanted_noB rfl rfl rfl h9 (by decide)) rfl ?_
      refine Lno (wanted_noB rfl rfl rfl h9 (by decide)) rfl ?_
      refine Lno (wanted_noB rfl rfl rfl h9 (by decide)) rfl ?_
      refine Lno (wanted_noB rfl rfl rfl h9 (by decide)) rfl ?_
      refine L0 (wanted_none rfl) rfl (y_pickF rfl rfl h9 rfl) ?_
      refine L0 (wanted_none rfl) rfl (y_assign (v := Value.bool _) rfl rfl) ?_
      refine Lnil ?_
      refine W_ret ?_
      refine fin1 (fn := Tryd.f111) rfl rfl ?_
      refine ⟨congrArg Value.bool ?_, (hs7.drop (.inl hbb5)).drop (.inl hbb2)⟩
      simp only [fl_iff]; simp_all
  · have h8' := h8
    first | replace h8' := of_decide_eq_false h8' | replace h8' := bnF' h8' | skip
    refine Lno (wanted_noB rfl rfl rfl h8 (by decide)) rfl ?_
    refine Lno (wanted_noB rfl rfl rfl h8 (by decide)) rfl ?_
    refine Lno (wanted_noB rfl rfl rfl h8 (by decide)) rfl ?_
    refine Lno (wanted_noB rfl rfl rfl h8 (by decide)) rfl ?_
    refine Lno (wanted_noB rfl rfl rfl h8 (by decide)) rfl ?_
    refine L0 (wanted_none rfl) rfl (y_pickF rfl rfl h8 rfl) ?_
    refine L0 (wanted_none rfl) rfl (y_move (v := Value.bool _) rfl rfl) ?_
    refine Lno (wanted_noB rfl rfl rfl rfl (by decide)) rfl ?_
    refine Lno (wanted_noB rfl rfl rfl rfl (by decide)) rfl ?_
    refine Lno (wanted_noB rfl rfl rfl rfl (by decide)) rfl ?_
    refine Lno (wanted_noB rfl rfl rfl rfl (by decide)) rfl ?_
    refine Lno (wanted_noB rfl rfl rfl rfl (by decide)) rfl ?_
    refine L0 (wanted_none rfl) rfl (y_pickF rfl rfl (rfl : false = false) rfl) ?_
    refine L0 (wanted_none rfl) rfl (y_assign (v := Value.bool _) rfl rfl) ?_
    refine Lnil ?_
    refine W_ret ?_
    refine fin1 (fn := Tryd.f111) rfl rfl ?_
    refine ⟨congrArg Value.bool ?_, (hs7.drop (.inl hbb5)).drop (.inl hbb2)⟩
    simp only [fl_iff]; simp_all
theorem equalFl_any (l m : List Fl) (va vb : Value) (vc vd : Nat → Value) (hl : l.length ≤ 9223372036854775807) (hlc : ∀ f ∈ l, f.cs.length ≤ 9223372036854775807) (w : World) (hF : FlsAt w va l vc) (hG : FlsAt w vb m vd) : C Tryd.prog 110 ⟨[va, vb, .func (.func 111) #[] #[]]⟩ w fun v w' => v = .bool (decide (l = m)) ∧ St w [] w' := by
  refine C_enter (n := 32) Tryd.func110 rfl rfl rfl (fun w1 hs1 => ?_)
  refine W_seq ?_
  refine W_region ?_
  refine L0 (wanted_none rfl) rfl (y_assign (v := Value.bool _) rfl rfl) ?_
  refine Lnil ?_
  refine W_seq ?_
  refine W_seq ?_
  refine W_region ?_
  refine L0 (wanted_none rfl) rfl (y_move (v := va) rfl rfl) ?_
  refine L0 (wanted_none rfl) rfl (y_slenOps (v := va) rfl Tryd.underlying87 rfl hF.shape) ?_
  refine L0 (wanted_none rfl) rfl (y_move (v := vb) rfl rfl) ?_
  refine L0 (wanted_none rfl) rfl (y_slenOps (v := vb) rfl Tryd.underlying87 rfl hG.shape) ?_
  refine L0 (wanted_none rfl) rfl (y_ne rfl rfl rfl) ?_
  refine Lnil ?_
  refine Wsp (t := 14) rfl (fun h2 => ?_) (fun h2 => ?_)
  · have h2' := h2
    first | replace h2' := of_decide_eq_true h2' | replace h2' := bnT' h2' | skip
    refine W_condT rfl h2 ?_
    refine W_seq ?_
    refine W_region ?_
    refine L0 (wanted_none rfl) rfl (y_assign (v := Value.bool _) rfl rfl) ?_
    refine Lnil ?_
    refine W_ret ?_
    refine fin1 (fn := Tryd.f110) rfl rfl ?_
    exact ⟨congrArg Value.bool (decide_eq_false (fun h => by subst h; omega)).symm, hs1⟩
  · have h2' := h2
    first | replace h2' := of_decide_eq_false h2' | replace h2' := bnF' h2' | skip
    refine W_condF rfl h2 ?_
    refine W_skip ?_
    refine W_seq ?_
    refine W_seq ?_
    refine W_region ?_
    refine L0 (wanted_none rfl) rfl (y_move (v := va) rfl rfl) ?_
    refine L0 (wanted_none rfl) rfl (y_slenOps (v := va) rfl Tryd.underlying87 rfl hF.shape) ?_
    refine L0 (wanted_none rfl) rfl (y_move (v := Value.int _ _) rfl rfl) ?_
    refine Lnil ?_
    refine W_block ?_
    have hll : l.length = m.length := by omega
    refine W_loop (G := Nat) (fun i aL wl => ∃ e, aL = A 32 ((17, iv i) :: (16, iv l.length) :: (15, va) :: (0, va) :: (1, vb) :: (2, .func (.func 111) #[] #[]) :: e) ∧ i ≤ l.length ∧ l.take i = m.take i ∧ St w [] wl) (fun i => l.length - i) (0) ?_ ?_
    · exact ⟨_, A_pins _ _ [17, 16, 15, 0, 1, 2], by omega, rfl, hs1⟩
    rintro i _ w3 ⟨ehs4, rfl, hi, hte, hs4⟩
    refine W_seq ?_
    refine W_region ?_
    refine L0 (wanted_none rfl) rfl (y_lt rfl rfl rfl) ?_
    refine Lnil ?_
    refine W_seq ?_
    refine Wsp (t := 18) rfl (fun h5 => ?_) (fun h5 => ?_)
    · have h5' := h5
      first | replace h5' := of_decide_eq_true h5' | replace h5' := bnT' h5' | skip
      refine W_condT rfl h5 ?_
      refine W_skip ?_
      refine W_seq ?_
      refine W_block ?_
      refine W_seq ?_
      refine W_region ?_
      refine L0 (wanted_none rfl) rfl (y_move (v := Value.int _ _) rfl rfl) ?_
      refine L0 (wanted_none rfl) rfl (y_indexOps (v := va) rfl Tryd.underlying87 sz97 rfl rfl hF.shape (by omega) (by omega)) ?_
      refine L1 (wanted_none rfl) rfl hs4 ((y_loadNOld (vs := flCells (l.getD i default) (vc i)) rfl Tryd.underlying97 rfl sz97 rfl (hF.cell i (by omega)) rfl (by decide) (by simp [keys]))) ?_
      refine Lc (wanted_none rfl) (c_alloc hs4 rfl rfl zr97 (fun b6 w7 hbb6 hs8 => ?_))
      refine L0 (wanted_none rfl) rfl (y_assign (v := Value.int _ _) rfl rfl) ?_
      refine Lc (wanted_none rfl) (c_storeN (i := 0) hs8 rfl rfl rfl rfl sz97 (by rfl) (by intro u hu; simp only [flCells, List.mem_cons, List.not_mem_nil, or_false] at hu; rcases hu with rfl | rfl | rfl <;> first | rfl | exact (hF.cells i (by omega)).oneE) rfl (by decide) (Fz.zero _) (fun w9 hs10 => ?_))
      have hs10 := hs10.at0E (c' := ⟨flCells (l.getD i default) (vc i)⟩) rfl
      refine Lnil ?_
      refine W_seq ?_
      refine W_region ?_
      refine L0 (wanted_none rfl) rfl (y_move (v := vb) rfl rfl) ?_
      refine L0 (wanted_none rfl) rfl (y_move (v := Value.int _ _) rfl rfl) ?_
      refine L0 (wanted_none rfl) rfl (y_indexOps (v := vb) rfl Tryd.underlying87 sz97 rfl rfl hG.shape (by omega) (by omega)) ?_
      refine L1 (wanted_none rfl) rfl hs10 ((y_loadNOld (vs := flCells (m.getD i default) (vd i)) rfl Tryd.underlying97 rfl sz97 rfl (hG.cell i (by omega)) rfl (by decide) (old_notin (hG.lt (by omega)) (fr1 hbb6)))) ?_
      refine Lc (wanted_none rfl) (c_alloc hs10 rfl rfl zr97 (fun b11 w12 hbb11 hs13 => ?_))
      refine Lc (wanted_none rfl) (c_storeN (i := 0) hs13 rfl rfl rfl rfl sz97 (by rfl) (by intro u hu; simp only [flCells, List.mem_cons, List.not_mem_nil, or_false] at hu; rcases hu with rfl | rfl | rfl <;> first | rfl | exact (hG.cells i (by omega)).oneE) rfl (by decide) (Fz.zero _) (fun w14 hs15 => ?_))
      have hs15 := hs15.at0E (c' := ⟨flCells (m.getD i default) (vd i)⟩) rfl
      refine Lnil ?_
      refine W_seq ?_
      refine W_region ?_
      refine L0 (wanted_none rfl) rfl (y_move (v := Value.func _ _ _) rfl rfl) ?_
      refine L1 (wanted_none rfl) rfl hs15 ((y_loadN 1 rfl Tryd.underlying97 rfl sz97 rfl rfl (by show 0 + 3 ≤ 3; decide))) ?_
      refine L1 (wanted_none rfl) rfl hs15 ((y_loadN 0 rfl Tryd.underlying97 rfl sz97 rfl rfl (by show 0 + 3 ≤ 3; decide))) ?_
      refine Lc (wanted_none rfl) (c_call rfl rfl rfl Tryd.func111 (by kernel_rfl) rfl (same1_any (l.getD i default) (m.getD i default) (vc i) (vd i) (hlc _ (getDFl_mem (by omega))) w14 ((hF.cells i (by omega)).keep hs15 (fun x hx => by obtain ⟨y, hy, rfl⟩ := List.mem_map.1 hx; exact fr2 hbb11 hbb6 y hy)) ((hG.cells i (by omega)).keep hs15 (fun x hx => by obtain ⟨y, hy, rfl⟩ := List.mem_map.1 hx; exact fr2 hbb11 hbb6 y hy))) rfl ?_)
      rintro _ w16 ⟨rfl, hc17⟩
      have hs18 := hs15.call0 hc17
      refine L0 (wanted_none rfl) rfl (y_not rfl rfl) ?_
      refine Lnil ?_
      refine Wsp (t := 30) rfl (fun h19 => ?_) (fun h19 => ?_)
      · have h19' := h19
        first | replace h19' := of_decide_eq_true h19' | replace h19' := bnT' h19' | skip
        refine W_condT rfl h19 ?_
        refine W_seq ?_
        refine W_region ?_
        refine L0 (wanted_none rfl) rfl (y_assign (v := Value.bool _) rfl rfl) ?_
        refine Lnil ?_
        refine W_ret ?_
        refine fin1 (fn := Tryd.f110) rfl rfl ?_
        have hne : ¬ l.getD i default = m.getD i default := by first | assumption | (simp_all; done)
        exact ⟨congrArg Value.bool (decide_eq_false (fun h => hne (by rw [h]))).symm, (hs18.drop (.inl hbb11)).drop (.inl hbb6)⟩
      · have h19' := h19
        first | replace h19' := of_decide_eq_false h19' | replace h19' := bnF' h19' | skip
        refine W_condF rfl h19 ?_
        refine W_skip ?_
        refine W_region ?_
        refine L0 (wanted_none rfl) rfl (y_add64 rfl rfl rfl (by omega)) ?_
        refine L0 (wanted_none rfl) rfl (y_move (v := Value.int _ _) rfl rfl) ?_
        refine Lnil ?_
        have hte2 : l.take (i + 1) = m.take (i + 1) := by
          have he : l.getD i default = m.getD i default := by first | assumption | (simp_all; done)
          rw [List.take_succ_eq_append_getElem (by omega), List.take_succ_eq_append_getElem (by omega), hte]
          rw [List.getD_eq_getElem?_getD, List.getD_eq_getElem?_getD, List.getElem?_eq_getElem (by omega), List.getElem?_eq_getElem (by omega)] at he
          rw [show l[i] = m[i] from he]
        exact ⟨i + 1, by first | omega | (dsimp only; done) | (dsimp only; omega), _, A_c (iv_eq (by first | omega | (dsimp only; done) | (dsimp only; omega))) (A_c rfl (A_c rfl (A_c rfl (A_c rfl (A_c rfl (rfl)))))), by omega, hte2, (hs18.drop (.inl hbb11)).drop (.inl hbb6)⟩
    · have h5' := h5
      first | replace h5' := of_decide_eq_false h5' | replace h5' := bnF' h5' | skip
      refine W_condF rfl h5 ?_
      refine W_exit ?_
      refine W_seq ?_
      refine W_region ?_
      refine L0 (wanted_none rfl) rfl (y_assign (v := Value.bool _) rfl rfl) ?_
      refine Lnil ?_
      refine W_ret ?_
      refine fin1 (fn := Tryd.f110) rfl rfl ?_
      obtain rfl : i = l.length := by omega
      rw [List.take_length, hll, List.take_length] at hte
      exact ⟨congrArg Value.bool (decide_eq_true hte).symm, hs4⟩
theorem same_any (l m : List Fl) (va vb : Value) (vc vd : Nat → Value) (hl : l.length ≤ 9223372036854775807) (hlc : ∀ f ∈ l, f.cs.length ≤ 9223372036854775807) (w : World) (hF : FlsAt w va l vc) (hG : FlsAt w vb m vd) : C Tryd.prog 61 ⟨[va, vb]⟩ w fun v w' => v = .bool (decide (l = m)) ∧ St w [] w' := by
  refine C_enter (n := 8) Tryd.func61 rfl rfl rfl (fun w1 hs1 => ?_)
  refine W_seq ?_
  refine W_region ?_
  refine L0 (wanted_none rfl) rfl (y_assign (v := Value.bool _) rfl rfl) ?_
  refine Lnil ?_
  refine W_seq ?_
  refine W_region ?_
  refine L0 (wanted_none rfl) rfl (y_move (v := va) rfl rfl) ?_
  refine L0 (wanted_none rfl) rfl (y_move (v := vb) rfl rfl) ?_
  refine Lc (wanted_none rfl) (c_call rfl rfl rfl Tryd.func110 (by kernel_rfl) rfl (equalFl_any l m va vb vc vd hl hlc w1 (hF.keep0 hs1) (hG.keep0 hs1)) rfl ?_)
  rintro _ w2 ⟨rfl, hc3⟩
  have hs4 := hs1.call0 hc3
  refine L0 (wanted_none rfl) rfl (y_assign (v := Value.bool _) rfl rfl) ?_
  refine Lnil ?_
  refine W_ret ?_
  refine fin1 (fn := Tryd.f61) rfl rfl ?_
  exact ⟨rfl, hs4⟩
end Go.Proofs.YtkolfgmpmnelmabDoor.Ent
