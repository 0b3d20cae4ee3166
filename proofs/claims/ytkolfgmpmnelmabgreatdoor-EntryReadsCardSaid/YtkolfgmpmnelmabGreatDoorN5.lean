/-
  Walks: slices of files, and of cells: Contains, ContainsFunc, Equal, EqualFunc, IsSorted; entry.Free; held, sameFiles.
-/
import Derived.Test.YtkolfgmpmnelmabGreatDoorN4
import Derived.Test.YtkolfgmpmnelmabGreatDoorVq
namespace Go.Proofs.YtkolfgmpmnelmabGreatDoor.Ent
open Go Vx Go.Proofs
set_option linter.unusedVariables false
set_option maxRecDepth 8000
set_option maxHeartbeats 1000000
@[reducible] def ivs (l : List Int) : Nat → Value := fun k => iv (l.getD k 0)
theorem y_makeFunc {P : Program} {n : Nat} {e : Env} {o : Oper} {f : FuncId} {caps : Array Operand} {vs : List Value} (ho : o.op = .makeFunc (.func f) #[] caps) (hc : caps.toList.map (opv n e) = vs) : Y0 P n e o (.func (.func f) #[] ⟨vs⟩) := fun w => by
  have h : caps.map (opv n e) = ⟨vs⟩ := Array.ext' (by rw [Array.toList_map, hc])
  simp [execOp, ho, Instr.makeFunc, h]
theorem take_mem_snoc {l : List Int} {i : Nat} {x : Int} (hi : i < l.length) (h : x ∉ l.take i) (hx : ¬ x = l.getD i 0) : x ∉ l.take (i + 1) := by
  rw [take_snoc hi]
  simp only [List.mem_append, List.mem_singleton, not_or]
  exact ⟨h, hx⟩
theorem index_any (l : List Int) (x : Int) (va : Value) (hl : l.length ≤ 9223372036854775807) (w : World) (hSa : Sl w va l.length (ivs l)) :
    C Tryz.prog 48 ⟨[va, iv x]⟩ w fun v w' => (∃ i : Int, v = iv i ∧ (0 ≤ i ↔ x ∈ l)) ∧ St w [] w' := by
  refine C_enter (n := 19) Tryz.func48 rfl rfl rfl (fun w1 hs1 => ?_)
  refine W_seq ?_
  refine W_region ?_
  refine L0 (wanted_none rfl) rfl (y_assign (v := Value.int _ _) rfl rfl) ?_
  refine Lnil ?_
  refine W_seq ?_
  refine W_seq ?_
  refine W_region ?_
  refine L0 (wanted_none rfl) rfl (y_move (v := va) rfl rfl) ?_
  refine L0 (wanted_none rfl) rfl (y_slenSl rfl Tryz.underlying35 rfl hSa) ?_
  refine L0 (wanted_none rfl) rfl (y_move (v := Value.int _ _) rfl rfl) ?_
  refine Lnil ?_
  refine W_block ?_
  refine W_loop (G := Nat) (fun i aL wl => ∃ e, aL = A 19 ((8, iv i) :: (7, iv l.length) :: (0, va) :: (1, iv x) :: e) ∧ i ≤ l.length ∧ x ∉ l.take i ∧ St w [] wl) (fun i => l.length - i) (0) ?_ ?_
  · exact ⟨_, A_pins _ _ [8, 7, 0, 1], by omega, by simp, hs1⟩
  rintro i _ w2 ⟨ehs3, rfl, hi, hany, hs3⟩
  refine W_seq ?_
  refine W_region ?_
  refine L0 (wanted_none rfl) rfl (y_lt rfl rfl rfl) ?_
  refine Lnil ?_
  refine W_seq ?_
  refine Wsp (t := 9) rfl (fun h4 => ?_) (fun h4 => ?_)
  · have h4' := h4
    first | replace h4' := of_decide_eq_true h4' | replace h4' := bnT' h4' | skip
    refine W_condT rfl h4 ?_
    refine W_skip ?_
    refine W_seq ?_
    refine W_block ?_
    refine W_seq ?_
    refine W_region ?_
    refine L0 (wanted_none rfl) rfl (y_move (v := Value.int _ _) rfl rfl) ?_
    refine L0 (wanted_none rfl) rfl (y_assign (v := Value.int _ _) rfl rfl) ?_
    refine Lnil ?_
    refine W_seq ?_
    refine W_region ?_
    refine L0 (wanted_none rfl) rfl (y_move (v := Value.int _ _) rfl rfl) ?_
    refine L0 (wanted_none rfl) rfl (y_move (v := va) rfl rfl) ?_
    refine L0 (wanted_none rfl) rfl (y_move (v := Value.int _ _) rfl rfl) ?_
    refine L0 (wanted_none rfl) rfl (y_indexSlAt rfl Tryz.underlying35 sz3 rfl rfl hSa (by omega) (by omega)) ?_
    refine L1 (wanted_none rfl) rfl hs3 (y_loadSl i rfl Tryz.underlying3 rfl rfl hSa (by omega) (by omega) (by intro k hk; first | (simp [keys] at hk; done) | (simp [keys] at hk; omega))) ?_
    refine L0 (wanted_none rfl) rfl (y_eq rfl rfl rfl) ?_
    refine Lnil ?_
    refine Wsp (t := 16) rfl (fun h5 => ?_) (fun h5 => ?_)
    · have h5' := h5
      first | replace h5' := of_decide_eq_true h5' | replace h5' := bnT' h5' | skip
      refine W_condT rfl h5 ?_
      refine W_seq ?_
      refine W_region ?_
      refine L0 (wanted_none rfl) rfl (y_move (v := Value.int _ _) rfl rfl) ?_
      refine L0 (wanted_none rfl) rfl (y_assign (v := Value.int _ _) rfl rfl) ?_
      refine Lnil ?_
      refine W_ret ?_
      refine fin1 (fn := Tryz.f48) rfl rfl ?_
      have hpi : x = l.getD i 0 := by assumption
      exact ⟨⟨(i : Int), rfl, fun _ => hpi ▸ getD_mem (by omega), fun _ => by omega⟩, hs3⟩
    · have h5' := h5
      first | replace h5' := of_decide_eq_false h5' | replace h5' := bnF' h5' | skip
      refine W_condF rfl h5 ?_
      refine W_skip ?_
      refine W_region ?_
      refine L0 (wanted_none rfl) rfl (y_add64 rfl rfl rfl (by omega)) ?_
      refine L0 (wanted_none rfl) rfl (y_move (v := Value.int _ _) rfl rfl) ?_
      refine Lnil ?_
      exact ⟨i + 1, by first | omega | (dsimp only; done) | (dsimp only; omega), _, A_c (iv_eq (by first | omega | (dsimp only; done) | (dsimp only; omega))) (A_c rfl (A_c rfl (A_c rfl (rfl)))), by omega, take_mem_snoc (by omega) hany (by assumption), hs3⟩
  · have h4' := h4
    first | replace h4' := of_decide_eq_false h4' | replace h4' := bnF' h4' | skip
    refine W_condF rfl h4 ?_
    refine W_exit ?_
    refine W_seq ?_
    refine W_region ?_
    refine L0 (wanted_none rfl) rfl (y_assign (v := Value.int _ _) rfl rfl) ?_
    refine Lnil ?_
    refine W_ret ?_
    refine fin1 (fn := Tryz.f48) rfl rfl ?_
    obtain rfl : i = l.length := by omega
    rw [List.take_length] at hany
    exact ⟨⟨(-1 : Int), rfl, fun h => absurd h (by omega), fun h => absurd h hany⟩, hs3⟩
theorem contains_any (l : List Int) (x : Int) (va : Value) (hl : l.length ≤ 9223372036854775807) (w : World) (hSa : Sl w va l.length (ivs l)) :
    C Tryz.prog 29 ⟨[va, iv x]⟩ w fun v w' => v = .bool (decide (x ∈ l)) ∧ St w [] w' := by
  refine C_enter (n := 9) Tryz.func29 rfl rfl rfl (fun w1 hs1 => ?_)
  refine W_seq ?_
  refine W_region ?_
  refine L0 (wanted_none rfl) rfl (y_assign (v := Value.bool _) rfl rfl) ?_
  refine Lnil ?_
  refine W_seq ?_
  refine W_region ?_
  refine L0 (wanted_none rfl) rfl (y_move (v := va) rfl rfl) ?_
  refine L0 (wanted_none rfl) rfl (y_move (v := Value.int _ _) rfl rfl) ?_
  refine Lc (wanted_none rfl) (c_call rfl rfl rfl Tryz.func48 (by kernel_rfl) rfl (index_any l x va hl w1 (hSa.keep0 hs1)) rfl ?_)
  rintro _ w2 ⟨⟨i, rfl, hi⟩, hc3⟩
  have hs4 := hs1.call0 hc3
  refine L0 (wanted_none rfl) rfl (y_ge rfl rfl rfl) ?_
  refine L0 (wanted_none rfl) rfl (y_assign (v := Value.bool _) rfl rfl) ?_
  refine Lnil ?_
  refine W_ret ?_
  refine fin1 (fn := Tryz.f29) rfl rfl ?_
  exact ⟨congrArg Value.bool (by rw [Bool.eq_iff_iff, decide_eq_true_iff, decide_eq_true_iff]; exact hi), hs4⟩
/-! ### Files -/
theorem anyFl_snoc {l : List Fl} {i : Nat} {pr : Fl → Bool} (hi : i < l.length) (h : (l.take i).any pr = false) (hp : pr (l.getD i default) = false) : (l.take (i + 1)).any pr = false := by
  rw [List.take_succ_eq_append_getElem hi, List.any_append, h]
  simpa [List.getD_eq_getElem?_getD, hi] using hp
theorem anyFl_at {l : List Fl} {i : Nat} {pr : Fl → Bool} (hi : i < l.length) (hp : pr (l.getD i default) = true) : l.any pr = true := List.any_eq_true.2 ⟨_, getDFl_mem hi, hp⟩
theorem indexFl_any (l : List Fl) (va : Value) (vc : Nat → Value) (g : Nat) (fn : Func) (caps : List Value) (pr : Fl → Bool) (hl : l.length ≤ 9223372036854775807) (hfn : Tryz.prog.funcs[g]? = some fn) (hnm : (fn.name == "runtime.NumGoroutine") = false) (hbody : fn.body.isNone = false) (w : World) (hF : FlsAt w va l vc)
    (hp : ∀ i, i < l.length → ∀ w', St w [] w' → C Tryz.prog g ⟨[.agg ⟨flCells (l.getD i default) (vc i)⟩] ++ caps⟩ w' fun v w'' => v = .bool (pr (l.getD i default)) ∧ St w' [] w'') :
    C Tryz.prog 47 ⟨[va, .func (.func g) #[] ⟨caps⟩]⟩ w fun v w' => (∃ i : Int, v = iv i ∧ (0 ≤ i ↔ l.any pr = true)) ∧ St w [] w' := by
  refine C_enter (n := 19) Tryz.func47 rfl rfl rfl (fun w1 hs1 => ?_)
  refine W_seq ?_
  refine W_region ?_
  refine L0 (wanted_none rfl) rfl (y_assign (v := Value.int _ _) rfl rfl) ?_
  refine Lnil ?_
  refine W_seq ?_
  refine W_seq ?_
  refine W_region ?_
  refine L0 (wanted_none rfl) rfl (y_move (v := va) rfl rfl) ?_
  refine L0 (wanted_none rfl) rfl (y_slenOps (v := va) rfl Tryz.underlying22 rfl hF.shape) ?_
  refine L0 (wanted_none rfl) rfl (y_move (v := Value.int _ _) rfl rfl) ?_
  refine Lnil ?_
  refine W_block ?_
  refine W_loop (G := Nat) (fun i aL wl => ∃ e, aL = A 19 ((8, iv i) :: (7, iv l.length) :: (0, va) :: (1, .func (.func g) #[] ⟨caps⟩) :: e) ∧ i ≤ l.length ∧ (l.take i).any pr = false ∧ St w [] wl) (fun i => l.length - i) (0) ?_ ?_
  · exact ⟨_, A_pins _ _ [8, 7, 0, 1], by omega, by simp, hs1⟩
  rintro i _ w2 ⟨ehs3, rfl, hi, hany, hs3⟩
  refine W_seq ?_
  refine W_region ?_
  refine L0 (wanted_none rfl) rfl (y_lt rfl rfl rfl) ?_
  refine Lnil ?_
  refine W_seq ?_
  refine Wsp (t := 9) rfl (fun h4 => ?_) (fun h4 => ?_)
  · have h4' := h4
    first | replace h4' := of_decide_eq_true h4' | replace h4' := bnT' h4' | skip
    refine W_condT rfl h4 ?_
    refine W_skip ?_
    refine W_seq ?_
    refine W_block ?_
    refine W_seq ?_
    refine W_region ?_
    refine L0 (wanted_none rfl) rfl (y_move (v := Value.int _ _) rfl rfl) ?_
    refine L0 (wanted_none rfl) rfl (y_assign (v := Value.int _ _) rfl rfl) ?_
    refine Lnil ?_
    refine W_seq ?_
    refine W_region ?_
    refine L0 (wanted_none rfl) rfl (y_move (v := Value.func _ _ _) rfl rfl) ?_
    refine L0 (wanted_none rfl) rfl (y_move (v := va) rfl rfl) ?_
    refine L0 (wanted_none rfl) rfl (y_move (v := Value.int _ _) rfl rfl) ?_
    refine L0 (wanted_none rfl) rfl (y_indexOps (v := va) rfl Tryz.underlying22 sz44 rfl rfl hF.shape (by omega) (by omega)) ?_
    refine L1 (wanted_none rfl) rfl hs3 ((y_loadNOld (vs := flCells (l.getD i default) (vc i)) rfl Tryz.underlying44 rfl sz44 rfl (hF.cell i (by omega)) rfl (by decide) (by simp [keys]))) ?_
    refine Lc (wanted_none rfl) (c_call rfl rfl rfl hfn hnm hbody (hp i (by omega) w2 hs3) rfl ?_)
    rintro _ w5 ⟨rfl, hc6⟩
    have hs7 := hs3.call0 hc6
    refine Lnil ?_
    refine Wsp (t := 16) rfl (fun h8 => ?_) (fun h8 => ?_)
    · have h8' := h8
      refine W_condT rfl h8 ?_
      refine W_seq ?_
      refine W_region ?_
      refine L0 (wanted_none rfl) rfl (y_move (v := Value.int _ _) rfl rfl) ?_
      refine L0 (wanted_none rfl) rfl (y_assign (v := Value.int _ _) rfl rfl) ?_
      refine Lnil ?_
      refine W_ret ?_
      refine fin1 (fn := Tryz.f47) rfl rfl ?_
      have hpi : pr (l.getD i default) = true := by assumption
      exact ⟨⟨(i : Int), rfl, fun _ => anyFl_at (by omega) hpi, fun _ => by omega⟩, hs7⟩
    · have h8' := h8
      refine W_condF rfl h8 ?_
      refine W_skip ?_
      refine W_region ?_
      refine L0 (wanted_none rfl) rfl (y_add64 rfl rfl rfl (by omega)) ?_
      refine L0 (wanted_none rfl) rfl (y_move (v := Value.int _ _) rfl rfl) ?_
      refine Lnil ?_
      exact ⟨i + 1, by first | omega | (dsimp only; done) | (dsimp only; omega), _, A_c (iv_eq (by first | omega | (dsimp only; done) | (dsimp only; omega))) (A_c rfl (A_c rfl (A_c rfl (rfl)))), by omega, anyFl_snoc (by omega) hany (by assumption), hs7⟩
  · have h4' := h4
    first | replace h4' := of_decide_eq_false h4' | replace h4' := bnF' h4' | skip
    refine W_condF rfl h4 ?_
    refine W_exit ?_
    refine W_seq ?_
    refine W_region ?_
    refine L0 (wanted_none rfl) rfl (y_assign (v := Value.int _ _) rfl rfl) ?_
    refine Lnil ?_
    refine W_ret ?_
    refine fin1 (fn := Tryz.f47) rfl rfl ?_
    obtain rfl : i = l.length := by omega
    rw [List.take_length] at hany
    exact ⟨⟨(-1 : Int), rfl, fun h => absurd h (by omega), fun h => by rw [hany] at h; cases h⟩, hs3⟩
theorem hasFl_any (l : List Fl) (va : Value) (vc : Nat → Value) (g : Nat) (fn : Func) (caps : List Value) (pr : Fl → Bool) (hl : l.length ≤ 9223372036854775807) (hfn : Tryz.prog.funcs[g]? = some fn) (hnm : (fn.name == "runtime.NumGoroutine") = false) (hbody : fn.body.isNone = false) (w : World) (hF : FlsAt w va l vc)
    (hp : ∀ i, i < l.length → ∀ w', St w [] w' → C Tryz.prog g ⟨[.agg ⟨flCells (l.getD i default) (vc i)⟩] ++ caps⟩ w' fun v w'' => v = .bool (pr (l.getD i default)) ∧ St w' [] w'') :
    C Tryz.prog 27 ⟨[va, .func (.func g) #[] ⟨caps⟩]⟩ w fun v w' => v = .bool (l.any pr) ∧ St w [] w' := by
  refine C_enter (n := 9) Tryz.func27 rfl rfl rfl (fun w1 hs1 => ?_)
  refine W_seq ?_
  refine W_region ?_
  refine L0 (wanted_none rfl) rfl (y_assign (v := Value.bool _) rfl rfl) ?_
  refine Lnil ?_
  refine W_seq ?_
  refine W_region ?_
  refine L0 (wanted_none rfl) rfl (y_move (v := va) rfl rfl) ?_
  refine L0 (wanted_none rfl) rfl (y_move (v := Value.func _ _ _) rfl rfl) ?_
  refine Lc (wanted_none rfl) (c_call rfl rfl rfl Tryz.func47 (by kernel_rfl) rfl (indexFl_any l va vc g fn caps pr hl hfn hnm hbody w1 (hF.keep0 hs1) (fun i hi w9 h9 => hp i hi w9 (hs1.trans0 h9))) rfl ?_)
  rintro _ w2 ⟨⟨i, rfl, hi⟩, hc3⟩
  have hs4 := hs1.call0 hc3
  refine L0 (wanted_none rfl) rfl (y_ge rfl rfl rfl) ?_
  refine L0 (wanted_none rfl) rfl (y_assign (v := Value.bool _) rfl rfl) ?_
  refine Lnil ?_
  refine W_ret ?_
  refine fin1 (fn := Tryz.f27) rfl rfl ?_
  exact ⟨congrArg Value.bool (by rw [Bool.eq_iff_iff, decide_eq_true_iff]; exact hi), hs4⟩
def longFl (f : Fl) : Bool := decide (40 < (f.nm.length : Int)) || decide (30 < (f.cs.length : Int))
theorem free1_any (f : Fl) (vi : Value) (k : Int) (b : Nat) (hl : f.cs.length ≤ 9223372036854775807) (w : World) (hKe : Sl w vi f.cs.length (ivs f.cs)) (hk : w.cell? ⟨b, 0, none⟩ = some (iv k)) : C Tryz.prog 28 ⟨[.agg ⟨flCells f vi⟩] ++ [pv b 0]⟩ w fun v w' => v = .bool (decide (k ∈ f.cs)) ∧ St w [] w' := by
  have hb : b < w.heap.size := by
    rcases Nat.lt_or_ge b w.heap.size with h | h
    · exact h
    · simp [World.cell?, Array.getElem?_eq_none h] at hk
  refine C_enter (n := 8) Tryz.func28 rfl rfl rfl (fun w1 hs1 => ?_)
  refine W_seq ?_
  refine W_region ?_
  refine Lc (wanted_none rfl) (c_box hs1 rfl rfl rfl (fun b2 w3 hbb2 hs4 => ?_))
  refine L0 (wanted_none rfl) rfl (y_assign (v := Value.bool _) rfl rfl) ?_
  refine Lnil ?_
  refine W_seq ?_
  refine W_region ?_
  refine L0 (wanted_none rfl) rfl (y_fieldAddr rfl Tryz.underlying44 rfl sz35 rfl) ?_
  refine L1 (wanted_none rfl) rfl hs4 ((y_load 0 rfl Tryz.underlying35 rfl rfl rfl (v := vi) rfl)) ?_
  refine L1 (wanted_none rfl) rfl hs4 ((y_loadOld rfl Tryz.underlying3 rfl rfl hk (old_notin hb (fr1 hbb2)))) ?_
  refine Lc (wanted_none rfl) (c_call rfl rfl rfl Tryz.func29 (by kernel_rfl) rfl (contains_any f.cs k vi hl w3 (hKe.keep hs4 (by intro x hx; simp [keys] at hx; omega))) rfl ?_)
  rintro _ w5 ⟨rfl, hc6⟩
  have hs7 := hs4.call0 hc6
  refine L0 (wanted_none rfl) rfl (y_assign (v := Value.bool _) rfl rfl) ?_
  refine Lnil ?_
  refine W_ret ?_
  refine fin1 (fn := Tryz.f28) rfl rfl ?_
  exact ⟨rfl, hs7.drop (.inl hbb2)⟩
theorem nof {b : Bool} (h : (!b) = false) : b = true := by cases b <;> simp_all
theorem freeTo_snoc {all : List Int} {n : Nat} : (3 + (n : Int) ∈ all → freeTo all (n + 1) = freeTo all n) ∧ (¬ (3 + (n : Int) ∈ all) → freeTo all (n + 1) = freeTo all n ++ [3 + (n : Int)]) := by
  rw [freeTo]; exact ⟨fun h => if_pos h, fun h => if_neg h⟩
theorem freeTo_len (all : List Int) : ∀ n, (freeTo all n).length ≤ n
  | 0 => by simp [freeTo]
  | n + 1 => by
    have := freeTo_len all n
    rw [freeTo]; split
    · omega
    · rw [List.length_append]; simp; omega
theorem any_all {l : List Fl} {k : Int} : l.any (fun f => decide (k ∈ f.cs)) = true ↔ k ∈ allCells l := by
  rw [List.any_eq_true, allCells, List.mem_flatMap]
  simp
theorem free_any (l : List Fl) (v0 : Value) (vc : Nat → Value) (hl : l.length ≤ 9223372036854775807) (hm : ∀ f ∈ l, f.cs.length ≤ 9223372036854775807) (w : World) (hF : FlsAt w v0 l vc) : C Tryz.prog 15 ⟨[v0]⟩ w fun v w' => Sl w' v (freeTo (allCells l) 21).length (ivs (freeTo (allCells l) 21)) ∧ St w [] w' := by
  refine C_enter (n := 19) Tryz.func15 rfl rfl rfl (fun w1 hs1 => ?_)
  refine W_seq ?_
  refine W_region ?_
  refine L0 (wanted_none rfl) rfl (y_assign (v := Value.slice _ _ _) rfl rfl) ?_
  refine Lnil ?_
  refine W_seq ?_
  refine W_region ?_
  refine L0 (wanted_none rfl) rfl (y_assign (v := Value.slice _ _ _) rfl rfl) ?_
  refine Lnil ?_
  refine W_seq ?_
  refine W_seq ?_
  refine W_region ?_
  refine Lc (wanted_none rfl) (c_alloc hs1 rfl rfl zr3 (fun b2 w3 hbb2 hs4 => ?_))
  refine Lc (wanted_none rfl) (c_store (i := 0) (v := iv _) hs4 rfl rfl rfl rfl sz3 rfl rfl (by show 0 < 1; decide) (Fz.zero _) (fun w5 hs6 => ?_))
  have hs6 := hs6.at0E (c' := ⟨[iv (3 + ((0 : Nat) : Int))]⟩) rfl
  refine Lnil ?_
  refine W_block ?_
  refine W_loop (G := Nat × Nat × Value × Blocks) (fun g aL wl => ∃ e, aL = A 19 ((4, pv g.2.1 0) :: (3, g.2.2.1) :: (0, v0) :: e) ∧ g.1 ≤ 21 ∧ w.heap.size ≤ g.2.1 ∧ Row w.heap.size 3 1 g.2.2.1 (freeTo (allCells l) g.1).length ((freeTo (allCells l) g.1).map iv) g.2.2.2 ∧ St w ((g.2.1, .cells ⟨[iv (3 + (g.1 : Int))]⟩ 3 (0, 0)) :: g.2.2.2) wl) (fun g => 21 - g.1) ((0, b2, .slice none 0 0, [])) ?_ ?_
  · exact ⟨_, A_pins _ _ [4, 3, 0], Nat.zero_le _, hbb2, Row.nil _ _ _, hs6⟩
  rintro g _ w7 ⟨ehs8, rfl, hi, hb, hrow, hs8⟩
  obtain ⟨i, b, v, ent⟩ := g
  dsimp only at *
  have hfk : ∀ k ∈ keys ((b, Obj.cells ⟨[iv (3 + (i : Int))]⟩ 3 (0, 0)) :: ent), w.heap.size ≤ k := fun k hk => by obtain ⟨x, hx, rfl⟩ := List.mem_map.1 hk; exact freshLE hb hrow.new x hx
  refine W_seq ?_
  refine W_seq ?_
  refine W_region ?_
  refine L1 (wanted_none rfl) rfl hs8 (y_load 0 rfl Tryz.underlying3 rfl rfl rfl rfl) ?_
  refine L0 (wanted_none rfl) rfl (y_lt rfl rfl rfl) ?_
  refine Lnil ?_
  refine Wsp (t := 6) rfl (fun h9 => ?_) (fun h9 => ?_)
  · have h9' := h9
    first | replace h9' := of_decide_eq_true h9' | replace h9' := bnT' h9' | skip
    refine W_condT rfl h9 ?_
    refine W_skip ?_
    refine W_seq ?_
    refine W_block ?_
    refine W_seq ?_
    refine W_region ?_
    refine L0 (wanted_none rfl) rfl (y_move (v := v0) rfl rfl) ?_
    refine L0 (wanted_none rfl) rfl (y_makeFunc (vs := [pv b 0]) rfl rfl) ?_
    refine Lc (wanted_none rfl) (c_call rfl rfl rfl Tryz.func27 (by kernel_rfl) rfl (hasFl_any l v0 vc 28 _ [pv b 0] (fun f => decide ((3 + (i : Int)) ∈ f.cs)) hl Tryz.func28 (by kernel_rfl) rfl w7 (hF.keep hs8 hfk) (fun j hj w9 h9 => free1_any _ _ _ b (hm _ (getDFl_mem hj)) w9 (((hF.cells j hj).keep hs8 hfk).keep0 h9) (by rw [cell_of_has ((hs8.call0 h9).get 0 rfl)]; rfl))) rfl ?_)
    rintro vh w10 ⟨rfl, hc11⟩
    have hs12 := hs8.call0 hc11
    refine L0 (wanted_none rfl) rfl (y_not rfl rfl) ?_
    refine Lnil ?_
    refine Wsp (t := 12) rfl (fun h13 => ?_) (fun h13 => ?_)
    · have h13' := h13
      refine W_condT rfl h13 ?_
      refine W_region ?_
      refine L0 (wanted_none rfl) rfl (y_move (v := v) rfl rfl) ?_
      refine L1 (wanted_none rfl) rfl hs12 (y_load 0 rfl Tryz.underlying3 rfl rfl rfl rfl) ?_
      refine Lc (wanted_none rfl) (c_bs1 (v0 := iv _) hs12 rfl rfl Tryz.underlying35 sz3 zr3 rfl rfl  (fun b14 w15 hbb14 hs16 => ?_))
      refine Lc (wanted_none rfl) (c_appendG (L0 := [(b14, .cells ⟨[iv (3 + (i : Int))]⟩ 3 (0, 0)), (b, .cells ⟨[iv (3 + (i : Int))]⟩ 3 (0, 0))]) (ent := ent) hs16 (List.Perm.refl _) rfl rfl Tryz.underlying35 sz3 zr3 by3 rfl rfl hrow (Nat.le_refl _) (fun x hx => .inl (hrow.new x hx)) rfl (Src.ofBlock (kk := 1) (hs16.get 0 rfl) rfl) (by simp [Value.oneCell']) (by have := freeTo_len (allCells l) i; omega) (by have := freeTo_len (allCells l) i; omega) (fun vP entP w17 hrow2' hn19 hs18 => ?_))
      have hrow2 := hrow2'
      have hnew_hrow2 := hn19
      replace hs18 := St.drop (L := (b, .cells ⟨[iv (3 + (i : Int))]⟩ 3 (0, 0)) :: entP) hs18 (.inl hbb14)
      refine L0 (wanted_none rfl) rfl (y_assign (v := vP) rfl rfl) ?_
      refine Lnil ?_
      refine W_seq ?_
      refine W_seq ?_
      refine W_region ?_
      refine L1 (wanted_none rfl) rfl hs18 (y_load 0 rfl Tryz.underlying3 rfl rfl rfl rfl) ?_
      refine Lnil ?_
      refine W_region ?_
      refine Lc (wanted_none rfl) (c_alloc hs18 rfl rfl zr3 (fun b20 w21 hbb20 hs22 => ?_))
      refine Lc (wanted_none rfl) (c_store (i := 0) (v := iv _) hs22 rfl rfl rfl rfl sz3 rfl rfl (by show 0 < 1; decide) (Fz.zero _) (fun w23 hs24 => ?_))
      have hs24 := hs24.at0E (c' := ⟨[iv (3 + (i : Int))]⟩) rfl
      refine Lnil ?_
      refine W_region ?_
      refine L1 (wanted_none rfl) rfl hs24 (y_load 0 rfl Tryz.underlying3 rfl rfl rfl rfl) ?_
      refine L0 (wanted_none rfl) rfl (y_add64 rfl rfl rfl (by omega)) ?_
      refine Lc (wanted_none rfl) (c_store (i := 0) (v := iv _) hs24 rfl rfl rfl rfl sz3 rfl rfl (by show 0 < 1; decide) (Fz.zero _) (fun w25 hs26 => ?_))
      have hs26 := hs26.at0E (c' := ⟨[iv (3 + ((i + 1 : Nat) : Int))]⟩) (by show (⟨[iv (3 + (i : Int) + 1)]⟩ : Array Value) = _; rw [show (3 : Int) + i + 1 = 3 + ((i + 1 : Nat) : Int) from by omega])
      refine Lnil ?_
      exact ⟨(i + 1, b20, vP, entP), by first | omega | (dsimp only; done) | (dsimp only; omega), _, A_c rfl (A_c rfl (A_c rfl (rfl))), by omega, hbb20, (by rw [freeTo_snoc.2 (fun h => by have h7 := any_all.2 h; simp_all), List.length_append, List.map_append]; exact hrow2), (hs26.perm (List.Perm.swap _ _ _)).drop (.inl hb)⟩
    · have h13' := h13
      refine W_condF rfl h13 ?_
      refine W_skip ?_
      refine W_seq ?_
      refine W_seq ?_
      refine W_region ?_
      refine L1 (wanted_none rfl) rfl hs12 (y_load 0 rfl Tryz.underlying3 rfl rfl rfl rfl) ?_
      refine Lnil ?_
      refine W_region ?_
      refine Lc (wanted_none rfl) (c_alloc hs12 rfl rfl zr3 (fun b27 w28 hbb27 hs29 => ?_))
      refine Lc (wanted_none rfl) (c_store (i := 0) (v := iv _) hs29 rfl rfl rfl rfl sz3 rfl rfl (by show 0 < 1; decide) (Fz.zero _) (fun w30 hs31 => ?_))
      have hs31 := hs31.at0E (c' := ⟨[iv (3 + (i : Int))]⟩) rfl
      refine Lnil ?_
      refine W_region ?_
      refine L1 (wanted_none rfl) rfl hs31 (y_load 0 rfl Tryz.underlying3 rfl rfl rfl rfl) ?_
      refine L0 (wanted_none rfl) rfl (y_add64 rfl rfl rfl (by omega)) ?_
      refine Lc (wanted_none rfl) (c_store (i := 0) (v := iv _) hs31 rfl rfl rfl rfl sz3 rfl rfl (by show 0 < 1; decide) (Fz.zero _) (fun w32 hs33 => ?_))
      have hs33 := hs33.at0E (c' := ⟨[iv (3 + ((i + 1 : Nat) : Int))]⟩) (by show (⟨[iv (3 + (i : Int) + 1)]⟩ : Array Value) = _; rw [show (3 : Int) + i + 1 = 3 + ((i + 1 : Nat) : Int) from by omega])
      refine Lnil ?_
      exact ⟨(i + 1, b27, v, ent), by first | omega | (dsimp only; done) | (dsimp only; omega), _, A_c rfl (A_c rfl (A_c rfl (rfl))), by omega, hbb27, (by rw [freeTo_snoc.1 (any_all.1 (nof (by assumption)))]; exact hrow), (hs33.perm (List.Perm.swap _ _ _)).drop (.inl hb)⟩
  · have h9' := h9
    first | replace h9' := of_decide_eq_false h9' | replace h9' := bnF' h9' | skip
    refine W_condF rfl h9 ?_
    refine W_exit ?_
    refine W_seq ?_
    refine W_region ?_
    refine L0 (wanted_none rfl) rfl (y_move (v := v) rfl rfl) ?_
    refine L0 (wanted_none rfl) rfl (y_assign (v := v) rfl rfl) ?_
    refine Lnil ?_
    refine W_ret ?_
    refine fin1 (fn := Tryz.f15) rfl rfl ?_
    obtain rfl : i = 21 := by omega
    exact ⟨hrow.sl hs8 (fun x hx => List.mem_cons_of_mem _ hx) 0, hs8.drops (fun x hx => .inl (freshLE hb hrow.new x hx))⟩
end Go.Proofs.YtkolfgmpmnelmabGreatDoor.Ent
