/-
  Walks: sum.Num, sum.Mark, slices.IndexFunc, slices.ContainsFunc, slices.Equal.
-/
import Derived.Test.YtkolfgmpmnelmabDoorH3
import Derived.Test.YtkolfgmpmnelmabDoorVi
namespace Go.Proofs.YtkolfgmpmnelmabDoor
open Go Vx Go.Proofs
set_option linter.unusedVariables false
set_option maxRecDepth 4000
set_option maxHeartbeats 400000

@[reducible] def strs (l : List (List UInt8)) (j : Nat) : Value := str (l.getD j [])
def numOf (n : Int) : List UInt8 := num8 (u64of n) 8
theorem numOf_len (n : Int) : (numOf n).length = 8 := num8_len _ _
theorem num_any (n : Int) (w : World) :
    C Tryd.prog 25 ⟨[iv n]⟩ w fun v w' => v = str (numOf n) ∧ St w [] w' := by
  refine C_enter (n := 20) Tryd.func25 rfl rfl rfl (fun w1 hs1 => ?_)
  refine W_seq ?_
  refine W_region ?_
  refine L0 (wanted_none rfl) rfl (y_assign (v := Value.string ⟨⟨_⟩⟩) rfl rfl) ?_
  refine Lnil ?_
  refine W_seq ?_
  refine W_region ?_
  refine L0 (wanted_none rfl) rfl (y_assign (v := Value.slice _ _ _) rfl rfl) ?_
  refine Lnil ?_
  refine W_seq ?_
  refine W_seq ?_
  refine W_region ?_
  refine L0 (wanted_none rfl) rfl (y_assign (v := Value.int _ _) rfl rfl) ?_
  refine Lnil ?_
  refine W_block ?_
  refine W_loop (G := Nat × Value × Blocks) (fun g aL wl => ∃ e, aL = A 20 ((4, iv (7 - (g.1 : Int))) :: (3, g.2.1) :: (0, iv n) :: e) ∧ g.1 ≤ 8 ∧ Row w.heap.size 5 1 g.2.1 g.1 (bs (num8 (u64of n) g.1)) g.2.2 ∧ St w g.2.2 wl) (fun g => 8 - g.1) ((0, .slice none 0 0, [])) ?_ ?_
  · exact ⟨_, A_pins _ _ [4, 3, 0], Nat.zero_le _, Row.nil _ _ _, hs1⟩
  rintro g _ w2 ⟨ehs3, rfl, hk, hrow, hs3⟩
  obtain ⟨k, v, ent⟩ := g
  dsimp only at *
  have hs0 := hs3
  refine W_seq ?_
  refine W_seq ?_
  refine W_region ?_
  refine L0 (wanted_none rfl) rfl (y_move (v := Value.int _ _) rfl rfl) ?_
  refine L0 (wanted_none rfl) rfl (y_ge rfl rfl rfl) ?_
  refine Lnil ?_
  refine Wsp (t := 6) rfl (fun h4 => ?_) (fun h4 => ?_)
  · have h4' := h4
    first | replace h4' := of_decide_eq_true h4' | replace h4' := bnT' h4' | skip
    refine W_condT rfl h4 ?_
    refine W_skip ?_
    refine W_seq ?_
    refine W_block ?_
    refine W_region ?_
    refine L0 (wanted_none rfl) rfl (y_move (v := v) rfl rfl) ?_
    refine L0 (wanted_none rfl) rfl (y_move (v := Value.int _ _) rfl rfl) ?_
    refine L0 (wanted_none rfl) rfl (y_cito64 rfl Tryd.underlying3 Tryd.underlying122 rfl) ?_
    refine L0 (wanted_none rfl) rfl (y_move (v := Value.int _ _) rfl rfl) ?_
    refine L0 (wanted_none rfl) rfl (y_mul64 rfl rfl rfl (by omega)) ?_
    refine L0 (wanted_none rfl) rfl (y_shr64 rfl rfl rfl (s := (8 * (7 - k))) (by first | rfl | omega) (by omega)) ?_
    refine L0 (wanted_none rfl) rfl (y_c64to8 rfl Tryd.underlying122 Tryd.underlying5 rfl) ?_
    refine Lc (wanted_none rfl) (c_bs1 (v0 := bv _) hs3 rfl rfl Tryd.underlying113 sz5 zr5 rfl rfl (fun b5 w6 hbb5 hs7 => ?_))
    refine Lc (wanted_none rfl) (c_append (L0 := []) (ent := ent) hs7 hbb5 rfl rfl Tryd.underlying113 sz5 zr5 by5 rfl (by decide) rfl hrow rfl (by decide) rfl (by simp [Value.oneCell']) (by omega) (by omega) (fun v8 ent9 w10 hrow' hs11 => ?_))
    have hrow := hrow'
    refine L0 (wanted_none rfl) rfl (y_assign (v := v8) rfl rfl) ?_
    refine Lnil ?_
    refine W_region ?_
    refine L0 (wanted_none rfl) rfl (y_move (v := Value.int _ _) rfl rfl) ?_
    refine L0 (wanted_none rfl) rfl (y_sub64 rfl rfl rfl (by omega)) ?_
    refine L0 (wanted_none rfl) rfl (y_assign (v := Value.int _ _) rfl rfl) ?_
    refine Lnil ?_
    have hrow2 : Row w.heap.size 5 1 v8 (k + 1) (bs (num8 (u64of n) (k + 1))) ent9 := by
      have h := hrow
      rw [num8]
      simp only [bs, List.map_append] at h ⊢
      exact h
    exact ⟨(k + 1, _, _), by (try dsimp only); omega, _, A_c (iv_eq (by (try dsimp only); omega)) (A_c rfl (A_c rfl (rfl))), by (dsimp only); omega, hrow2, hs11⟩
  · have h4' := h4
    first | replace h4' := of_decide_eq_false h4' | replace h4' := bnF' h4' | skip
    refine W_condF rfl h4 ?_
    refine W_exit ?_
    refine W_seq ?_
    refine W_region ?_
    refine L0 (wanted_none rfl) rfl (y_move (v := v) rfl rfl) ?_
    refine L1 (wanted_none rfl) rfl hs3 (y_bstr rfl Tryd.underlying113 Tryd.underlying5 Tryd.underlying9 rfl hrow (fun x hx => by first | exact hx | exact List.mem_cons.2 (.inl (List.mem_singleton.1 hx)) | simp [hx])) ?_
    refine L0 (wanted_none rfl) rfl (y_assign (v := Value.string ⟨⟨_⟩⟩) rfl rfl) ?_
    refine Lnil ?_
    refine W_ret ?_
    refine fin1 (fn := Tryd.f25) rfl rfl ?_
    obtain rfl : k = 8 := by omega
    exact ⟨rfl, hs3.drops (fun x hx => .inl (hrow.new x hx))⟩
theorem any_at {l : List (List UInt8)} {pr : List UInt8 → Bool} {i : Nat} (h : i < l.length) (hp : pr (l.getD i []) = true) : l.any pr = true := by
  rw [List.any_eq_true]
  exact ⟨l[i], List.getElem_mem h, by simpa [List.getD_eq_getElem?_getD, h] using hp⟩
theorem indexFunc_any (l : List (List UInt8)) (va : Value) (g : Nat) (fn : Func) (pr : List UInt8 → Bool) (hl : l.length ≤ 9223372036854775807) (hfn : Tryd.prog.funcs[g]? = some fn) (hnm : (fn.name == "runtime.NumGoroutine") = false) (hbody : fn.body.isNone = false)
    (hp : ∀ (s : List UInt8) (w : World), C Tryd.prog g ⟨[str s]⟩ w fun v w' => v = .bool (pr s) ∧ St w [] w') (w : World) (hSa : Sl w va l.length (strs l)) :
    C Tryd.prog 66 ⟨[va, .func (.func g) #[] #[]]⟩ w fun v w' => (∃ i : Int, v = iv i ∧ (0 ≤ i ↔ l.any pr = true)) ∧ St w [] w' := by
  refine C_enter (n := 19) Tryd.func66 rfl rfl rfl (fun w1 hs1 => ?_)
  refine W_seq ?_
  refine W_region ?_
  refine L0 (wanted_none rfl) rfl (y_assign (v := Value.int _ _) rfl rfl) ?_
  refine Lnil ?_
  refine W_seq ?_
  refine W_seq ?_
  refine W_region ?_
  refine L0 (wanted_none rfl) rfl (y_move (v := va) rfl rfl) ?_
  refine L0 (wanted_none rfl) rfl (y_slenSl rfl Tryd.underlying22 rfl hSa) ?_
  refine L0 (wanted_none rfl) rfl (y_move (v := Value.int _ _) rfl rfl) ?_
  refine Lnil ?_
  refine W_block ?_
  refine W_loop (G := Nat) (fun i aL wl => ∃ e, aL = A 19 ((8, iv i) :: (7, iv l.length) :: (0, va) :: (1, .func (.func g) #[] #[]) :: e) ∧ i ≤ l.length ∧ (l.take i).any pr = false ∧ St w [] wl) (fun i => l.length - i) (0) ?_ ?_
  · exact ⟨_, A_pins _ _ [8, 7, 0, 1], by omega, by simp, hs1⟩
  rintro i _ w2 ⟨ehs3, rfl, hi, hany, hs3⟩
  refine W_seq ?_
  refine W_region ?_
  refine L0 (wanted_none rfl) rfl (y_lt rfl rfl rfl) ?_
  refine Lnil ?_
  refine W_seq ?_
  refine Wsp (t := 9) rfl (fun h4 => ?_) (fun h4 => ?_)
  · have h4' := h4
    first | replace h4' := of_decide_eq_true h4' | replace h4' := bnT' h4' | skip
    refine W_condT rfl h4 ?_
    refine W_skip ?_
    refine W_seq ?_
    refine W_block ?_
    refine W_seq ?_
    refine W_region ?_
    refine L0 (wanted_none rfl) rfl (y_move (v := Value.int _ _) rfl rfl) ?_
    refine L0 (wanted_none rfl) rfl (y_assign (v := Value.int _ _) rfl rfl) ?_
    refine Lnil ?_
    refine W_seq ?_
    refine W_region ?_
    refine L0 (wanted_none rfl) rfl (y_move (v := Value.func _ _ _) rfl rfl) ?_
    refine L0 (wanted_none rfl) rfl (y_move (v := va) rfl rfl) ?_
    refine L0 (wanted_none rfl) rfl (y_move (v := Value.int _ _) rfl rfl) ?_
    refine L0 (wanted_none rfl) rfl (y_indexSlAt rfl Tryd.underlying22 sz9 rfl rfl hSa (by omega) (by omega)) ?_
    refine L1 (wanted_none rfl) rfl hs3 (y_loadSl i rfl Tryd.underlying9 rfl rfl hSa (by omega) (by omega) (by intro k hk; first | (simp [keys] at hk; done) | (simp [keys] at hk; omega))) ?_
    refine Lc (wanted_none rfl) (c_call rfl rfl rfl hfn hnm hbody (hp (l.getD i []) w2) rfl ?_)
    rintro _ w5 ⟨rfl, hc6⟩
    have hs7 := hs3.call0 hc6
    refine Lnil ?_
    refine Wsp (t := 16) rfl (fun h8 => ?_) (fun h8 => ?_)
    · have h8' := h8
      refine W_condT rfl h8 ?_
      refine W_seq ?_
      refine W_region ?_
      refine L0 (wanted_none rfl) rfl (y_move (v := Value.int _ _) rfl rfl) ?_
      refine L0 (wanted_none rfl) rfl (y_assign (v := Value.int _ _) rfl rfl) ?_
      refine Lnil ?_
      refine W_ret ?_
      refine fin1 (fn := Tryd.f66) rfl rfl ?_
      have hpi : pr (l.getD i []) = true := by assumption
      exact ⟨⟨(i : Int), rfl, fun _ => any_at (by omega) hpi, fun _ => by omega⟩, hs7⟩
    · have h8' := h8
      refine W_condF rfl h8 ?_
      refine W_skip ?_
      refine W_region ?_
      refine L0 (wanted_none rfl) rfl (y_add64 rfl rfl rfl (by omega)) ?_
      refine L0 (wanted_none rfl) rfl (y_move (v := Value.int _ _) rfl rfl) ?_
      refine Lnil ?_
      have hpi : pr (l.getD i []) = false := by assumption
      have hany2 : (l.take (i + 1)).any pr = false := by
        rw [List.take_succ_eq_append_getElem (by omega), List.any_append, hany]
        simpa [List.getD_eq_getElem?_getD, show i < l.length from by omega] using hpi
      exact ⟨i + 1, by (try dsimp only); omega, _, A_c (iv_eq (by (try dsimp only); omega)) (A_c rfl (A_c rfl (A_c rfl (rfl)))), by omega, hany2, hs7⟩
  · have h4' := h4
    first | replace h4' := of_decide_eq_false h4' | replace h4' := bnF' h4' | skip
    refine W_condF rfl h4 ?_
    refine W_exit ?_
    refine W_seq ?_
    refine W_region ?_
    refine L0 (wanted_none rfl) rfl (y_assign (v := Value.int _ _) rfl rfl) ?_
    refine Lnil ?_
    refine W_ret ?_
    refine fin1 (fn := Tryd.f66) rfl rfl ?_
    obtain rfl : i = l.length := by omega
    rw [List.take_length] at hany
    exact ⟨⟨(-1 : Int), rfl, fun h => absurd h (by omega), fun h => by rw [hany] at h; cases h⟩, hs3⟩
theorem containsFunc_any (l : List (List UInt8)) (va : Value) (g : Nat) (fn : Func) (pr : List UInt8 → Bool) (hl : l.length ≤ 9223372036854775807) (hfn : Tryd.prog.funcs[g]? = some fn) (hnm : (fn.name == "runtime.NumGoroutine") = false) (hbody : fn.body.isNone = false)
    (hp : ∀ (s : List UInt8) (w : World), C Tryd.prog g ⟨[str s]⟩ w fun v w' => v = .bool (pr s) ∧ St w [] w') (w : World) (hSa : Sl w va l.length (strs l)) :
    C Tryd.prog 10 ⟨[va, .func (.func g) #[] #[]]⟩ w fun v w' => v = .bool (l.any pr) ∧ St w [] w' := by
  refine C_enter (n := 9) Tryd.func10 rfl rfl rfl (fun w1 hs1 => ?_)
  refine W_seq ?_
  refine W_region ?_
  refine L0 (wanted_none rfl) rfl (y_assign (v := Value.bool _) rfl rfl) ?_
  refine Lnil ?_
  refine W_seq ?_
  refine W_region ?_
  refine L0 (wanted_none rfl) rfl (y_move (v := va) rfl rfl) ?_
  refine L0 (wanted_none rfl) rfl (y_move (v := Value.func _ _ _) rfl rfl) ?_
  refine Lc (wanted_none rfl) (c_call rfl rfl rfl Tryd.func66 (by kernel_rfl) rfl (indexFunc_any l va g fn pr hl hfn hnm hbody hp w1 (hSa.keep0 hs1)) rfl ?_)
  rintro _ w2 ⟨⟨i, rfl, hi⟩, hc3⟩
  have hs4 := hs1.call0 hc3
  refine L0 (wanted_none rfl) rfl (y_ge rfl rfl rfl) ?_
  refine L0 (wanted_none rfl) rfl (y_assign (v := Value.bool _) rfl rfl) ?_
  refine Lnil ?_
  refine W_ret ?_
  refine fin1 (fn := Tryd.f10) rfl rfl ?_
  exact ⟨congrArg Value.bool (by rw [Bool.eq_iff_iff, decide_eq_true_iff]; exact hi), hs4⟩
theorem equal_any (l l' : List (List UInt8)) (va vb : Value) (hl : l.length ≤ 9223372036854775807) (w : World) (hSa : Sl w va l.length (strs l)) (hSb : Sl w vb l'.length (strs l')) :
    C Tryd.prog 99 ⟨[va, vb]⟩ w fun v w' => v = .bool (decide (l = l')) ∧ St w [] w' := by
  refine C_enter (n := 26) Tryd.func99 rfl rfl rfl (fun w1 hs1 => ?_)
  refine W_seq ?_
  refine W_region ?_
  refine L0 (wanted_none rfl) rfl (y_assign (v := Value.bool _) rfl rfl) ?_
  refine Lnil ?_
  refine W_seq ?_
  refine W_seq ?_
  refine W_region ?_
  refine L0 (wanted_none rfl) rfl (y_move (v := va) rfl rfl) ?_
  refine L0 (wanted_none rfl) rfl (y_slenSl rfl Tryd.underlying22 rfl hSa) ?_
  refine L0 (wanted_none rfl) rfl (y_move (v := vb) rfl rfl) ?_
  refine L0 (wanted_none rfl) rfl (y_slenSl rfl Tryd.underlying22 rfl hSb) ?_
  refine L0 (wanted_none rfl) rfl (y_ne rfl rfl rfl) ?_
  refine Lnil ?_
  refine Wsp (t := 10) rfl (fun h2 => ?_) (fun h2 => ?_)
  · have h2' := h2
    first | replace h2' := of_decide_eq_true h2' | replace h2' := bnT' h2' | skip
    refine W_condT rfl h2 ?_
    refine W_seq ?_
    refine W_region ?_
    refine L0 (wanted_none rfl) rfl (y_assign (v := Value.bool _) rfl rfl) ?_
    refine Lnil ?_
    refine W_ret ?_
    refine fin1 (fn := Tryd.f99) rfl rfl ?_
    exact ⟨congrArg Value.bool (decide_eq_false (fun h => by subst h; omega)).symm, hs1⟩
  · have h2' := h2
    first | replace h2' := of_decide_eq_false h2' | replace h2' := bnF' h2' | skip
    refine W_condF rfl h2 ?_
    refine W_skip ?_
    refine W_seq ?_
    refine W_seq ?_
    refine W_region ?_
    refine L0 (wanted_none rfl) rfl (y_move (v := va) rfl rfl) ?_
    refine L0 (wanted_none rfl) rfl (y_slenSl rfl Tryd.underlying22 rfl hSa) ?_
    refine L0 (wanted_none rfl) rfl (y_move (v := Value.int _ _) rfl rfl) ?_
    refine Lnil ?_
    refine W_block ?_
    have hll : l.length = l'.length := by omega
    refine W_loop (G := Nat) (fun i aL wl => ∃ e, aL = A 26 ((13, iv i) :: (12, iv l.length) :: (0, va) :: (1, vb) :: e) ∧ i ≤ l.length ∧ l.take i = l'.take i ∧ St w [] wl) (fun i => l.length - i) (0) ?_ ?_
    · exact ⟨_, A_pins _ _ [13, 12, 0, 1], by omega, rfl, hs1⟩
    rintro i _ w3 ⟨ehs4, rfl, hi, hte, hs4⟩
    refine W_seq ?_
    refine W_region ?_
    refine L0 (wanted_none rfl) rfl (y_lt rfl rfl rfl) ?_
    refine Lnil ?_
    refine W_seq ?_
    refine Wsp (t := 14) rfl (fun h5 => ?_) (fun h5 => ?_)
    · have h5' := h5
      first | replace h5' := of_decide_eq_true h5' | replace h5' := bnT' h5' | skip
      refine W_condT rfl h5 ?_
      refine W_skip ?_
      refine W_seq ?_
      refine W_block ?_
      refine W_seq ?_
      refine W_region ?_
      refine L0 (wanted_none rfl) rfl (y_move (v := Value.int _ _) rfl rfl) ?_
      refine L0 (wanted_none rfl) rfl (y_assign (v := Value.int _ _) rfl rfl) ?_
      refine Lnil ?_
      refine W_seq ?_
      refine W_drawSt [(0, 0), (0, 1), (0, 4), (0, 5), (0, 2), (0, 6), (1, 3), (1, 7), (0, 8)] hs4 mixed (by kernel_rfl) (fun w6 hs7 => ?_)
      refine E0 (wanted_none rfl) rfl (y_move (v := va) rfl rfl) ?_
      refine E0 (wanted_none rfl) rfl (y_move (v := Value.int _ _) rfl rfl) ?_
      refine E0 (wanted_none rfl) rfl (y_move (v := vb) rfl rfl) ?_
      refine E0 (wanted_none rfl) rfl (y_move (v := Value.int _ _) rfl rfl) ?_
      refine E0 (wanted_none rfl) rfl (y_indexSlAt rfl Tryd.underlying22 sz9 rfl rfl hSa (by omega) (by omega)) ?_
      refine E0 (wanted_none rfl) rfl (y_indexSlAt rfl Tryd.underlying22 sz9 rfl rfl hSb (by omega) (by omega)) ?_
      refine E1 hs7 (wanted_none rfl) rfl (y_loadSl i rfl Tryd.underlying9 rfl rfl hSa (by omega) (by omega) (by intro k hk; first | (simp [keys] at hk; done) | (simp [keys] at hk; omega))) ?_
      refine E1 hs7 (wanted_none rfl) rfl (y_loadSl i rfl Tryd.underlying9 rfl rfl hSb (by omega) (by omega) (by intro k hk; first | (simp [keys] at hk; done) | (simp [keys] at hk; omega))) ?_
      refine E0 (wanted_none rfl) rfl (y_sne rfl rfl rfl) ?_
      refine Enil ?_
      refine Wsp (t := 24) rfl (fun h8 => ?_) (fun h8 => ?_)
      · have h8' := h8
        first | replace h8' := of_decide_eq_true h8' | replace h8' := bnT' h8' | skip
        refine W_condT rfl h8 ?_
        refine W_seq ?_
        refine W_region ?_
        refine L0 (wanted_none rfl) rfl (y_assign (v := Value.bool _) rfl rfl) ?_
        refine Lnil ?_
        refine W_ret ?_
        refine fin1 (fn := Tryd.f99) rfl rfl ?_
        have hne : ¬ l.getD i [] = l'.getD i [] := by assumption
        exact ⟨congrArg Value.bool (decide_eq_false (fun h => hne (by rw [h]))).symm, hs7⟩
      · have h8' := h8
        first | replace h8' := of_decide_eq_false h8' | replace h8' := bnF' h8' | skip
        refine W_condF rfl h8 ?_
        refine W_skip ?_
        refine W_region ?_
        refine L0 (wanted_none rfl) rfl (y_add64 rfl rfl rfl (by omega)) ?_
        refine L0 (wanted_none rfl) rfl (y_move (v := Value.int _ _) rfl rfl) ?_
        refine Lnil ?_
        have hte2 : l.take (i + 1) = l'.take (i + 1) := by
          have he : l.getD i [] = l'.getD i [] := by assumption
          rw [List.take_succ_eq_append_getElem (by omega), List.take_succ_eq_append_getElem (by omega), hte]
          rw [List.getD_eq_getElem?_getD, List.getD_eq_getElem?_getD, List.getElem?_eq_getElem (by omega), List.getElem?_eq_getElem (by omega)] at he
          rw [show l[i] = l'[i] from he]
        exact ⟨i + 1, by (try dsimp only); omega, _, A_c (iv_eq (by (try dsimp only); omega)) (A_c rfl (A_c rfl (A_c rfl (rfl)))), by omega, hte2, hs7⟩
    · have h5' := h5
      first | replace h5' := of_decide_eq_false h5' | replace h5' := bnF' h5' | skip
      refine W_condF rfl h5 ?_
      refine W_exit ?_
      refine W_seq ?_
      refine W_region ?_
      refine L0 (wanted_none rfl) rfl (y_assign (v := Value.bool _) rfl rfl) ?_
      refine Lnil ?_
      refine W_ret ?_
      refine fin1 (fn := Tryd.f99) rfl rfl ?_
      obtain rfl : i = l.length := by omega
      rw [List.take_length, hll, List.take_length] at hte
      exact ⟨congrArg Value.bool (decide_eq_true hte).symm, hs4⟩
end Go.Proofs.YtkolfgmpmnelmabDoor
