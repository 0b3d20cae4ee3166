/-
  Walks: few, zone.New, alike.
-/
import Derived.Test.YtkolfgmpmnelmabDoorZ7
namespace Go.Proofs.YtkolfgmpmnelmabDoor
open Go Vx Go.Proofs
set_option linter.unusedVariables false
set_option maxRecDepth 4000
set_option maxHeartbeats 400000

theorem zany_at {l : List (List UInt8)} {pr : List UInt8 → Bool} {i : Nat} (h : i < l.length) (hp : pr (l.getD i []) = true) : l.any pr = true := by
  rw [List.any_eq_true]
  exact ⟨l[i], List.getElem_mem h, by simpa [List.getD_eq_getElem?_getD, h] using hp⟩
theorem zindexFunc_any (l : List (List UInt8)) (va : Value) (g : Nat) (fn : Func) (pr : List UInt8 → Bool) (hl : l.length ≤ 9223372036854775807) (hfn : Tryd.prog.funcs[g]? = some fn) (hnm : (fn.name == "runtime.NumGoroutine") = false) (hbody : fn.body.isNone = false)
    (hp : ∀ (s : List UInt8) (w : World), C Tryd.prog g ⟨[str s]⟩ w fun v w' => v = .bool (pr s) ∧ St w [] w') (w : World) (hSa : Sl w va l.length (zstrs l)) :
    C Tryd.prog 66 ⟨[va, .func (.func g) #[] #[]]⟩ w fun v w' => (∃ i : Int, v = iv i ∧ (0 ≤ i ↔ l.any pr = true)) ∧ St w [] w' := by
  refine C_enter (n := 19) Tryd.func66 rfl rfl rfl (fun w1 hs1 => ?_)
  refine W_seq ?_
  refine W_region ?_
  refine L0 (wanted_none rfl) rfl (y_assign (v := Value.int _ _) rfl rfl) ?_
  refine Lnil ?_
  refine W_seq ?_
  refine W_seq ?_
  refine W_region ?_
  refine L0 (wanted_none rfl) rfl (y_move (v := va) rfl rfl) ?_
  refine L0 (wanted_none rfl) rfl (y_slenSl rfl Tryd.underlying22 rfl hSa) ?_
  refine L0 (wanted_none rfl) rfl (y_move (v := Value.int _ _) rfl rfl) ?_
  refine Lnil ?_
  refine W_block ?_
  refine W_loop (G := Nat) (fun i aL wl => ∃ e, aL = A 19 ((8, iv i) :: (7, iv l.length) :: (0, va) :: (1, .func (.func g) #[] #[]) :: e) ∧ i ≤ l.length ∧ (l.take i).any pr = false ∧ St w [] wl) (fun i => l.length - i) (0) ?_ ?_
  · exact ⟨_, A_pins _ _ [8, 7, 0, 1], by omega, by simp, hs1⟩
  rintro i _ w2 ⟨ehs3, rfl, hi, hany, hs3⟩
  refine W_seq ?_
  refine W_region ?_
  refine L0 (wanted_none rfl) rfl (y_lt rfl rfl rfl) ?_
  refine Lnil ?_
  refine W_seq ?_
  refine Wsp (t := 9) rfl (fun h4 => ?_) (fun h4 => ?_)
  · have h4' := h4
    first | replace h4' := of_decide_eq_true h4' | replace h4' := bnT' h4' | skip
    refine W_condT rfl h4 ?_
    refine W_skip ?_
    refine W_seq ?_
    refine W_block ?_
    refine W_seq ?_
    refine W_region ?_
    refine L0 (wanted_none rfl) rfl (y_move (v := Value.int _ _) rfl rfl) ?_
    refine L0 (wanted_none rfl) rfl (y_assign (v := Value.int _ _) rfl rfl) ?_
    refine Lnil ?_
    refine W_seq ?_
    refine W_region ?_
    refine L0 (wanted_none rfl) rfl (y_move (v := Value.func _ _ _) rfl rfl) ?_
    refine L0 (wanted_none rfl) rfl (y_move (v := va) rfl rfl) ?_
    refine L0 (wanted_none rfl) rfl (y_move (v := Value.int _ _) rfl rfl) ?_
    refine L0 (wanted_none rfl) rfl (y_indexSlAt rfl Tryd.underlying22 sz9 rfl rfl hSa (by omega) (by omega)) ?_
    refine L1 (wanted_none rfl) rfl hs3 (y_loadSl i rfl Tryd.underlying9 rfl rfl hSa (by omega) (by omega) (by intro k hk; first | (simp [keys] at hk; done) | (simp [keys] at hk; omega))) ?_
    refine Lc (wanted_none rfl) (c_call rfl rfl rfl hfn hnm hbody (hp (l.getD i []) w2) rfl ?_)
    rintro _ w5 ⟨rfl, hc6⟩
    have hs7 := hs3.call0 hc6
    refine Lnil ?_
    refine Wsp (t := 16) rfl (fun h8 => ?_) (fun h8 => ?_)
    · have h8' := h8
      refine W_condT rfl h8 ?_
      refine W_seq ?_
      refine W_region ?_
      refine L0 (wanted_none rfl) rfl (y_move (v := Value.int _ _) rfl rfl) ?_
      refine L0 (wanted_none rfl) rfl (y_assign (v := Value.int _ _) rfl rfl) ?_
      refine Lnil ?_
      refine W_ret ?_
      refine fin1 (fn := Tryd.f66) rfl rfl ?_
      have hpi : pr (l.getD i []) = true := by assumption
      exact ⟨⟨(i : Int), rfl, fun _ => zany_at (by omega) hpi, fun _ => by omega⟩, hs7⟩
    · have h8' := h8
      refine W_condF rfl h8 ?_
      refine W_skip ?_
      refine W_region ?_
      refine L0 (wanted_none rfl) rfl (y_add64 rfl rfl rfl (by omega)) ?_
      refine L0 (wanted_none rfl) rfl (y_move (v := Value.int _ _) rfl rfl) ?_
      refine Lnil ?_
      have hpi : pr (l.getD i []) = false := by assumption
      have hany2 : (l.take (i + 1)).any pr = false := by
        rw [List.take_succ_eq_append_getElem (by omega), List.any_append, hany]
        simpa [List.getD_eq_getElem?_getD, show i < l.length from by omega] using hpi
      exact ⟨i + 1, by first | omega | (dsimp only; done) | (dsimp only; omega), _, A_c (iv_eq (by first | omega | (dsimp only; done) | (dsimp only; omega))) (A_c rfl (A_c rfl (A_c rfl (rfl)))), by omega, hany2, hs7⟩
  · have h4' := h4
    first | replace h4' := of_decide_eq_false h4' | replace h4' := bnF' h4' | skip
    refine W_condF rfl h4 ?_
    refine W_exit ?_
    refine W_seq ?_
    refine W_region ?_
    refine L0 (wanted_none rfl) rfl (y_assign (v := Value.int _ _) rfl rfl) ?_
    refine Lnil ?_
    refine W_ret ?_
    refine fin1 (fn := Tryd.f66) rfl rfl ?_
    obtain rfl : i = l.length := by omega
    rw [List.take_length] at hany
    exact ⟨⟨(-1 : Int), rfl, fun h => absurd h (by omega), fun h => by rw [hany] at h; cases h⟩, hs3⟩
theorem zcontainsFunc_any (l : List (List UInt8)) (va : Value) (g : Nat) (fn : Func) (pr : List UInt8 → Bool) (hl : l.length ≤ 9223372036854775807) (hfn : Tryd.prog.funcs[g]? = some fn) (hnm : (fn.name == "runtime.NumGoroutine") = false) (hbody : fn.body.isNone = false)
    (hp : ∀ (s : List UInt8) (w : World), C Tryd.prog g ⟨[str s]⟩ w fun v w' => v = .bool (pr s) ∧ St w [] w') (w : World) (hSa : Sl w va l.length (zstrs l)) :
    C Tryd.prog 10 ⟨[va, .func (.func g) #[] #[]]⟩ w fun v w' => v = .bool (l.any pr) ∧ St w [] w' := by
  refine C_enter (n := 9) Tryd.func10 rfl rfl rfl (fun w1 hs1 => ?_)
  refine W_seq ?_
  refine W_region ?_
  refine L0 (wanted_none rfl) rfl (y_assign (v := Value.bool _) rfl rfl) ?_
  refine Lnil ?_
  refine W_seq ?_
  refine W_region ?_
  refine L0 (wanted_none rfl) rfl (y_move (v := va) rfl rfl) ?_
  refine L0 (wanted_none rfl) rfl (y_move (v := Value.func _ _ _) rfl rfl) ?_
  refine Lc (wanted_none rfl) (c_call rfl rfl rfl Tryd.func66 (by kernel_rfl) rfl (zindexFunc_any l va g fn pr hl hfn hnm hbody hp w1 (hSa.keep0 hs1)) rfl ?_)
  rintro _ w2 ⟨⟨i, rfl, hi⟩, hc3⟩
  have hs4 := hs1.call0 hc3
  refine L0 (wanted_none rfl) rfl (y_ge rfl rfl rfl) ?_
  refine L0 (wanted_none rfl) rfl (y_assign (v := Value.bool _) rfl rfl) ?_
  refine Lnil ?_
  refine W_ret ?_
  refine fin1 (fn := Tryd.f10) rfl rfl ?_
  exact ⟨congrArg Value.bool (by rw [Bool.eq_iff_iff, decide_eq_true_iff]; exact hi), hs4⟩
def long80 (s : List UInt8) : Bool := decide (80 < (s.length : Int))
theorem few1_any (s : List UInt8) (w : World) : C Tryd.prog 98 ⟨[str s]⟩ w fun v w' => v = .bool (long80 s) ∧ St w [] w' := by
  refine C_enter (n := 6) Tryd.func98 rfl rfl rfl (fun w1 hs1 => ?_)
  refine W_seq ?_
  refine W_region ?_
  refine L0 (wanted_none rfl) rfl (y_assign (v := Value.bool _) rfl rfl) ?_
  refine Lnil ?_
  refine W_seq ?_
  refine W_region ?_
  refine L0 (wanted_none rfl) rfl (y_move (v := Value.string ⟨⟨_⟩⟩) rfl rfl) ?_
  refine L0 (wanted_none rfl) rfl (y_len rfl Tryd.underlying9 rfl) ?_
  refine L0 (wanted_none rfl) rfl (y_gt rfl rfl rfl) ?_
  refine L0 (wanted_none rfl) rfl (y_assign (v := Value.bool _) rfl rfl) ?_
  refine Lnil ?_
  refine W_ret ?_
  refine fin1 (fn := Tryd.f98) rfl rfl ?_
  exact ⟨rfl, hs1⟩
def Few (l : List (List UInt8)) : Prop := l.length ≤ 20 ∧ ∀ j, (l.getD j []).length ≤ 80
theorem few_of {l : List (List UInt8)} (h : l.length ≤ 20) (h2 : l.any long80 = false) : Few l := ⟨h, fun j => by
  rcases Nat.lt_or_ge j l.length with hj | hj
  · rw [List.any_eq_false] at h2
    have h3 := h2 l[j] (List.getElem_mem hj)
    rw [List.getD_eq_getElem?_getD, List.getElem?_eq_getElem hj]
    simp only [long80, decide_eq_true_eq] at h3
    show l[j].length ≤ 80
    omega
  · rw [List.getD_eq_getElem?_getD, List.getElem?_eq_none hj]; decide⟩
theorem few_any (l : List (List UInt8)) (va : Value) (hl : l.length ≤ 9223372036854775807) (w : World) (hSa : Sl w va l.length (zstrs l)) :
    C Tryd.prog 53 ⟨[va]⟩ w fun v w' => (∃ bo, v = .bool bo ∧ (bo = true → Few l)) ∧ St w [] w' := by
  refine C_enter (n := 11) Tryd.func53 rfl rfl rfl (fun w1 hs1 => ?_)
  refine W_seq ?_
  refine W_region ?_
  refine L0 (wanted_none rfl) rfl (y_assign (v := Value.bool _) rfl rfl) ?_
  refine Lnil ?_
  refine W_seq ?_
  refine W_region ?_
  refine L0 (wanted_none rfl) rfl (y_move (v := va) rfl rfl) ?_
  refine L0 (wanted_none rfl) rfl (y_slenSl rfl Tryd.underlying22 rfl hSa) ?_
  refine L0 (wanted_none rfl) rfl (y_le rfl rfl rfl) ?_
  refine L0 (wanted_none rfl) rfl (y_move (v := Value.bool _) rfl rfl) ?_
  refine Lsp (t := 6) rfl (fun h2 => ?_) (fun h2 => ?_)
  · have h2' := h2
    first | replace h2' := of_decide_eq_true h2' | replace h2' := bnT' h2' | skip
    refine L0 (wanted_yesB rfl rfl rfl h2) rfl (y_move (v := va) rfl rfl) ?_
    refine Lc (wanted_yesB rfl rfl rfl h2) (c_call rfl rfl rfl Tryd.func10 (by kernel_rfl) rfl (zcontainsFunc_any l va 98 Tryd.f98 long80 hl Tryd.func98 (by kernel_rfl) rfl few1_any w1 (hSa.keep0 hs1)) rfl ?_)
    rintro _ w3 ⟨rfl, hc4⟩
    have hs5 := hs1.call0 hc4
    refine L0 (wanted_yesB rfl rfl rfl h2) rfl (y_not rfl rfl) ?_
    refine L0 (wanted_none rfl) rfl (y_pickT rfl rfl h2 rfl) ?_
    refine L0 (wanted_none rfl) rfl (y_assign (v := Value.bool _) rfl rfl) ?_
    refine Lnil ?_
    refine W_ret ?_
    refine fin1 (fn := Tryd.f53) rfl rfl ?_
    first | exact ⟨⟨_, rfl, fun h => by cases h⟩, hs5⟩ | exact ⟨⟨_, rfl, fun hb => few_of (by omega) (by simpa using hb)⟩, hs5⟩
  · have h2' := h2
    first | replace h2' := of_decide_eq_false h2' | replace h2' := bnF' h2' | skip
    refine Lno (wanted_noB rfl rfl rfl h2 (by decide)) rfl ?_
    refine Lno (wanted_noB rfl rfl rfl h2 (by decide)) rfl ?_
    refine Lno (wanted_noB rfl rfl rfl h2 (by decide)) rfl ?_
    refine L0 (wanted_none rfl) rfl (y_pickF rfl rfl h2 rfl) ?_
    refine L0 (wanted_none rfl) rfl (y_assign (v := Value.bool _) rfl rfl) ?_
    refine Lnil ?_
    refine W_ret ?_
    refine fin1 (fn := Tryd.f53) rfl rfl ?_
    first | exact ⟨⟨_, rfl, fun h => by cases h⟩, hs1⟩ | exact ⟨⟨_, rfl, fun hb => few_of (by omega) (by simpa using hb)⟩, hs1⟩
/-! New -/
def newD : Dv := { z := fun _ => [], sure := fun _ => 0, slot := lyL (fun _ => []) (fun _ => []) 2, wait := [], fuse := -1 }
theorem newD_eq : ({ z := lyZ fun _ => [], sure := sureF (lyZ fun _ => []) (fun _ => 0) 8, slot := lyL (fun _ => []) (fun _ => []) 2, wait := [], fuse := -1 } : Dv) = newD := by
  have h1 : (lyZ fun _ => []) = fun _ => [] := by funext j; rfl
  have h2 : sureF (lyZ fun _ => []) (fun _ => 0) 8 = fun _ => 0 := by funext j; rw [sureF, h1]; simp
  rw [newD, h2, h1]
theorem DSt.drewn {W0 : World} {K : Blocks} {b : Nat} {D : Dv} {w w' : World} {vz : Nat → Value} {vw : Value} {went rows : Blocks} (h : DSt W0 K b D w vz vw went rows) {K' : Blocks} (st : St W0 (K' ++ ((b, .cells ⟨dcells vz D.sure D.slot vw D.fuse⟩ 104 (0, 0)) :: (went ++ rows))) w') : DSt W0 K' b D w' vz vw went rows :=
  ⟨st, h.rz, h.rw, h.newb, h.newr⟩
theorem new_ok {W0 : World} {K : Blocks} {w : World} (h : St W0 K w) : C Tryd.prog 13 ⟨[]⟩ w fun v w' => ∃ b vz rows, v = pv b 0 ∧ DSt W0 K b newD w' vz (.slice none 0 0) [] rows := by
  refine C_enter (n := 8) Tryd.func13 rfl rfl rfl (fun w1 hs1 => ?_)
  have hs0 := h.call0 hs1
  refine W_seq ?_
  refine W_region ?_
  refine L0 (wanted_none rfl) rfl (y_assign (v := Value.pointer _) rfl rfl) ?_
  refine Lnil ?_
  refine W_seq ?_
  refine W_region ?_
  refine L0 (wanted_none rfl) rfl (y_buildSG (places := #[(0, 8), (8, 8), (16, 2), (18, 1), (19, 1)]) (cells := dcells (fun _ => .slice none 0 0) (fun _ => 0) (fun _ => []) (.slice none 0 0) (-1)) rfl Tryd.underlying104 zr104 (fun w => by kernel_rfl) (by kernel_rfl)) ?_
  refine Lc (wanted_none rfl) (c_box hs0 rfl rfl rfl (fun b2 w3 hbb2 hs4 => ?_))
  have hs4 : St W0 ((b2, .cells ⟨dcells (fun _ => .slice none 0 0) (fun _ => 0) (fun _ => []) (.slice none 0 0) (-1)⟩ 104 (0, 0)) :: K) w3 := hs4
  refine L0 (wanted_none rfl) rfl (y_assign (v := Value.pointer _) rfl rfl) ?_
  refine Lnil ?_
  refine W_seq ?_
  refine W_region ?_
  refine L0 (wanted_none rfl) rfl (y_move (v := Value.pointer _) rfl rfl) ?_
  refine L0 (wanted_none rfl) rfl (y_build0 (places := #[(0, 8), (8, 2)]) rfl Tryd.underlying59 zr59 (fun w => by kernel_rfl)) ?_
  refine Lc (wanted_none rfl) (c_call rfl rfl rfl Tryd.func44 (by kernel_rfl) rfl (lay_ok (D := { z := fun _ => [], sure := fun _ => 0, slot := fun _ => [], wait := [], fuse := -1 }) (vz := fun _ => .slice none 0 0) (vw := .slice none 0 0) (went := []) (rows := []) (hs4.re (L' := K ++ ((b2, .cells ⟨dcells (fun _ => .slice none 0 0) (fun _ => 0) (fun _ => []) (.slice none 0 0) (-1)⟩ 104 (0, 0)) :: ([] ++ []))) (fun a => by simp only [ct_append, ct_cons, ct_nil]; omega)) hbb2 (fun x hx => by cases hx) (fun x hx => by cases hx) (fun _ => .slice none 0 0) (fun _ => []) (fun _ => []) [] (fun j _ => .inl ⟨rfl, rfl⟩) (fun x hx => by cases hx) (fun j _ => ⟨by decide, fun k => by simp⟩) (fun j => by decide)) rfl ?_)
  rintro vL w5 ⟨vz, rows, rfl, hD⟩
  rw [newD_eq] at hD
  have hs7 := hD.st
  refine Lnil ?_
  refine W_seq ?_
  refine W_region ?_
  refine L0 (wanted_none rfl) rfl (y_move (v := Value.pointer _) rfl rfl) ?_
  refine L0 (wanted_none rfl) rfl (y_assign (v := Value.pointer _) rfl rfl) ?_
  refine Lnil ?_
  refine W_ret ?_
  refine fin1 (fn := Tryd.f13) rfl rfl ?_
  exact ⟨_, vz, rows, rfl, hD.drewn hs7⟩
end Go.Proofs.YtkolfgmpmnelmabDoor
