/-
  Walks: (*zone.Device).Get where writes wait.
-/
import Derived.Test.YtkolfgmpmnelmabDoorZM
import Derived.Test.YtkolfgmpmnelmabDoorVv
namespace Go.Proofs.YtkolfgmpmnelmabDoor
open Go Vx Go.Proofs Go.RowKit Go.Shelf
set_option linter.unusedVariables false
set_option maxRecDepth 8000
set_option maxHeartbeats 1000000
attribute [local go_sem] Oper.semAt_some

theorem get_e2 (b : Nat) (w : World) (i : Int) (hi : i < 0 ∨ 2 ≤ i) : C Tryd.prog 52 ⟨[pv b 0, iv i]⟩ w fun v w' => v = .tuple #[str [], .iface 35 (iv 2)] ∧ St w [] w' := by
  refine C_marks (n := 34) Tryd.func52 rfl rfl rfl (fun w1 hs1 => ?_)
  refine W_seq ?_
  refine W_region ?_
  refine Lc (wanted_none rfl) (c_box hs1 rfl rfl rfl (fun b2 w3 hbb2 hs4 => ?_))
  have hs4 := hs4.at0 (c' := #[iv i]) rfl
  refine Lc (wanted_none rfl) (c_alloc hs4 rfl rfl zr9 (fun b5 w6 hbb5 hs7 => ?_))
  refine Lc (wanted_none rfl) (c_alloc hs7 rfl rfl zr32 (fun b8 w9 hbb8 hs10 => ?_))
  refine Lnil ?_
  refine W_seq ?_
  refine W_seq ?_
  refine W_region ?_
  refine L1 (wanted_none rfl) rfl hs10 (y_load 2 rfl Tryd.underlying3 rfl rfl rfl rfl) ?_
  refine L0 (wanted_none rfl) rfl (y_lt rfl rfl rfl) ?_
  refine L0 (wanted_none rfl) rfl (y_move (v := Value.bool _) rfl rfl) ?_
  refine Lsp (t := 10) rfl (fun h11 => ?_) (fun h11 => ?_)
  · have h11' := h11
    first | replace h11' := of_decide_eq_true h11' | replace h11' := bnT' h11' | skip
    refine Lno (wanted_noB rfl rfl rfl h11 (by decide)) rfl ?_
    refine Lno (wanted_noB rfl rfl rfl h11 (by decide)) rfl ?_
    refine L0 (wanted_none rfl) rfl (y_pickT rfl rfl h11 rfl) ?_
    refine Lnil ?_
    refine W_condT rfl rfl ?_
    refine W_seq ?_
    refine W_region ?_
    refine L0 (wanted_none rfl) rfl (y_mkif rfl Tryd.underlying35 rfl rfl) ?_
    refine Lc (wanted_none rfl) (c_store (i := 1) (v := Value.string ⟨⟨_⟩⟩) hs10 rfl rfl rfl rfl sz9 rfl rfl (by decide) (Fz.zero _) (fun w12 hs13 => ?_))
    refine Lc (wanted_none rfl) (c_store (i := 0) (v := Value.iface _ _) hs13 rfl rfl rfl rfl sz32 rfl rfl (by decide) (Fz.zero _) (fun w14 hs15 => ?_))
    refine Lnil ?_
    refine W_ret ?_
    exact marks_fin2 (fn := Tryd.f52) (x := str []) (y := errno 2) rfl rfl rfl (hs15.get 1 rfl) (hs15.get 0 rfl) rfl rfl Tryd.underlying9 rfl Tryd.underlying32 rfl ⟨rfl, ((hs15.drop (.inl hbb8)).drop (.inl hbb5)).drop (.inl hbb2)⟩
  · have h11' := h11
    first | replace h11' := of_decide_eq_false h11' | replace h11' := bnF' h11' | skip
    refine L1 (wanted_yesB rfl rfl rfl h11) rfl hs10 (y_load 2 rfl Tryd.underlying3 rfl rfl rfl rfl) ?_
    refine L0 (wanted_yesB rfl rfl rfl h11) rfl (y_gt rfl rfl rfl) ?_
    refine L0 (wanted_none rfl) rfl (y_pickF rfl rfl h11 rfl) ?_
    refine Lnil ?_
    refine Wkn (t := 13) (b0 := true) rfl (by first | exact decide_eq_true (by omega) | exact bnT (by omega) | (simp; omega)) (fun h16 => ?_)
    refine W_condT rfl h16 ?_
    refine W_seq ?_
    refine W_region ?_
    refine L0 (wanted_none rfl) rfl (y_mkif rfl Tryd.underlying35 rfl rfl) ?_
    refine Lc (wanted_none rfl) (c_store (i := 1) (v := Value.string ⟨⟨_⟩⟩) hs10 rfl rfl rfl rfl sz9 rfl rfl (by decide) (Fz.zero _) (fun w17 hs18 => ?_))
    refine Lc (wanted_none rfl) (c_store (i := 0) (v := Value.iface _ _) hs18 rfl rfl rfl rfl sz32 rfl rfl (by decide) (Fz.zero _) (fun w19 hs20 => ?_))
    refine Lnil ?_
    refine W_ret ?_
    exact marks_fin2 (fn := Tryd.f52) (x := str []) (y := errno 2) rfl rfl rfl (hs20.get 1 rfl) (hs20.get 0 rfl) rfl rfl Tryd.underlying9 rfl Tryd.underlying32 rfl ⟨rfl, ((hs20.drop (.inl hbb8)).drop (.inl hbb5)).drop (.inl hbb2)⟩
theorem back_C (a : Option Addr) (len cap : Nat) (w : World) : C Tryd.prog 97 ⟨[.slice a len cap]⟩ w fun v w' => ∃ c, v = .func (.func 132) #[] #[pv c 0] ∧ w.heap.size ≤ c ∧ St w [(c, .cells #[.slice a len cap] 102 (0, 0))] w' :=
  ((callsIn_wide (n := 3)).1 (backG_in Fence.wide 3 trivial rfl a len cap w)).mono fun e w' h => ⟨_, h.1, w.heap.size, rfl, Nat.le_refl _, by rw [h.2]; exact (St.init w).alloc _⟩
theorem getW_ok {w : World} (b g cap : Nat) (i : Int) (h0 : 0 ≤ i) (h1 : i < 2) (ws : List (Nat × List UInt8)) (slot : Nat → List UInt8) (hwl : ws.length ≤ 100000) (hw : w.cell? ⟨b, 18, none⟩ = some (.slice (some ⟨g, 0, none⟩) ws.length cap)) (hs : w.cell? ⟨b, 16 + i.toNat, none⟩ = some (str (slot i.toNat))) (hb : b < w.heap.size) (hg : g < w.heap.size) (hWr : WrAt w g ws) :
    C Tryd.prog 52 ⟨[pv b 0, iv i]⟩ w fun v w' => v = .tuple #[str (landF slot ws (fun _ => true) ws.length i.toNat), .nilIface] ∧ St w [] w' := by
  refine C_marks (n := 34) Tryd.func52 rfl rfl rfl (fun w1 hs1 => ?_)
  refine W_seq ?_
  refine W_region ?_
  refine Lc (wanted_none rfl) (c_box hs1 rfl rfl rfl (fun b2 w3 hbb2 hs4 => ?_))
  have hs4 := hs4.at0 (c' := #[iv i]) rfl
  refine Lc (wanted_none rfl) (c_alloc hs4 rfl rfl zr9 (fun b5 w6 hbb5 hs7 => ?_))
  refine Lc (wanted_none rfl) (c_alloc hs7 rfl rfl zr32 (fun b8 w9 hbb8 hs10 => ?_))
  refine Lnil ?_
  refine W_seq ?_
  refine W_seq ?_
  refine W_region ?_
  refine L1 (wanted_none rfl) rfl hs10 (y_load 2 rfl Tryd.underlying3 rfl rfl rfl rfl) ?_
  refine L0 (wanted_none rfl) rfl (y_lt rfl rfl rfl) ?_
  refine L0 (wanted_none rfl) rfl (y_move (v := Value.bool _) rfl rfl) ?_
  refine Lkn (t := 10) (b0 := false) rfl (by first | exact decide_eq_false (by omega) | exact bnF (by omega) | (simp; omega)) (fun h11 => ?_)
  refine L1 (wanted_yesB rfl rfl rfl h11) rfl hs10 (y_load 2 rfl Tryd.underlying3 rfl rfl rfl rfl) ?_
  refine L0 (wanted_yesB rfl rfl rfl h11) rfl (y_gt rfl rfl rfl) ?_
  refine L0 (wanted_none rfl) rfl (y_pickF rfl rfl h11 rfl) ?_
  refine Lnil ?_
  refine Wkn (t := 13) (b0 := false) rfl (by first | exact decide_eq_false (by omega) | exact bnF (by omega) | (simp; omega)) (fun h12 => ?_)
  refine W_condF rfl h12 ?_
  refine W_skip ?_
  refine W_seq ?_
  refine W_seq ?_
  refine W_region ?_
  refine L0 (wanted_none rfl) rfl (y_move (v := Value.pointer _) rfl rfl) ?_
  refine L0 (wanted_none rfl) rfl (y_nilCheck rfl rfl) ?_
  refine L0 (wanted_none rfl) rfl (y_fieldAddr rfl Tryd.underlying104 rfl sz102 rfl) ?_
  refine L1 (wanted_none rfl) rfl hs10 ((y_loadOld rfl Tryd.underlying102 rfl rfl hw (by simp [keys]; omega))) ?_
  refine Lc (wanted_none rfl) (c_call rfl rfl rfl Tryd.func97 (by kernel_rfl) rfl (back_C (some ⟨g, 0, none⟩) ws.length cap w9) rfl ?_)
  rintro vq w13 ⟨c, rfl, hcn, hc⟩
  have hs15 := hs10.call_new hc (fun b hb => by simp only [keys, List.map_cons, List.map_nil, List.mem_singleton] at hb; omega)
  refine Lnil ?_
  refine W_block ?_
  have hW4 := hs15
  have hgk : ∀ k, k < w.heap.size → k ∉ keys [(c, Obj.cells #[.slice (some ⟨g, 0, none⟩) ws.length cap] 102 (0, 0)), (b8, .cells #[.nilIface] 32 (0, 0)), (b5, .cells #[str []] 9 (0, 0)), (b2, .cells #[iv i] 3 (0, 0))] := fun k hk => by have := hs10.size; simp [keys]; omega
  have q3 : w13.heap[b2]? = some (.cells #[iv i] 3 (0, 0)) := hs15.get 3 rfl
  have q4 : w13.heap[b5]? = some (.cells #[str []] 9 (0, 0)) := hs15.get 2 rfl
  have q5 : w13.heap[b8]? = some (.cells #[.nilIface] 32 (0, 0)) := hs15.get 1 rfl
  have n45 : b5 ≠ b8 ∧ b2 ≠ b5 ∧ b2 ≠ b8 := by have := hs15.nd; simp [keys] at this; omega
  obtain ⟨wl, hwl4⟩ : ∃ wl, wl = w13 := ⟨_, rfl⟩
  rw [← hwl4] at hW4 q3 q4 q5 ⊢
  refine W_rf (W_rangeFunc (gf := 132) (lb := #[pv c 0]) rfl (enters_of Tryd.func132 (by kernel_rfl) rfl)
    (backG_stops Fence.wide 2 trivial rfl (by decide) c g cap ws hwl wl (lt_of_has (hW4.get 0 rfl)) (Nat.lt_of_lt_of_le hg hW4.size) (cell_of_has (hW4.get 0 rfl)) ?_) (fun x => rfl)
    (fun pre W => (∀ p ∈ pre, p.2.1 ≠ i.toNat) ∧ St wl [] W)
    (fun cc pre W => cc = .ret ∧ ∃ ini last, pre = ini ++ [last] ∧ (∀ p ∈ ini, p.2.1 ≠ i.toNat) ∧ last.2.1 = i.toNat ∧ St wl [(b8, .cells #[.nilIface] 32 (0, 0)), (b5, .cells #[str last.2.2] 9 (0, 0))] W)
    ?_ ?_ ⟨(fun p hp => by cases hp), St.init _⟩
    (fun x e2 bx W => wl.heap.size ≤ bx ∧ (∃ e3, e2 = (7, pv bx 0) :: (3, pv b2 0) :: (4, pv b5 0) :: (5, pv b8 0) :: e3) ∧ W.heap[bx]? = some (.cells #[iv x.2.1, str x.2.2] 137 (0, 0)))
    ?_ ?_ ?_ ?_ ?_)
  · intro j hj
    obtain ⟨h1, h2⟩ := hWr j hj
    exact ⟨(World.cell?_of_block (a := ⟨g, j * 2, none⟩) (hW4.fr g hg (hgk g hg))).trans h1, (World.cell?_of_block (a := ⟨g, j * 2 + 1, none⟩) (hW4.fr g hg (hgk g hg))).trans h2⟩
  · rintro s X Y row ⟨h1, h2⟩ hgr hr
    exact ⟨h1, h2.grown hgr hr (fun x hx => by cases hx)⟩
  · rintro cc s X Y row ⟨h1, ini, last, h2, h3, h4, h5⟩ hgr hr
    exact ⟨h1, ini, last, h2, h3, h4, h5.grown hgr hr (fun x hx => by simp at hx; rcases hx with rfl | rfl <;> rfl)⟩
  · rintro x e2 bx s X Y row ⟨h1, h2, h3⟩ hgr hr
    exact ⟨h1, h2, block_grown h3 hgr (fun r e => (hr r e).2) rfl⟩
  · rintro l pre x W ⟨i1, i2⟩
    have hs1 := St.init W
    have ez : ((#[20, 21] : Array Tmp).zip (wEnc x)).toList.reverse = [(21, .agg ⟨[iv x.2.1, str x.2.2]⟩), (20, iv x.1)] := by simp [wEnc]
    rw [ez]
    refine WI_region (by kernel_rfl) ?_
    refine Lc (wanted_none rfl) (c_alloc hs1 rfl rfl zr137 (fun b2 w3 hbb2 hs4 => ?_))
    refine Lc (wanted_none rfl) (c_storeN (i := 0) hs4 rfl rfl rfl rfl sz137 (by rfl) (by simp [Value.oneCell']) rfl (by decide) (Fz.zero _) (fun w5 hs6 => ?_))
    refine Lnil ?_
    exact ⟨KeepsFrom.ofSt hs6 (fun x hx => by simp at hx; subst hx; exact .inl hbb2), Below.ofSt hs6 (fun x hx => by simp at hx; subst hx; exact Nat.le_trans i2.size hbb2) i2.size, ⟨i1, (i2.compose hs6 (fun b hb => by cases hb)).drop (.inl (Nat.le_trans i2.size hbb2))⟩, _, _, A_pins _ _ [7, 3, 4, 5], Nat.le_trans i2.size hbb2, ⟨_, rfl⟩, hs6.get 0 rfl⟩
  · rintro l pre x e2 bx W ⟨i1, i2⟩ ⟨i3, ⟨e3, rfl⟩, i4⟩ hlen
    have o3 : W.heap[b2]? = some (.cells #[iv i] 3 (0, 0)) := i2.old q3 (by simp [keys])
    have o4 : W.heap[b5]? = some (.cells #[str []] 9 (0, 0)) := i2.old q4 (by simp [keys])
    have o5 : W.heap[b8]? = some (.cells #[.nilIface] 32 (0, 0)) := i2.old q5 (by simp [keys])
    have l3 := lt_of_has q3
    have l4 := lt_of_has q4
    have l5 := lt_of_has q5
    have hs1 := (((St.init W).borrow o4 (by simp [keys])).borrow o5 (by simp [keys]; omega)).borrow i4 (by simp [keys]; omega)
    refine WI_block ?_
    refine WI_seq ?_
    refine WI_region (by kernel_rfl) ?_
    refine L0 (wanted_none rfl) rfl (y_fieldAddr rfl Tryd.underlying137 rfl sz3 rfl) ?_
    refine L1 (wanted_none rfl) rfl hs1 (y_load 0 rfl Tryd.underlying3 rfl rfl rfl rfl) ?_
    refine L1 (wanted_none rfl) rfl hs1 ((y_loadOld rfl Tryd.underlying3 rfl rfl (cell_of_has o3) (by simp [keys]; omega))) ?_
    refine L0 (wanted_none rfl) rfl (y_eq rfl rfl rfl) ?_
    refine Lnil ?_
    refine WIsp (t := 25) rfl (fun h2 => ?_) (fun h2 => ?_)
    · have h2' := h2
      first | replace h2' := of_decide_eq_true h2' | replace h2' := bnT' h2' | skip
      refine WI_condT rfl h2 ?_
      refine WI_seq ?_
      refine WI_region (by kernel_rfl) ?_
      refine L0 (wanted_none rfl) rfl (y_fieldAddr rfl Tryd.underlying137 rfl sz9 rfl) ?_
      refine L1 (wanted_none rfl) rfl hs1 (y_load 0 rfl Tryd.underlying9 rfl rfl rfl rfl) ?_
      refine Lc (wanted_none rfl) (c_store (i := 2) (v := Value.string ⟨⟨_⟩⟩) hs1 rfl rfl rfl rfl sz9 rfl rfl (by decide) (Fz.zero _) (fun w3 hs4 => ?_))
      refine Lc (wanted_none rfl) (c_store (i := 1) (v := Value.nilIface) hs4 rfl rfl rfl rfl sz32 rfl rfl (by decide) (Fz.zero _) (fun w5 hs6 => ?_))
      refine Lnil ?_
      refine WI_ret ?_
      have hW := hs6.drop (.inr i4)
      exact ⟨KeepsFrom.ofSt hW (fun x hx => by simp at hx; rcases hx with rfl | rfl; exact .inr ⟨_, o5, rfl⟩; exact .inr ⟨_, o4, rfl⟩), rfl, pre, x, rfl, i1, by omega, i2.compose hW (fun b hb => by cases hb)⟩
    · have h2' := h2
      first | replace h2' := of_decide_eq_false h2' | replace h2' := bnF' h2' | skip
      refine WI_condF rfl h2 ?_
      refine WI_skip ?_
      have hW := ((hs1.drop (.inr i4)).drop (.inr o5)).drop (.inr o4)
      exact ⟨KeepsFrom.ofSt hW (fun x hx => by cases hx), Below.ofSt hW (fun x hx => by cases hx) i2.size, fun p hp => (List.mem_append.1 hp).elim (i1 p) (fun e => by simp at e; subst e; omega), i2.compose hW (fun b hb => by cases hb)⟩
  · skip
    rintro D ys Wd hD hS ⟨i1, i2⟩ hK
    have hs0 := hW4.call0 i2
    have hsD := (hs0.know hK (hs0.notKey hK (fun x hx => by simp at hx; rcases hx with rfl | rfl | rfl | rfl <;> rfl) rfl) (Nat.le_trans hW4.size hD)).perm (List.perm_append_singleton _ _).symm
    have kD := Nat.le_trans hW4.size hD
    have kc := Nat.le_trans hs10.size hcn
    show W _ _ _ (A 34 _ [_]) Wd
    refine W_seq ?_
    refine W_drawSt [(0, 0), (1, 1), (0, 2), (0, 3), (0, 4), (1, 5), (2, 6), (2, 7)] hsD mixed (by kernel_rfl) (fun w16 hs17 => ?_)
    refine E0 (wanted_none rfl) rfl (y_move (v := Value.pointer _) rfl rfl) ?_
    refine E1 hs17 (wanted_none rfl) rfl (y_load 3 rfl Tryd.underlying3 rfl rfl rfl rfl) ?_
    refine E0 (wanted_none rfl) rfl (y_nilCheck rfl rfl) ?_
    refine E0 (wanted_none rfl) rfl (y_fieldAddr rfl Tryd.underlying104 rfl sz57 rfl) ?_
    refine E0 (wanted_none rfl) rfl (y_indexArr rfl Tryd.underlying57 sz9 rfl rfl (by omega) (by omega)) ?_
    refine E1 hs17 (wanted_none rfl) rfl ((y_loadOld rfl Tryd.underlying9 rfl rfl (by simpa using hs) (by simp [keys]; omega))) ?_
    refine E2 (wanted_none rfl) (c_store (i := 2) (v := Value.string ⟨⟨_⟩⟩) hs17 rfl rfl rfl rfl sz9 rfl rfl (by decide) (Fz.zero _) (fun w18 hs19 => ?_))
    refine E2 (wanted_none rfl) (c_store (i := 1) (v := Value.nilIface) hs19 rfl rfl rfl rfl sz32 rfl rfl (by decide) (Fz.zero _) (fun w20 hs21 => ?_))
    refine Enil ?_
    refine W_ret ?_
    exact marks_fin2D (fn := Tryd.f52) (x := str (slot i.toNat)) (y := .nilIface) rfl rfl rfl (hs21.get 2 rfl) (hs21.get 1 rfl) rfl rfl Tryd.underlying9 rfl Tryd.underlying32 rfl (hs21.get 4 rfl) (fun w6 hg6 => ⟨by rw [landF_none hS i1], hs21.away (fun x hx => by simp at hx; rcases hx with rfl | rfl | rfl | rfl | rfl <;> (dsimp only; omega)) hg6 kD⟩)
  · rintro D cc pre Wd hD hSp ⟨rfl, ini, last, rfl, i1, i2, i3⟩ hK
    have kD := Nat.le_trans hW4.size hD
    have kc := Nat.le_trans hs10.size hcn
    have hs0 := hW4.compose i3 (fun b hb => .inr (by simp [keys] at hb; omega))
    refine wpIn_ret ?_
    show MarkRet _ _ _ (A 34 _ [_]) Wd
    exact marks_fin2D (fn := Tryd.f52) (x := str last.2.2) (y := .nilIface) rfl rfl rfl (hs0.get 1 rfl) (hs0.get 0 rfl) rfl rfl Tryd.underlying9 rfl Tryd.underlying32 rfl hK (fun w6 hg6 => ⟨by rw [landF_found hSp i1 i2], hs0.away (fun x hx => by simp at hx; rcases hx with rfl | rfl <;> (dsimp only; omega)) hg6 kD⟩)
theorem get_g {W0 : World} {K : Blocks} {b : Nat} {D : Dv} {w : World} {vz : Nat → Value} {vw : Value} {went rows : Blocks} (h : DSt W0 K b D w vz vw went rows) (i : Int) (h0 : 0 ≤ i) (h1 : i < 2) (hwl : D.wait.length ≤ 1000) :
    C Tryd.prog 52 ⟨[pv b 0, iv i]⟩ w fun v w' => v = .tuple #[str (landF D.slot D.wait (fun _ => true) D.wait.length i.toNat), .nilIface] ∧ St w [] w' := by
  have hd := h.has
  have hb := lt_of_has hd
  have e18 : w.cell? ⟨b, 18, none⟩ = some vw := by rw [cell_of_has hd]; rfl
  have e16 : w.cell? ⟨b, 16 + i.toNat, none⟩ = some (str (D.slot i.toNat)) := by
    rw [cell_of_has hd]
    have hi : i = 0 ∨ i = 1 := by omega
    rcases hi with rfl | rfl <;> rfl
  rcases h.rw.2 with ⟨hv, hm, _⟩ | ⟨g, cap, cur, fz, hv, hent, hB, hmc, _, hcs, htake, _⟩
  · rw [hm]
    exact get_quiet b i h0 (by omega) (D.slot i.toNat) w (by rw [e18, hv]) e16 hb
  · have hgb : w.heap[g]? = some (.cells cur 137 fz) := h.st.has (g, .cells cur 137 fz) (List.mem_append_right _ (List.mem_cons_of_mem _ (List.mem_append_left _ (by rw [hent]; simp))))
    refine getW_ok b g cap i h0 h1 D.wait D.slot (by omega) (by rw [e18, hv]) e16 hb (lt_of_has hgb) fun j hj => ?_
    have h2 := flatW_at D.wait j hj
    rw [← htake, List.drop_take, List.take_take, Nat.min_eq_left (by omega)] at h2
    have h3 : cur[j * 2]? = some (iv ((D.wait.getD j (0, [])).1 : Int)) := by
      have := congrArg (fun l => l[0]?) h2
      simpa [List.getElem?_take, List.getElem?_drop] using this
    have h4 : cur[j * 2 + 1]? = some (str (D.wait.getD j (0, [])).2) := by
      have := congrArg (fun l => l[1]?) h2
      simpa [List.getElem?_take, List.getElem?_drop] using this
    exact ⟨by rw [cell_of_has hgb]; exact h3, by rw [cell_of_has hgb]; exact h4⟩
end Go.Proofs.YtkolfgmpmnelmabDoor
