/-
  Walks: (*zone.Device).Append, At, Read.
-/
import Derived.Test.YtkolfgmpmnelmabDoorZ2
import Derived.Test.YtkolfgmpmnelmabDoorVs
namespace Go.Proofs.YtkolfgmpmnelmabDoor
open Go Vx Go.Proofs
set_option linter.unusedVariables false
set_option maxRecDepth 4000
set_option maxHeartbeats 400000

/-! ### The order of what is known does not matter -/
open Classical in
noncomputable def ct (a : Nat × Obj) (L : Blocks) : Nat := L.count a
open Classical in
noncomputable def ct1 (a x : Nat × Obj) : Nat := if (x == a) = true then 1 else 0
theorem ct_nil (a : Nat × Obj) : ct a [] = 0 := rfl
open Classical in
theorem ct_cons (a x : Nat × Obj) (L : Blocks) : ct a (x :: L) = ct1 a x + ct a L := by unfold ct ct1; rw [List.count_cons, Nat.add_comm]
open Classical in
theorem ct_append (a : Nat × Obj) (L M : Blocks) : ct a (L ++ M) = ct a L + ct a M := by unfold ct; rw [List.count_append]
open Classical in
theorem perm_ct {L L' : Blocks} (h : ∀ a, ct a L = ct a L') : L.Perm L' := List.perm_iff_count.2 h
theorem Vx.St.re {W0 w : World} {L L' : Blocks} (h : St W0 L w) (hc : ∀ a, ct a L = ct a L') : St W0 L' w := h.perm (perm_ct hc)

theorem Vx.St.at0 {W0 w : World} {b : Nat} {c c' : Array Value} {T : TypeId} {fz : Nat × Nat} {L : Blocks} (h : St W0 ((b, .cells c T fz) :: L) w) (e : c = c') : St W0 ((b, .cells c' T fz) :: L) w := e ▸ h
def flatW : List (Nat × List UInt8) → List Value
  | [] => []
  | p :: r => iv (p.1 : Int) :: str p.2 :: flatW r
theorem flatW_len : ∀ l, (flatW l).length = l.length * 2
  | [] => rfl
  | p :: r => by rw [flatW, List.length_cons, List.length_cons, flatW_len r, List.length_cons]; omega
theorem flatW_append : ∀ a b, flatW (a ++ b) = flatW a ++ flatW b
  | [], b => rfl
  | p :: r, b => by rw [List.cons_append, flatW, flatW, flatW_append r b]; rfl
/-- A device lies at b, among the blocks K that the caller knows; its rows lie in went and rows. -/
structure DSt (W0 : World) (K : Blocks) (b : Nat) (D : Dv) (w : World) (vz : Nat → Value) (vw : Value) (went rows : Blocks) : Prop where
  st : St W0 (K ++ ((b, .cells ⟨dcells vz D.sure D.slot vw D.fuse⟩ 104 (0, 0)) :: (went ++ rows))) w
  rz : ∀ j, j < 8 → RowIn rows (vz j) (D.z j)
  rw : Row W0.heap.size 137 2 vw D.wait.length (flatW D.wait) went
  newb : W0.heap.size ≤ b
  newr : ∀ x ∈ rows, W0.heap.size ≤ x.1
theorem DSt.has {W0 : World} {K : Blocks} {b : Nat} {D : Dv} {w : World} {vz : Nat → Value} {vw : Value} {went rows : Blocks} (h : DSt W0 K b D w vz vw went rows) : w.heap[b]? = some (.cells ⟨dcells vz D.sure D.slot vw D.fuse⟩ 104 (0, 0)) :=
  h.st.has _ (List.mem_append_right _ List.mem_cons_self)
theorem DSt.sl {W0 : World} {K : Blocks} {b : Nat} {D : Dv} {w : World} {vz : Nat → Value} {vw : Value} {went rows : Blocks} (h : DSt W0 K b D w vz vw went rows) {j : Nat} (hj : j < 8) : Sl w (vz j) (D.z j).length (zstrs (D.z j)) :=
  (h.rz j hj).sl h.st (fun x hx => List.mem_append_right _ (List.mem_cons_of_mem _ (List.mem_append_right _ hx)))
theorem DSt.call0 {W0 : World} {K : Blocks} {b : Nat} {D : Dv} {w w' : World} {vz : Nat → Value} {vw : Value} {went rows : Blocks} (h : DSt W0 K b D w vz vw went rows) (h' : St w [] w') : DSt W0 K b D w' vz vw went rows :=
  ⟨h.st.call0 h', h.rz, h.rw, h.newb, h.newr⟩
theorem dc_zv {vz : Nat → Value} {sure : Nat → Nat} {slot : Nat → List UInt8} {vw : Value} {fuse : Int} {i : Int} (h0 : 0 ≤ i) (h1 : i < 8) {v : Value} (hv : vz i.toNat = v) : (⟨dcells vz sure slot vw fuse⟩ : Array Value)[0 + 0 + i.toNat * 1]? = some v := hv ▸ dc_z vz sure slot vw fuse h0 h1
theorem dc_old {w : World} {b : Nat} {cs : List Value} {T : TypeId} {fz : Nat × Nat} {k : Nat} {v : Value} (h : w.heap[b]? = some (.cells ⟨cs⟩ T fz)) (hc : (⟨cs⟩ : Array Value)[k]? = some v) : w.cell? ⟨b, k, none⟩ = some v := by rw [cell_of_has h]; exact hc
theorem RowIn.clip {rows : Blocks} {a : Option Addr} {m cap : Nat} {l : List (List UInt8)} (h : RowIn rows (.slice a m cap) l) : RowIn rows (.slice a m m) l := by
  rcases h with ⟨h1, rfl⟩ | ⟨g, cap', cur, fz, h1, h2, h3, h4⟩
  · cases h1; exact .inl ⟨rfl, rfl⟩
  · cases h1; exact .inr ⟨g, _, cur, fz, rfl, h2, Nat.le_refl _, h4⟩
theorem range_strs (l : List (List UInt8)) : (List.range l.length).map (zstrs l) = l.map str := by
  apply List.ext_getElem?
  intro j
  rw [List.getElem?_map, List.getElem?_map]
  rcases Nat.lt_or_ge j l.length with h | h
  · rw [List.getElem?_range h, List.getElem?_eq_getElem h]
    simp [h]
  · rw [List.getElem?_eq_none (by simpa using h), List.getElem?_eq_none h]; rfl
theorem Vx.Sl.srcs {w : World} {v : Value} {l : List (List UInt8)} (h : Sl w v l.length (zstrs l)) : Src w 1 v l.length (l.map str) := range_strs l ▸ Src.ofSl h

section
variable (b : Nat) (vz : Nat → Value) (sure : Nat → Nat) (slot : Nat → List UInt8) (vw : Value) (fuse : Int) (w : World) (hd : w.heap[b]? = some (.cells ⟨dcells vz sure slot vw fuse⟩ 104 (0, 0)))
include hd
omit hd in
theorem app_e2 (i : Int) (s : List UInt8) (hi : i < 0 ∨ 8 ≤ i) : C Tryd.prog 15 ⟨[pv b 0, iv i, str s]⟩ w fun v w' => v = .tuple #[iv 0, .iface 35 (iv 2)] ∧ St w [] w' := by
  refine C_enter (n := 60) Tryd.func15 rfl rfl rfl (fun w1 hs1 => ?_)
  refine W_seq ?_
  refine W_region ?_
  refine L0 (wanted_none rfl) rfl (y_assign (v := Value.int _ _) rfl rfl) ?_
  refine L0 (wanted_none rfl) rfl (y_assign (v := Value.nilIface) rfl rfl) ?_
  refine Lnil ?_
  refine W_seq ?_
  refine W_block ?_
  refine W_seq ?_
  refine W_region ?_
  refine L0 (wanted_none rfl) rfl (y_move (v := Value.int _ _) rfl rfl) ?_
  refine L0 (wanted_none rfl) rfl (y_lt rfl rfl rfl) ?_
  refine L0 (wanted_none rfl) rfl (y_move (v := Value.bool _) rfl rfl) ?_
  refine Lsp (t := 11) rfl (fun h2 => ?_) (fun h2 => ?_)
  · have h2' := h2
    first | replace h2' := of_decide_eq_true h2' | replace h2' := bnT' h2' | skip
    refine Lno (wanted_noB rfl rfl rfl h2 (by decide)) rfl ?_
    refine Lno (wanted_noB rfl rfl rfl h2 (by decide)) rfl ?_
    refine L0 (wanted_none rfl) rfl (y_pickT rfl rfl h2 rfl) ?_
    refine L0 (wanted_none rfl) rfl (y_assign (v := Value.bool _) rfl rfl) ?_
    refine Lnil ?_
    refine W_condT rfl rfl ?_
    refine W_seq ?_
    refine W_region ?_
    refine L0 (wanted_none rfl) rfl (y_mkif rfl Tryd.underlying35 rfl rfl) ?_
    refine L0 (wanted_none rfl) rfl (y_assign (v := Value.int _ _) rfl rfl) ?_
    refine L0 (wanted_none rfl) rfl (y_assign (v := Value.iface _ _) rfl rfl) ?_
    refine Lnil ?_
    refine W_ret ?_
    refine fin2 (fn := Tryd.f15) rfl rfl rfl ?_
    exact ⟨rfl, hs1⟩
  · have h2' := h2
    first | replace h2' := of_decide_eq_false h2' | replace h2' := bnF' h2' | skip
    refine L0 (wanted_yesB rfl rfl rfl h2) rfl (y_move (v := Value.int _ _) rfl rfl) ?_
    refine L0 (wanted_yesB rfl rfl rfl h2) rfl (y_ge rfl rfl rfl) ?_
    refine L0 (wanted_none rfl) rfl (y_pickF rfl rfl h2 rfl) ?_
    refine L0 (wanted_none rfl) rfl (y_assign (v := Value.bool _) rfl rfl) ?_
    refine Lnil ?_
    refine Wkn (t := 8) (b0 := true) rfl (by first | exact decide_eq_true (by omega) | exact bnT (by omega) | (simp; omega)) (fun h3 => ?_)
    refine W_condT rfl h3 ?_
    refine W_seq ?_
    refine W_region ?_
    refine L0 (wanted_none rfl) rfl (y_mkif rfl Tryd.underlying35 rfl rfl) ?_
    refine L0 (wanted_none rfl) rfl (y_assign (v := Value.int _ _) rfl rfl) ?_
    refine L0 (wanted_none rfl) rfl (y_assign (v := Value.iface _ _) rfl rfl) ?_
    refine Lnil ?_
    refine W_ret ?_
    refine fin2 (fn := Tryd.f15) rfl rfl rfl ?_
    exact ⟨rfl, hs1⟩
omit hd in
theorem app_e4 (i : Int) (s : List UInt8) (h0 : 0 ≤ i) (h1 : i < 8) (hs : 128 < s.length) : C Tryd.prog 15 ⟨[pv b 0, iv i, str s]⟩ w fun v w' => v = .tuple #[iv 0, .iface 35 (iv 4)] ∧ St w [] w' := by
  refine C_enter (n := 60) Tryd.func15 rfl rfl rfl (fun w1 hs1 => ?_)
  refine W_seq ?_
  refine W_region ?_
  refine L0 (wanted_none rfl) rfl (y_assign (v := Value.int _ _) rfl rfl) ?_
  refine L0 (wanted_none rfl) rfl (y_assign (v := Value.nilIface) rfl rfl) ?_
  refine Lnil ?_
  refine W_seq ?_
  refine W_block ?_
  refine W_seq ?_
  refine W_region ?_
  refine L0 (wanted_none rfl) rfl (y_move (v := Value.int _ _) rfl rfl) ?_
  refine L0 (wanted_none rfl) rfl (y_lt rfl rfl rfl) ?_
  refine L0 (wanted_none rfl) rfl (y_move (v := Value.bool _) rfl rfl) ?_
  refine Lkn (t := 11) (b0 := false) rfl (by first | exact decide_eq_false (by omega) | exact bnF (by omega) | (simp; omega)) (fun h2 => ?_)
  refine L0 (wanted_yesB rfl rfl rfl h2) rfl (y_move (v := Value.int _ _) rfl rfl) ?_
  refine L0 (wanted_yesB rfl rfl rfl h2) rfl (y_ge rfl rfl rfl) ?_
  refine L0 (wanted_none rfl) rfl (y_pickF rfl rfl h2 rfl) ?_
  refine L0 (wanted_none rfl) rfl (y_assign (v := Value.bool _) rfl rfl) ?_
  refine Lnil ?_
  refine Wkn (t := 8) (b0 := false) rfl (by first | exact decide_eq_false (by omega) | exact bnF (by omega) | (simp; omega)) (fun h3 => ?_)
  refine W_condF rfl h3 ?_
  refine W_seq ?_
  refine W_region ?_
  refine L0 (wanted_none rfl) rfl (y_move (v := Value.string ⟨⟨_⟩⟩) rfl rfl) ?_
  refine L0 (wanted_none rfl) rfl (y_len rfl Tryd.underlying9 rfl) ?_
  refine L0 (wanted_none rfl) rfl (y_gt rfl rfl rfl) ?_
  refine L0 (wanted_none rfl) rfl (y_assign (v := Value.bool _) rfl rfl) ?_
  refine Lnil ?_
  refine Wkn (t := 16) (b0 := true) rfl (by first | exact decide_eq_true (by omega) | exact bnT (by omega) | (simp; omega)) (fun h4 => ?_)
  refine W_condT rfl h4 ?_
  refine W_seq ?_
  refine W_region ?_
  refine L0 (wanted_none rfl) rfl (y_mkif rfl Tryd.underlying35 rfl rfl) ?_
  refine L0 (wanted_none rfl) rfl (y_assign (v := Value.int _ _) rfl rfl) ?_
  refine L0 (wanted_none rfl) rfl (y_assign (v := Value.iface _ _) rfl rfl) ?_
  refine Lnil ?_
  refine W_ret ?_
  refine fin2 (fn := Tryd.f15) rfl rfl rfl ?_
  exact ⟨rfl, hs1⟩
theorem app_e12 (i : Int) (s : List UInt8) (h0 : 0 ≤ i) (h1 : i < 8) (hs : s.length ≤ 128) (l : List (List UInt8)) (hz : Sl w (vz i.toNat) l.length (zstrs l)) (hl : l.length = 16) : C Tryd.prog 15 ⟨[pv b 0, iv i, str s]⟩ w fun v w' => v = .tuple #[iv 0, .iface 35 (iv 12)] ∧ St w [] w' := by
  refine C_enter (n := 60) Tryd.func15 rfl rfl rfl (fun w1 hs1 => ?_)
  refine W_seq ?_
  refine W_region ?_
  refine L0 (wanted_none rfl) rfl (y_assign (v := Value.int _ _) rfl rfl) ?_
  refine L0 (wanted_none rfl) rfl (y_assign (v := Value.nilIface) rfl rfl) ?_
  refine Lnil ?_
  refine W_seq ?_
  refine W_block ?_
  refine W_seq ?_
  refine W_region ?_
  refine L0 (wanted_none rfl) rfl (y_move (v := Value.int _ _) rfl rfl) ?_
  refine L0 (wanted_none rfl) rfl (y_lt rfl rfl rfl) ?_
  refine L0 (wanted_none rfl) rfl (y_move (v := Value.bool _) rfl rfl) ?_
  refine Lkn (t := 11) (b0 := false) rfl (by first | exact decide_eq_false (by omega) | exact bnF (by omega) | (simp; omega)) (fun h2 => ?_)
  refine L0 (wanted_yesB rfl rfl rfl h2) rfl (y_move (v := Value.int _ _) rfl rfl) ?_
  refine L0 (wanted_yesB rfl rfl rfl h2) rfl (y_ge rfl rfl rfl) ?_
  refine L0 (wanted_none rfl) rfl (y_pickF rfl rfl h2 rfl) ?_
  refine L0 (wanted_none rfl) rfl (y_assign (v := Value.bool _) rfl rfl) ?_
  refine Lnil ?_
  refine Wkn (t := 8) (b0 := false) rfl (by first | exact decide_eq_false (by omega) | exact bnF (by omega) | (simp; omega)) (fun h3 => ?_)
  refine W_condF rfl h3 ?_
  refine W_seq ?_
  refine W_region ?_
  refine L0 (wanted_none rfl) rfl (y_move (v := Value.string ⟨⟨_⟩⟩) rfl rfl) ?_
  refine L0 (wanted_none rfl) rfl (y_len rfl Tryd.underlying9 rfl) ?_
  refine L0 (wanted_none rfl) rfl (y_gt rfl rfl rfl) ?_
  refine L0 (wanted_none rfl) rfl (y_assign (v := Value.bool _) rfl rfl) ?_
  refine Lnil ?_
  refine Wkn (t := 16) (b0 := false) rfl (by first | exact decide_eq_false (by omega) | exact bnF (by omega) | (simp; omega)) (fun h4 => ?_)
  refine W_condF rfl h4 ?_
  refine W_seq ?_
  refine W_region ?_
  refine L0 (wanted_none rfl) rfl (y_move (v := Value.pointer _) rfl rfl) ?_
  refine L0 (wanted_none rfl) rfl (y_move (v := Value.int _ _) rfl rfl) ?_
  refine L0 (wanted_none rfl) rfl (y_nilCheck rfl rfl) ?_
  refine L0 (wanted_none rfl) rfl (y_fieldAddr rfl Tryd.underlying104 rfl sz29 rfl) ?_
  refine L0 (wanted_none rfl) rfl (y_indexArr rfl Tryd.underlying29 sz22 rfl rfl (by omega) (by omega)) ?_
  refine L1 (wanted_none rfl) rfl hs1 ((y_loadOld rfl Tryd.underlying22 rfl rfl (dc_old hd (dc_z _ _ _ _ _ h0 h1)) (by simp [keys]))) ?_
  refine L0 (wanted_none rfl) rfl (y_slenSl rfl Tryd.underlying22 rfl hz) ?_
  refine L0 (wanted_none rfl) rfl (y_eq rfl rfl rfl) ?_
  refine L0 (wanted_none rfl) rfl (y_assign (v := Value.bool _) rfl rfl) ?_
  refine Lnil ?_
  refine Wkn (t := 21) (b0 := true) rfl (by exact decide_eq_true (by omega)) (fun h5 => ?_)
  refine W_condT rfl h5 ?_
  refine W_seq ?_
  refine W_region ?_
  refine L0 (wanted_none rfl) rfl (y_mkif rfl Tryd.underlying35 rfl rfl) ?_
  refine L0 (wanted_none rfl) rfl (y_assign (v := Value.int _ _) rfl rfl) ?_
  refine L0 (wanted_none rfl) rfl (y_assign (v := Value.iface _ _) rfl rfl) ?_
  refine Lnil ?_
  refine W_ret ?_
  refine fin2 (fn := Tryd.f15) rfl rfl rfl ?_
  exact ⟨rfl, hs1⟩
theorem at_any (i : Int) (h0 : 0 ≤ i) (h1 : i < 8) (l : List (List UInt8)) (hz : Sl w (vz i.toNat) l.length (zstrs l)) : C Tryd.prog 18 ⟨[pv b 0, iv i]⟩ w fun v w' => v = .tuple #[iv l.length, .nilIface] ∧ St w [] w' := by
  refine C_enter (n := 20) Tryd.func18 rfl rfl rfl (fun w1 hs1 => ?_)
  refine W_seq ?_
  refine W_region ?_
  refine L0 (wanted_none rfl) rfl (y_assign (v := Value.int _ _) rfl rfl) ?_
  refine L0 (wanted_none rfl) rfl (y_assign (v := Value.nilIface) rfl rfl) ?_
  refine Lnil ?_
  refine W_seq ?_
  refine W_seq ?_
  refine W_region ?_
  refine L0 (wanted_none rfl) rfl (y_move (v := Value.int _ _) rfl rfl) ?_
  refine L0 (wanted_none rfl) rfl (y_lt rfl rfl rfl) ?_
  refine L0 (wanted_none rfl) rfl (y_move (v := Value.bool _) rfl rfl) ?_
  refine Lkn (t := 8) (b0 := false) rfl (by first | exact decide_eq_false (by omega) | exact bnF (by omega) | (simp; omega)) (fun h2 => ?_)
  refine L0 (wanted_yesB rfl rfl rfl h2) rfl (y_move (v := Value.int _ _) rfl rfl) ?_
  refine L0 (wanted_yesB rfl rfl rfl h2) rfl (y_ge rfl rfl rfl) ?_
  refine L0 (wanted_none rfl) rfl (y_pickF rfl rfl h2 rfl) ?_
  refine Lnil ?_
  refine Wkn (t := 11) (b0 := false) rfl (by first | exact decide_eq_false (by omega) | exact bnF (by omega) | (simp; omega)) (fun h3 => ?_)
  refine W_condF rfl h3 ?_
  refine W_skip ?_
  refine W_seq ?_
  refine W_region ?_
  refine L0 (wanted_none rfl) rfl (y_move (v := Value.pointer _) rfl rfl) ?_
  refine L0 (wanted_none rfl) rfl (y_move (v := Value.int _ _) rfl rfl) ?_
  refine L0 (wanted_none rfl) rfl (y_nilCheck rfl rfl) ?_
  refine L0 (wanted_none rfl) rfl (y_fieldAddr rfl Tryd.underlying104 rfl sz29 rfl) ?_
  refine L0 (wanted_none rfl) rfl (y_indexArr rfl Tryd.underlying29 sz22 rfl rfl (by omega) (by omega)) ?_
  refine L1 (wanted_none rfl) rfl hs1 ((y_loadOld rfl Tryd.underlying22 rfl rfl (dc_old hd (dc_z _ _ _ _ _ h0 h1)) (by simp [keys]))) ?_
  refine L0 (wanted_none rfl) rfl (y_slenSl rfl Tryd.underlying22 rfl hz) ?_
  refine L0 (wanted_none rfl) rfl (y_assign (v := Value.int _ _) rfl rfl) ?_
  refine L0 (wanted_none rfl) rfl (y_assign (v := Value.nilIface) rfl rfl) ?_
  refine Lnil ?_
  refine W_ret ?_
  refine fin2 (fn := Tryd.f18) rfl rfl rfl ?_
  exact ⟨rfl, hs1⟩
theorem read_off (i c : Int) (h0 : 0 ≤ i) (h1 : i < 8) (l : List (List UInt8)) (hz : Sl w (vz i.toNat) l.length (zstrs l)) (hc : c < 0 ∨ l.length ≤ c) : C Tryd.prog 19 ⟨[pv b 0, iv i, iv c]⟩ w fun v w' => v = .tuple #[str [], .iface 35 (iv 7)] ∧ St w [] w' := by
  refine C_enter (n := 40) Tryd.func19 rfl rfl rfl (fun w1 hs1 => ?_)
  refine W_seq ?_
  refine W_region ?_
  refine L0 (wanted_none rfl) rfl (y_assign (v := Value.string ⟨⟨_⟩⟩) rfl rfl) ?_
  refine L0 (wanted_none rfl) rfl (y_assign (v := Value.nilIface) rfl rfl) ?_
  refine Lnil ?_
  refine W_seq ?_
  refine W_block ?_
  refine W_seq ?_
  refine W_region ?_
  refine L0 (wanted_none rfl) rfl (y_move (v := Value.int _ _) rfl rfl) ?_
  refine L0 (wanted_none rfl) rfl (y_lt rfl rfl rfl) ?_
  refine L0 (wanted_none rfl) rfl (y_move (v := Value.bool _) rfl rfl) ?_
  refine Lkn (t := 11) (b0 := false) rfl (by first | exact decide_eq_false (by omega) | exact bnF (by omega) | (simp; omega)) (fun h2 => ?_)
  refine L0 (wanted_yesB rfl rfl rfl h2) rfl (y_move (v := Value.int _ _) rfl rfl) ?_
  refine L0 (wanted_yesB rfl rfl rfl h2) rfl (y_ge rfl rfl rfl) ?_
  refine L0 (wanted_none rfl) rfl (y_pickF rfl rfl h2 rfl) ?_
  refine L0 (wanted_none rfl) rfl (y_assign (v := Value.bool _) rfl rfl) ?_
  refine Lnil ?_
  refine Wkn (t := 8) (b0 := false) rfl (by first | exact decide_eq_false (by omega) | exact bnF (by omega) | (simp; omega)) (fun h3 => ?_)
  refine W_condF rfl h3 ?_
  refine W_seq ?_
  refine W_region ?_
  refine L0 (wanted_none rfl) rfl (y_move (v := Value.int _ _) rfl rfl) ?_
  refine L0 (wanted_none rfl) rfl (y_lt rfl rfl rfl) ?_
  refine L0 (wanted_none rfl) rfl (y_move (v := Value.bool _) rfl rfl) ?_
  refine Lsp (t := 19) rfl (fun h4 => ?_) (fun h4 => ?_)
  · have h4' := h4
    first | replace h4' := of_decide_eq_true h4' | replace h4' := bnT' h4' | skip
    refine Lno (wanted_noB rfl rfl rfl h4 (by decide)) rfl ?_
    refine Lno (wanted_noB rfl rfl rfl h4 (by decide)) rfl ?_
    refine Lno (wanted_noB rfl rfl rfl h4 (by decide)) rfl ?_
    refine Lno (wanted_noB rfl rfl rfl h4 (by decide)) rfl ?_
    refine Lno (wanted_noB rfl rfl rfl h4 (by decide)) rfl ?_
    refine Lno (wanted_noB rfl rfl rfl h4 (by decide)) rfl ?_
    refine Lno (wanted_noB rfl rfl rfl h4 (by decide)) rfl ?_
    refine Lno (wanted_noB rfl rfl rfl h4 (by decide)) rfl ?_
    refine Lno (wanted_noB rfl rfl rfl h4 (by decide)) rfl ?_
    refine L0 (wanted_none rfl) rfl (y_pickT rfl rfl h4 rfl) ?_
    refine L0 (wanted_none rfl) rfl (y_assign (v := Value.bool _) rfl rfl) ?_
    refine Lnil ?_
    refine W_condT rfl rfl ?_
    refine W_seq ?_
    refine W_region ?_
    refine L0 (wanted_none rfl) rfl (y_mkif rfl Tryd.underlying35 rfl rfl) ?_
    refine L0 (wanted_none rfl) rfl (y_assign (v := Value.string ⟨⟨_⟩⟩) rfl rfl) ?_
    refine L0 (wanted_none rfl) rfl (y_assign (v := Value.iface _ _) rfl rfl) ?_
    refine Lnil ?_
    refine W_ret ?_
    refine fin2 (fn := Tryd.f19) rfl rfl rfl ?_
    exact ⟨rfl, hs1⟩
  · have h4' := h4
    first | replace h4' := of_decide_eq_false h4' | replace h4' := bnF' h4' | skip
    refine L0 (wanted_yesB rfl rfl rfl h4) rfl (y_move (v := Value.int _ _) rfl rfl) ?_
    refine L0 (wanted_yesB rfl rfl rfl h4) rfl (y_move (v := Value.pointer _) rfl rfl) ?_
    refine L0 (wanted_yesB rfl rfl rfl h4) rfl (y_move (v := Value.int _ _) rfl rfl) ?_
    refine L0 (wanted_yesB rfl rfl rfl h4) rfl (y_nilCheck rfl rfl) ?_
    refine L0 (wanted_yesB rfl rfl rfl h4) rfl (y_fieldAddr rfl Tryd.underlying104 rfl sz29 rfl) ?_
    refine L0 (wanted_yesB rfl rfl rfl h4) rfl (y_indexArr rfl Tryd.underlying29 sz22 rfl rfl (by omega) (by omega)) ?_
    refine L1 (wanted_yesB rfl rfl rfl h4) rfl hs1 ((y_loadOld rfl Tryd.underlying22 rfl rfl (dc_old hd (dc_z _ _ _ _ _ h0 h1)) (by simp [keys]))) ?_
    refine L0 (wanted_yesB rfl rfl rfl h4) rfl (y_slenSl rfl Tryd.underlying22 rfl hz) ?_
    refine L0 (wanted_yesB rfl rfl rfl h4) rfl (y_ge rfl rfl rfl) ?_
    refine L0 (wanted_none rfl) rfl (y_pickF rfl rfl h4 rfl) ?_
    refine L0 (wanted_none rfl) rfl (y_assign (v := Value.bool _) rfl rfl) ?_
    refine Lnil ?_
    refine Wkn (t := 16) (b0 := true) rfl (by first | exact decide_eq_true (by omega) | exact bnT (by omega) | (simp; omega)) (fun h5 => ?_)
    refine W_condT rfl h5 ?_
    refine W_seq ?_
    refine W_region ?_
    refine L0 (wanted_none rfl) rfl (y_mkif rfl Tryd.underlying35 rfl rfl) ?_
    refine L0 (wanted_none rfl) rfl (y_assign (v := Value.string ⟨⟨_⟩⟩) rfl rfl) ?_
    refine L0 (wanted_none rfl) rfl (y_assign (v := Value.iface _ _) rfl rfl) ?_
    refine Lnil ?_
    refine W_ret ?_
    refine fin2 (fn := Tryd.f19) rfl rfl rfl ?_
    exact ⟨rfl, hs1⟩
theorem read_any (i c : Int) (h0 : 0 ≤ i) (h1 : i < 8) (l : List (List UInt8)) (hz : Sl w (vz i.toNat) l.length (zstrs l)) (c0 : 0 ≤ c) (c1 : c < l.length) : C Tryd.prog 19 ⟨[pv b 0, iv i, iv c]⟩ w fun v w' => v = .tuple #[str (l.getD c.toNat []), .nilIface] ∧ St w [] w' := by
  refine C_enter (n := 40) Tryd.func19 rfl rfl rfl (fun w1 hs1 => ?_)
  refine W_seq ?_
  refine W_region ?_
  refine L0 (wanted_none rfl) rfl (y_assign (v := Value.string ⟨⟨_⟩⟩) rfl rfl) ?_
  refine L0 (wanted_none rfl) rfl (y_assign (v := Value.nilIface) rfl rfl) ?_
  refine Lnil ?_
  refine W_seq ?_
  refine W_block ?_
  refine W_seq ?_
  refine W_region ?_
  refine L0 (wanted_none rfl) rfl (y_move (v := Value.int _ _) rfl rfl) ?_
  refine L0 (wanted_none rfl) rfl (y_lt rfl rfl rfl) ?_
  refine L0 (wanted_none rfl) rfl (y_move (v := Value.bool _) rfl rfl) ?_
  refine Lkn (t := 11) (b0 := false) rfl (by first | exact decide_eq_false (by omega) | exact bnF (by omega) | (simp; omega)) (fun h2 => ?_)
  refine L0 (wanted_yesB rfl rfl rfl h2) rfl (y_move (v := Value.int _ _) rfl rfl) ?_
  refine L0 (wanted_yesB rfl rfl rfl h2) rfl (y_ge rfl rfl rfl) ?_
  refine L0 (wanted_none rfl) rfl (y_pickF rfl rfl h2 rfl) ?_
  refine L0 (wanted_none rfl) rfl (y_assign (v := Value.bool _) rfl rfl) ?_
  refine Lnil ?_
  refine Wkn (t := 8) (b0 := false) rfl (by first | exact decide_eq_false (by omega) | exact bnF (by omega) | (simp; omega)) (fun h3 => ?_)
  refine W_condF rfl h3 ?_
  refine W_seq ?_
  refine W_region ?_
  refine L0 (wanted_none rfl) rfl (y_move (v := Value.int _ _) rfl rfl) ?_
  refine L0 (wanted_none rfl) rfl (y_lt rfl rfl rfl) ?_
  refine L0 (wanted_none rfl) rfl (y_move (v := Value.bool _) rfl rfl) ?_
  refine Lkn (t := 19) (b0 := false) rfl (by first | exact decide_eq_false (by omega) | exact bnF (by omega) | (simp; omega)) (fun h4 => ?_)
  refine L0 (wanted_yesB rfl rfl rfl h4) rfl (y_move (v := Value.int _ _) rfl rfl) ?_
  refine L0 (wanted_yesB rfl rfl rfl h4) rfl (y_move (v := Value.pointer _) rfl rfl) ?_
  refine L0 (wanted_yesB rfl rfl rfl h4) rfl (y_move (v := Value.int _ _) rfl rfl) ?_
  refine L0 (wanted_yesB rfl rfl rfl h4) rfl (y_nilCheck rfl rfl) ?_
  refine L0 (wanted_yesB rfl rfl rfl h4) rfl (y_fieldAddr rfl Tryd.underlying104 rfl sz29 rfl) ?_
  refine L0 (wanted_yesB rfl rfl rfl h4) rfl (y_indexArr rfl Tryd.underlying29 sz22 rfl rfl (by omega) (by omega)) ?_
  refine L1 (wanted_yesB rfl rfl rfl h4) rfl hs1 ((y_loadOld rfl Tryd.underlying22 rfl rfl (dc_old hd (dc_z _ _ _ _ _ h0 h1)) (by simp [keys]))) ?_
  refine L0 (wanted_yesB rfl rfl rfl h4) rfl (y_slenSl rfl Tryd.underlying22 rfl hz) ?_
  refine L0 (wanted_yesB rfl rfl rfl h4) rfl (y_ge rfl rfl rfl) ?_
  refine L0 (wanted_none rfl) rfl (y_pickF rfl rfl h4 rfl) ?_
  refine L0 (wanted_none rfl) rfl (y_assign (v := Value.bool _) rfl rfl) ?_
  refine Lnil ?_
  refine Wkn (t := 16) (b0 := false) rfl (by first | exact decide_eq_false (by omega) | exact bnF (by omega) | (simp; omega)) (fun h5 => ?_)
  refine W_condF rfl h5 ?_
  refine W_skip ?_
  refine W_seq ?_
  refine W_region ?_
  refine L0 (wanted_none rfl) rfl (y_move (v := Value.pointer _) rfl rfl) ?_
  refine L0 (wanted_none rfl) rfl (y_move (v := Value.int _ _) rfl rfl) ?_
  refine L0 (wanted_none rfl) rfl (y_nilCheck rfl rfl) ?_
  refine L0 (wanted_none rfl) rfl (y_fieldAddr rfl Tryd.underlying104 rfl sz29 rfl) ?_
  refine L0 (wanted_none rfl) rfl (y_indexArr rfl Tryd.underlying29 sz22 rfl rfl (by omega) (by omega)) ?_
  refine L1 (wanted_none rfl) rfl hs1 ((y_loadOld rfl Tryd.underlying22 rfl rfl (dc_old hd (dc_z _ _ _ _ _ h0 h1)) (by simp [keys]))) ?_
  refine L0 (wanted_none rfl) rfl (y_move (v := Value.int _ _) rfl rfl) ?_
  refine L0 (wanted_none rfl) rfl (y_indexSlAt rfl Tryd.underlying22 sz9 rfl rfl hz (by omega) (by omega)) ?_
  refine L1 (wanted_none rfl) rfl hs1 ((y_loadSl c.toNat rfl Tryd.underlying9 rfl rfl hz rfl (by omega) (by simp [keys]))) ?_
  refine L0 (wanted_none rfl) rfl (y_assign (v := Value.string ⟨⟨_⟩⟩) rfl rfl) ?_
  refine L0 (wanted_none rfl) rfl (y_assign (v := Value.nilIface) rfl rfl) ?_
  refine Lnil ?_
  refine W_ret ?_
  refine fin2 (fn := Tryd.f19) rfl rfl rfl ?_
  exact ⟨rfl, hs1⟩
end
theorem Vx.Row.one {B E s m : Nat} {v : Value} {xs : List Value} {ent : Blocks} (h : Row B E s v m xs ent) : v.oneCell' = true := by
  rcases h.2 with ⟨rfl, _⟩ | ⟨g, cap, cur, fz, rfl, _⟩ <;> rfl
theorem updR {rows : Blocks} {vz : Nat → Value} {z : Nat → List (List UInt8)} {j : Nat} {v : Value} {l : List (List UInt8)} (h : ∀ j, j < 8 → RowIn rows (vz j) (z j)) (hv : RowIn rows v l) : ∀ k, k < 8 → RowIn rows (updF vz j v k) (updF z j l k) := fun k hk => by
  by_cases e : k = j
  · subst e; rw [updF_at, updF_at]; exact hv
  · rw [updF_ne _ _ e, updF_ne _ _ e]; exact h k hk
theorem app_ok {W0 : World} {K : Blocks} {b : Nat} {D : Dv} {w : World} {vz : Nat → Value} {vw : Value} {went rows : Blocks} (h : DSt W0 K b D w vz vw went rows) (hf : D.fuse < 0) (i : Int) (s : List UInt8) (h0 : 0 ≤ i) (h1 : i < 8) (hs : s.length ≤ 128) (hl : (D.z i.toNat).length < 16) :
    C Tryd.prog 15 ⟨[pv b 0, iv i, str s]⟩ w fun v w' => ∃ vz' rows', v = .tuple #[iv (D.z i.toNat).length, .nilIface] ∧ DSt W0 K b { D with z := updF D.z i.toNat (D.z i.toNat ++ [fillN s 128]) } w' vz' vw went rows' := by
  have hj : i.toNat < 8 := by omega
  have hd := h.has
  have hz := h.sl hj
  have hz2 := h.rz _ hj
  obtain ⟨a, cap, hv, ha, hle, hax⟩ := hz2.shape
  rw [hv] at hz2
  have hz3 := hz2.clip
  refine C_enter (n := 60) Tryd.func15 rfl rfl rfl (fun w1 hs1 => ?_)
  have hs0 := (h.st.call0 hs1).perm List.perm_middle
  refine W_seq ?_
  refine W_region ?_
  refine L0 (wanted_none rfl) rfl (y_assign (v := Value.int _ _) rfl rfl) ?_
  refine L0 (wanted_none rfl) rfl (y_assign (v := Value.nilIface) rfl rfl) ?_
  refine Lnil ?_
  refine W_seq ?_
  refine W_block ?_
  refine W_seq ?_
  refine W_region ?_
  refine L0 (wanted_none rfl) rfl (y_move (v := Value.int _ _) rfl rfl) ?_
  refine L0 (wanted_none rfl) rfl (y_lt rfl rfl rfl) ?_
  refine L0 (wanted_none rfl) rfl (y_move (v := Value.bool _) rfl rfl) ?_
  refine Lkn (t := 11) (b0 := false) rfl (by first | exact decide_eq_false (by omega) | exact bnF (by omega) | (simp; omega)) (fun h2 => ?_)
  refine L0 (wanted_yesB rfl rfl rfl h2) rfl (y_move (v := Value.int _ _) rfl rfl) ?_
  refine L0 (wanted_yesB rfl rfl rfl h2) rfl (y_ge rfl rfl rfl) ?_
  refine L0 (wanted_none rfl) rfl (y_pickF rfl rfl h2 rfl) ?_
  refine L0 (wanted_none rfl) rfl (y_assign (v := Value.bool _) rfl rfl) ?_
  refine Lnil ?_
  refine Wkn (t := 8) (b0 := false) rfl (by first | exact decide_eq_false (by omega) | exact bnF (by omega) | (simp; omega)) (fun h3 => ?_)
  refine W_condF rfl h3 ?_
  refine W_seq ?_
  refine W_region ?_
  refine L0 (wanted_none rfl) rfl (y_move (v := Value.string ⟨⟨_⟩⟩) rfl rfl) ?_
  refine L0 (wanted_none rfl) rfl (y_len rfl Tryd.underlying9 rfl) ?_
  refine L0 (wanted_none rfl) rfl (y_gt rfl rfl rfl) ?_
  refine L0 (wanted_none rfl) rfl (y_assign (v := Value.bool _) rfl rfl) ?_
  refine Lnil ?_
  refine Wkn (t := 16) (b0 := false) rfl (by first | exact decide_eq_false (by omega) | exact bnF (by omega) | (simp; omega)) (fun h4 => ?_)
  refine W_condF rfl h4 ?_
  refine W_seq ?_
  refine W_region ?_
  refine L0 (wanted_none rfl) rfl (y_move (v := Value.pointer _) rfl rfl) ?_
  refine L0 (wanted_none rfl) rfl (y_move (v := Value.int _ _) rfl rfl) ?_
  refine L0 (wanted_none rfl) rfl (y_nilCheck rfl rfl) ?_
  refine L0 (wanted_none rfl) rfl (y_fieldAddr rfl Tryd.underlying104 rfl sz29 rfl) ?_
  refine L0 (wanted_none rfl) rfl (y_indexArr rfl Tryd.underlying29 sz22 rfl rfl (by omega) (by omega)) ?_
  refine L1 (wanted_none rfl) rfl hs0 (y_load 0 rfl Tryd.underlying22 rfl rfl rfl (dc_zv h0 h1 hv)) ?_
  refine L0 (wanted_none rfl) rfl (y_slen rfl Tryd.underlying22 rfl) ?_
  refine L0 (wanted_none rfl) rfl (y_eq rfl rfl rfl) ?_
  refine L0 (wanted_none rfl) rfl (y_assign (v := Value.bool _) rfl rfl) ?_
  refine Lnil ?_
  refine Wkn (t := 21) (b0 := false) rfl (by exact decide_eq_false (by omega)) (fun h5 => ?_)
  refine W_condF rfl h5 ?_
  refine W_seq ?_
  refine W_region ?_
  refine L0 (wanted_none rfl) rfl (y_move (v := Value.pointer _) rfl rfl) ?_
  refine Lc (wanted_none rfl) (c_call rfl rfl rfl Tryd.func67 (by kernel_rfl) rfl (burn_neg b _ _ _ _ _ hf w1 (hs0.get 0 rfl)) rfl ?_)
  rintro _ w6 ⟨rfl, hc7⟩
  have hs8 := hs0.call0 hc7
  refine L0 (wanted_none rfl) rfl (y_not rfl rfl) ?_
  refine L0 (wanted_none rfl) rfl (y_assign (v := Value.bool _) rfl rfl) ?_
  refine Lnil ?_
  refine Wkn (t := 31) (b0 := false) rfl (by rfl) (fun h9 => ?_)
  refine W_condF rfl h9 ?_
  refine W_skip ?_
  refine W_seq ?_
  refine W_drawSt [(0, 0), (0, 1), (0, 2), (0, 3), (0, 9), (0, 4), (0, 13), (0, 5), (0, 14), (0, 6), (1, 7), (2, 8), (3, 10), (3, 11), (3, 12), (0, 15), (2, 16)] hs8 mixed (by kernel_rfl) (fun w10 hs11 => ?_)
  refine E0 (wanted_none rfl) rfl (y_move (v := Value.pointer _) rfl rfl) ?_
  refine E0 (wanted_none rfl) rfl (y_move (v := Value.int _ _) rfl rfl) ?_
  refine E0 (wanted_none rfl) rfl (y_move (v := Value.pointer _) rfl rfl) ?_
  refine E0 (wanted_none rfl) rfl (y_move (v := Value.int _ _) rfl rfl) ?_
  refine E0 (wanted_none rfl) rfl (y_move (v := Value.string ⟨⟨_⟩⟩) rfl rfl) ?_
  refine E0 (wanted_none rfl) rfl (y_nilCheck rfl rfl) ?_
  refine E0 (wanted_none rfl) rfl (y_nilCheck rfl rfl) ?_
  refine E0 (wanted_none rfl) rfl (y_fieldAddr rfl Tryd.underlying104 rfl sz29 rfl) ?_
  refine E0 (wanted_none rfl) rfl (y_fieldAddr rfl Tryd.underlying104 rfl sz29 rfl) ?_
  refine E0 (wanted_none rfl) rfl (y_indexArr rfl Tryd.underlying29 sz22 rfl rfl (by omega) (by omega)) ?_
  refine E1 hs11 (wanted_none rfl) rfl (y_load 0 rfl Tryd.underlying22 rfl rfl rfl (dc_zv h0 h1 hv)) ?_
  refine E2 (wanted_none rfl) (c_call rfl rfl rfl Tryd.func68 (by kernel_rfl) rfl (clip_any a _ cap hle ha w10) rfl ?_)
  rintro _ w12 ⟨rfl, hc13⟩
  have hs14 := hs11.call0 hc13
  refine E3 (wanted_none rfl) (c_call rfl rfl rfl Tryd.func69 (by kernel_rfl) rfl (fill_any s 128 (by decide) (by omega) w12) rfl ?_)
  rintro _ w15 ⟨rfl, hc16⟩
  have hs17 := hs14.call0 hc16
  refine ⟨fun _ => hs17, ?_⟩
  refine E3 (wanted_none rfl) (c_bs1 (v0 := str _) hs17 rfl rfl Tryd.underlying22 sz9 zr9 rfl rfl  (fun b18 w19 hbb18 hs20 => ?_))
  refine ⟨fun _ => hs20.drop (.inl hbb18), ?_⟩
  refine E3 (wanted_none rfl) (c_appendFull hs20 rfl rfl Tryd.underlying22 sz9 zr9 by9 rfl rfl (((hz3.sl hs20 (fun x hx => by simp [hx])).srcs)) (hax) rfl (Src.ofBlock (kk := 1) (hs20.get 0 rfl) rfl) (by decide) (by omega) (by omega) (fun vN entN w21 hrow' hn23 hs22 => ?_))
  have hrow := hrow'
  have hnew_hrow := hn23
  have hN := hrow.new
  have hN1 := hrow.one
  have hs22 := ((hs22.perm List.perm_middle).drop (.inl hbb18)).perm List.perm_middle
  have hsK := (hs22.perm (List.perm_middle (l₁ := entN)).symm).dropL (M := entN) hN
  refine ⟨fun _ => hsK, ?_⟩
  refine E0 (wanted_none rfl) rfl (y_indexArr rfl Tryd.underlying29 sz22 rfl rfl (by omega) (by omega)) ?_
  refine E2 (wanted_none rfl) (c_store (i := 0) (v := vN) hs22 rfl rfl rfl rfl sz22 hN1 rfl (by (show _ < 20; simp; omega)) (Fz.zero _) (fun w24 hs25 => ?_))
  have hs25 := hs25.at0 (dc_setz _ _ _ _ _ h0 h1 _)
  refine Enil ?_
  refine W_seq ?_
  refine W_region ?_
  refine L0 (wanted_none rfl) rfl (y_move (v := Value.pointer _) rfl rfl) ?_
  refine L0 (wanted_none rfl) rfl (y_move (v := Value.int _ _) rfl rfl) ?_
  refine L0 (wanted_none rfl) rfl (y_nilCheck rfl rfl) ?_
  refine L0 (wanted_none rfl) rfl (y_fieldAddr rfl Tryd.underlying104 rfl sz29 rfl) ?_
  refine L0 (wanted_none rfl) rfl (y_indexArr rfl Tryd.underlying29 sz22 rfl rfl (by omega) (by omega)) ?_
  refine L1 (wanted_none rfl) rfl hs25 (y_load 0 rfl Tryd.underlying22 rfl rfl rfl (dc_zv h0 h1 (updF_at _ _ _))) ?_
  refine L0 (wanted_none rfl) rfl (y_slenRow rfl Tryd.underlying22 rfl hrow) ?_
  refine L0 (wanted_none rfl) rfl (y_sub64 rfl rfl rfl (by omega)) ?_
  refine L0 (wanted_none rfl) rfl (y_assign (v := Value.int _ _) rfl rfl) ?_
  refine L0 (wanted_none rfl) rfl (y_assign (v := Value.nilIface) rfl rfl) ?_
  refine Lnil ?_
  refine W_ret ?_
  refine fin2 (fn := Tryd.f15) rfl rfl rfl ?_
  refine ⟨updF vz i.toNat vN, entN ++ rows, congrArg Value.tuple (congrArg (fun x => #[x, Value.nilIface]) (iv_eq (by omega))), ?_⟩
  refine ⟨hs25.re (fun a => by simp only [ct_append, ct_cons]; omega), ?_, h.rw, h.newb, ?_⟩
  · have hr2 : RowIn entN vN (D.z i.toNat ++ [fillN s 128]) := RowIn.ofRow (by rw [List.map_append]; exact hrow)
    exact updR (fun j hj => (h.rz j hj).mono (fun x hx => List.mem_append_right _ hx)) (hr2.mono (fun x hx => List.mem_append_left _ hx))
  · intro x hx
    rcases List.mem_append.1 hx with hx | hx
    · exact hN x hx
    · exact h.newr x hx
end Go.Proofs.YtkolfgmpmnelmabDoor
