/-
  Walks: the reference's device: lose, Sync, Crash.
-/
import Derived.Test.YtkolfgmpmnelmabDoorYD
namespace Go.Proofs.YtkolfgmpmnelmabDoor
open Go Vx Go.Proofs
set_option linter.unusedVariables false
set_option maxRecDepth 4000
set_option maxHeartbeats 1000000

def lsN (D : Dv) (kf : Nat → Nat) (j : Nat) : Nat := min (D.sure j + kf j) (D.z j).length
def lsZ (D : Dv) (kf : Nat → Nat) (k j : Nat) : List (List UInt8) := if j < k then (D.z j).take (lsN D kf j) else D.z j
def lsS (D : Dv) (kf : Nat → Nat) (k j : Nat) : Nat := if j < k then lsN D kf j else D.sure j
theorem lsS_zero (D : Dv) (kf : Nat → Nat) : lsS D kf 0 = D.sure := by funext j; simp [lsS]
theorem lsS_at (D : Dv) (kf : Nat → Nat) (k : Nat) : lsS D kf k k = D.sure k := if_neg (Nat.lt_irrefl _)
theorem lsZ_len (D : Dv) (kf : Nat → Nat) (k : Nat) : (lsZ D kf (k + 1) k).length = lsN D kf k := by
  rw [lsZ, if_pos (by omega), List.length_take, lsN]; omega
theorem lsS_succ (D : Dv) (kf : Nat → Nat) (k : Nat) : updF (lsS D kf k) k (lsZ D kf (k + 1) k).length = lsS D kf (k + 1) := by
  rw [lsZ_len]
  funext j
  by_cases h : j = k
  · subst h; rw [updF_at, lsS, if_pos (by omega)]
  · rw [updF_ne _ _ h, lsS, lsS]
    by_cases h2 : j < k
    · rw [if_pos h2, if_pos (by omega)]
    · rw [if_neg h2, if_neg (by omega)]
theorem lsR {rows rows' : Blocks} {vz : Nat → Value} {D : Dv} {kf : Nat → Nat} {k : Nat} {v : Value} (h : ∀ j, j < 8 → RowIn rows (vz j) (lsZ D kf k j)) (hr : ∀ x ∈ rows, x ∈ rows') (hv : RowIn rows' v ((D.z k).take (lsN D kf k))) : ∀ j, j < 8 → RowIn rows' (updF vz k v j) (lsZ D kf (k + 1) j) := fun j hj => by
  by_cases e : j = k
  · subst e; rw [updF_at, lsZ, if_pos (by omega)]; exact hv
  · rw [updF_ne _ _ e]
    have := (h j hj).mono hr
    rw [lsZ] at this ⊢
    by_cases h2 : j < k
    · rw [if_pos h2] at this; rw [if_pos (by omega)]; exact this
    · rw [if_neg h2] at this; rw [if_neg (by omega)]; exact this
theorem lsR0 {rows : Blocks} {vz : Nat → Value} {D : Dv} {kf : Nat → Nat} {k : Nat} (h : ∀ j, j < 8 → RowIn rows (vz j) (lsZ D kf k j)) (hl : (D.z k).length ≤ D.sure k + kf k) : ∀ j, j < 8 → RowIn rows (vz j) (lsZ D kf (k + 1) j) := fun j hj => by
  have := h j hj
  by_cases e : j = k
  · subst e
    rw [lsZ, if_neg (by omega)] at this
    rw [lsZ, if_pos (by omega), lsN, Nat.min_eq_right hl, List.take_length]; exact this
  · rw [lsZ] at this ⊢
    by_cases h2 : j < k
    · rw [if_pos h2] at this; rw [if_pos (by omega)]; exact this
    · rw [if_neg h2] at this; rw [if_neg (by omega)]; exact this
theorem lsZ_zero (D : Dv) (kf : Nat → Nat) (j : Nat) : lsZ D kf 0 j = D.z j := by simp [lsZ]
section
variable {W0 : World} {K : Blocks} {b : Nat} {D : Dv} {w : World} {vz : Nat → Value} {vA vW : Value} {wA wW rows : Blocks} {k : Nat}
theorem lose_ok (h : RSt W0 K b D w vz vA vW wA wW rows) (hi : DInv D k) (hk1 : k ≤ 1000) (gk gs : Nat) (fk fs : Func) (ck cs : List Value) (kf : Nat → Nat) (sf : Nat → Bool) (hkf : ∀ j, kf j ≤ 16)
    (hfk : Tryd.prog.funcs[gk]? = some fk) (hnk : (fk.name == "runtime.NumGoroutine") = false) (hbk : fk.body.isNone = false) (hfs : Tryd.prog.funcs[gs]? = some fs) (hns : (fs.name == "runtime.NumGoroutine") = false) (hbs : fs.body.isNone = false)
    (hck : ∀ (z : Nat) (w' : World) (L' : Blocks), z < 8 → St W0 (K ++ L') w' → (∀ x ∈ L', W0.heap.size ≤ x.1) → C Tryd.prog gk ⟨[iv z] ++ ck⟩ w' fun v w'' => v = iv (kf z) ∧ St w' [] w'')
    (hcs : ∀ (z : Nat) (w' : World) (L' : Blocks), z < D.wait.length → St W0 (K ++ L') w' → (∀ x ∈ L', W0.heap.size ≤ x.1) → C Tryd.prog gs ⟨[iv z] ++ cs⟩ w' fun v w'' => v = .bool (sf z) ∧ St w' [] w'') :
    C Tryd.prog 90 ⟨[pv b 0, .func (.func gk) #[] ⟨ck⟩, .func (.func gs) #[] ⟨cs⟩]⟩ w fun v w' => ∃ vz' rows', v = .tuple #[] ∧ RSt W0 K b { z := lsZ D kf 8, sure := lsS D kf 8, slot := landF D.slot D.wait sf D.wait.length, wait := [], fuse := D.fuse } w' vz' (.slice none 0 0) (.slice none 0 0) [] [] rows' := by
  have hl := hi.len
  have hfrA := h.rA.new
  have hfrW := h.rW.new
  have hfr : ∀ (c : Array Value) (R : Blocks), (∀ x ∈ R, W0.heap.size ≤ x.1) → ∀ x ∈ ((b, Obj.cells c 135 (0, 0)) :: (R ++ (wA ++ wW))), W0.heap.size ≤ x.1 := fun c R hR x hx => by
    rcases List.mem_cons.1 hx with rfl | hx
    · exact h.newb
    · rcases List.mem_append.1 hx with hx | hx
      · exact hR x hx
      · exact (List.mem_append.1 hx).elim (hfrA x) (hfrW x)
  refine C_enter (n := 92) Tryd.func90 rfl rfl rfl (fun w1 hs1 => ?_)
  have hs0 := (h.st.call0 hs1).re (L' := (b, .cells ⟨rcells vz D.sure D.slot vA vW D.fuse⟩ 135 (0, 0)) :: (rows ++ (K ++ (wA ++ wW)))) (fun a => by simp only [ct_append, ct_cons, ct_nil]; omega)
  refine W_seq ?_
  refine W_seq ?_
  refine W_region ?_
  refine L0 (wanted_none rfl) rfl (y_move (v := Value.int _ _) rfl rfl) ?_
  refine Lnil ?_
  refine W_block ?_
  refine W_loop (G := Nat × (Nat → Value) × Blocks) (fun g aL wl => ∃ e, aL = A 92 ((10, iv g.1) :: (0, pv b 0) :: (1, .func (.func gk) #[] ⟨ck⟩) :: (2, .func (.func gs) #[] ⟨cs⟩) :: e) ∧ g.1 ≤ 8 ∧ (∀ j, j < 8 → RowIn g.2.2 (g.2.1 j) (lsZ D kf g.1 j)) ∧ (∀ x ∈ g.2.2, W0.heap.size ≤ x.1) ∧ St W0 ((b, .cells ⟨rcells g.2.1 (lsS D kf g.1) D.slot vA vW D.fuse⟩ 135 (0, 0)) :: (g.2.2 ++ (K ++ (wA ++ wW)))) wl) (fun g => 8 - g.1) ((0, vz, rows)) ?_ ?_
  · exact ⟨_, A_pins _ _ [10, 0, 1, 2], Nat.zero_le _, (fun j hj => by rw [lsZ_zero]; exact h.rz j hj), h.newr, by (dsimp only); rw [lsS_zero]; exact hs0⟩
  rintro g _ w2 ⟨ehs3, rfl, hi8, hR, hI, hs3⟩
  obtain ⟨i, vz2, rows2⟩ := g
  dsimp only at *
  refine W_seq ?_
  refine W_region ?_
  refine L0 (wanted_none rfl) rfl (y_lt rfl rfl rfl) ?_
  refine Lnil ?_
  refine W_seq ?_
  refine Wsp (t := 11) rfl (fun h4 => ?_) (fun h4 => ?_)
  · have h4' := h4
    first | replace h4' := of_decide_eq_true h4' | replace h4' := bnT' h4' | skip
    refine W_condT rfl h4 ?_
    refine W_skip ?_
    refine W_seq ?_
    refine W_block ?_
    refine W_seq ?_
    obtain ⟨hsu, h16⟩ := hi.z i (by omega)
    have hkfi := hkf i
    have hRi : RowIn rows2 (vz2 i) (D.z i) := by have h5 := hR i (by omega); rwa [lsZ, if_neg (Nat.lt_irrefl _)] at h5
    obtain ⟨a, cap, hv, ha, hle, _⟩ := hRi.shape
    rw [hv] at hRi
    refine W_region ?_
    refine L0 (wanted_none rfl) rfl (y_move (v := Value.int _ _) rfl rfl) ?_
    refine L0 (wanted_none rfl) rfl (y_assign (v := Value.int _ _) rfl rfl) ?_
    refine Lnil ?_
    refine W_seq ?_
    refine W_drawSt [(0, 0), (0, 1), (0, 6), (0, 7), (0, 2), (0, 3), (0, 4), (1, 5), (3, 8), (0, 9), (0, 10)] hs3 mixed (by kernel_rfl) (fun w5 hs6 => ?_)
    refine E0 (wanted_none rfl) rfl (y_move (v := Value.pointer _) rfl rfl) ?_
    refine E0 (wanted_none rfl) rfl (y_move (v := Value.int _ _) rfl rfl) ?_
    refine E0 (wanted_none rfl) rfl (y_move (v := Value.func _ _ _) rfl rfl) ?_
    refine E0 (wanted_none rfl) rfl (y_move (v := Value.int _ _) rfl rfl) ?_
    refine E0 (wanted_none rfl) rfl (y_nilCheck rfl rfl) ?_
    refine E0 (wanted_none rfl) rfl (y_fieldAddr rfl Tryd.underlying135 rfl sz101 rfl) ?_
    refine E0 (wanted_none rfl) rfl (y_indexArr rfl Tryd.underlying101 sz3 rfl rfl (by omega) (by omega)) ?_
    refine E1 hs6 (wanted_none rfl) rfl (y_load 0 rfl Tryd.underlying3 rfl rfl rfl (rc_sv (by omega) (by omega) (lsS_at _ _ _))) ?_
    refine E3 (wanted_none rfl) (c_call rfl rfl rfl hfk hnk hbk (hck i w5 _ (by omega) (hs6.re (L' := K ++ ((b, .cells ⟨rcells vz2 (lsS D kf i) D.slot vA vW D.fuse⟩ 135 (0, 0)) :: (rows2 ++ (wA ++ wW)))) (fun a => by simp only [ct_append, ct_cons, ct_nil]; omega)) (hfr _ _ hI)) rfl ?_)
    rintro _ w7 ⟨rfl, hc8⟩
    have hs9 := hs6.call0 hc8
    refine ⟨fun _ => hs9, ?_⟩
    refine E0 (wanted_none rfl) rfl (y_add64 rfl rfl rfl (by omega)) ?_
    refine E0 (wanted_none rfl) rfl (y_assign (v := Value.int _ _) rfl rfl) ?_
    refine Enil ?_
    refine W_seq ?_
    refine W_seq ?_
    refine W_region ?_
    refine L0 (wanted_none rfl) rfl (y_move (v := Value.int _ _) rfl rfl) ?_
    refine L0 (wanted_none rfl) rfl (y_move (v := Value.pointer _) rfl rfl) ?_
    refine L0 (wanted_none rfl) rfl (y_move (v := Value.int _ _) rfl rfl) ?_
    refine L0 (wanted_none rfl) rfl (y_nilCheck rfl rfl) ?_
    refine L0 (wanted_none rfl) rfl (y_fieldAddr rfl Tryd.underlying135 rfl sz29 rfl) ?_
    refine L0 (wanted_none rfl) rfl (y_indexArr rfl Tryd.underlying29 sz22 rfl rfl (by omega) (by omega)) ?_
    refine L1 (wanted_none rfl) rfl hs9 (y_load 0 rfl Tryd.underlying22 rfl rfl rfl (rc_zv (by omega) (by omega) hv)) ?_
    refine L0 (wanted_none rfl) rfl (y_slen rfl Tryd.underlying22 rfl) ?_
    refine L0 (wanted_none rfl) rfl (y_lt rfl rfl rfl) ?_
    refine Lnil ?_
    refine Wsp (t := 31) rfl (fun h10 => ?_) (fun h10 => ?_)
    · have h10' := h10
      first | replace h10' := of_decide_eq_true h10' | replace h10' := bnT' h10' | skip
      refine W_condT rfl h10 ?_
      refine W_drawSt [(0, 0), (0, 1), (0, 3), (0, 4), (0, 9), (0, 5), (0, 12), (0, 6), (0, 13), (0, 7), (1, 8), (0, 10), (3, 2), (3, 11), (0, 14), (2, 15)] hs9 mixed (by kernel_rfl) (fun w11 hs12 => ?_)
      refine E0 (wanted_none rfl) rfl (y_move (v := Value.pointer _) rfl rfl) ?_
      refine E0 (wanted_none rfl) rfl (y_move (v := Value.int _ _) rfl rfl) ?_
      refine E0 (wanted_none rfl) rfl (y_move (v := Value.pointer _) rfl rfl) ?_
      refine E0 (wanted_none rfl) rfl (y_move (v := Value.int _ _) rfl rfl) ?_
      refine E0 (wanted_none rfl) rfl (y_move (v := Value.int _ _) rfl rfl) ?_
      refine E0 (wanted_none rfl) rfl (y_nilCheck rfl rfl) ?_
      refine E0 (wanted_none rfl) rfl (y_nilCheck rfl rfl) ?_
      refine E0 (wanted_none rfl) rfl (y_fieldAddr rfl Tryd.underlying135 rfl sz29 rfl) ?_
      refine E0 (wanted_none rfl) rfl (y_fieldAddr rfl Tryd.underlying135 rfl sz29 rfl) ?_
      refine E0 (wanted_none rfl) rfl (y_indexArr rfl Tryd.underlying29 sz22 rfl rfl (by omega) (by omega)) ?_
      refine E1 hs12 (wanted_none rfl) rfl (y_load 0 rfl Tryd.underlying22 rfl rfl rfl (rc_zv (by omega) (by omega) hv)) ?_
      refine E0 (wanted_none rfl) rfl (y_slHi rfl Tryd.underlying22 sz9 rfl ha rfl (by omega)) ?_
      refine E3 (wanted_none rfl) (c_buildSlice0 hs12 rfl rfl Tryd.underlying22 sz9 (fun b13 w14 hbb13 hs15 => ?_))
      refine ⟨fun _ => hs15.drop (.inl hbb13), ?_⟩
      refine E3 (wanted_none rfl) (c_appendG (L0 := (b, .cells ⟨rcells vz2 (lsS D kf i) D.slot vA vW D.fuse⟩ 135 (0, 0)) :: (rows2 ++ (K ++ (wA ++ wW)))) (ent := [(b13, .cells ⟨[]⟩ 9 (0, 0))]) hs15 (perm_ct (fun a => by simp only [ct_append, ct_cons, ct_nil]; omega)) rfl rfl Tryd.underlying22 sz9 zr9 by9 rfl rfl (row0 hbb13) (Nat.le_refl _) (fun x hx => .inl ((row0 hbb13).new x hx)) rfl (((hRi.take (n := D.sure i + kf i) (by omega)).sl hs15 (fun x hx => by simp [hx])).srcs) (by intro u hu; obtain ⟨x, _, rfl⟩ := List.mem_map.1 hu; rfl) (by rw [List.length_take]; omega) (by rw [List.length_take]; omega) (fun vN entN w16 hrow' hn18 hs17 => ?_))
      have hrow := hrow'
      have hnew_hrow := hn18
      have hN := hrow.new
      have hN1 := hrow.one
      have hrN : RowIn entN vN ((D.z i).take (lsN D kf i)) := by rw [lsN, Nat.min_eq_left (by omega)]; exact RowIn.ofRow (B := W0.heap.size) hrow
      have hs17 := hs17.re (L' := (b, .cells ⟨rcells vz2 (lsS D kf i) D.slot vA vW D.fuse⟩ 135 (0, 0)) :: ((entN ++ rows2) ++ (K ++ (wA ++ wW)))) (fun a => by simp only [ct_append, ct_cons, ct_nil]; omega)
      refine ⟨fun _ => (hs17.re (L' := entN ++ ((b, .cells ⟨rcells vz2 (lsS D kf i) D.slot vA vW D.fuse⟩ 135 (0, 0)) :: (rows2 ++ (K ++ (wA ++ wW))))) (fun a => by simp only [ct_append, ct_cons, ct_nil]; omega)).dropL hN, ?_⟩
      refine E0 (wanted_none rfl) rfl (y_indexArr rfl Tryd.underlying29 sz22 rfl rfl (by omega) (by omega)) ?_
      refine E2 (wanted_none rfl) (c_store (i := 0) (v := vN) hs17 rfl rfl rfl rfl sz22 hN1 rfl (by (show 0 + 0 + (i : Int).toNat * 1 < 21; omega)) (Fz.zero _) (fun w19 hs20 => ?_))
      have hs20 := hs20.at0 (rc_setz _ _ _ _ _ _ (by omega) (by omega) _)
      refine Enil ?_
      obtain ⟨vz3, rows3, hst3, hR3, hI3⟩ : ∃ vz3 rows3, St W0 ((b, .cells ⟨rcells vz3 (lsS D kf i) D.slot vA vW D.fuse⟩ 135 (0, 0)) :: (rows3 ++ (K ++ (wA ++ wW)))) w19 ∧ (∀ j, j < 8 → RowIn rows3 (vz3 j) (lsZ D kf (i + 1) j)) ∧ (∀ x ∈ rows3, W0.heap.size ≤ x.1) := by
        first
          | exact ⟨_, entN ++ rows2, hs20, lsR hR (fun x hx => List.mem_append_right _ hx) (hrN.mono (fun x hx => List.mem_append_left _ hx)), fun x hx => (List.mem_append.1 hx).elim (hN x) (hI x)⟩
          | exact ⟨vz2, rows2, hs20, lsR0 hR (by omega), hI⟩
      have hs20 := hst3
      obtain ⟨a3, cap3, hv3, ha3, hle3, _⟩ := (hR3 i (by omega)).shape
      refine W_drawSt [(0, 0), (0, 1), (0, 2), (0, 3), (0, 4), (0, 9), (0, 5), (0, 10), (0, 6), (1, 7), (0, 8), (0, 11), (2, 12)] hs20 mixed (by kernel_rfl) (fun w21 hs22 => ?_)
      refine E0 (wanted_none rfl) rfl (y_move (v := Value.pointer _) rfl rfl) ?_
      refine E0 (wanted_none rfl) rfl (y_move (v := Value.int _ _) rfl rfl) ?_
      refine E0 (wanted_none rfl) rfl (y_move (v := Value.pointer _) rfl rfl) ?_
      refine E0 (wanted_none rfl) rfl (y_move (v := Value.int _ _) rfl rfl) ?_
      refine E0 (wanted_none rfl) rfl (y_nilCheck rfl rfl) ?_
      refine E0 (wanted_none rfl) rfl (y_nilCheck rfl rfl) ?_
      refine E0 (wanted_none rfl) rfl (y_fieldAddr rfl Tryd.underlying135 rfl sz29 rfl) ?_
      refine E0 (wanted_none rfl) rfl (y_fieldAddr rfl Tryd.underlying135 rfl sz101 rfl) ?_
      refine E0 (wanted_none rfl) rfl (y_indexArr rfl Tryd.underlying29 sz22 rfl rfl (by omega) (by omega)) ?_
      refine E1 hs22 (wanted_none rfl) rfl (y_load 0 rfl Tryd.underlying22 rfl rfl rfl (rc_zv (by omega) (by omega) hv3)) ?_
      refine E0 (wanted_none rfl) rfl (y_slen rfl Tryd.underlying22 rfl) ?_
      refine E0 (wanted_none rfl) rfl (y_indexArr rfl Tryd.underlying101 sz3 rfl rfl (by omega) (by omega)) ?_
      refine E2 (wanted_none rfl) (c_store (i := 0) (v := iv _) hs22 rfl rfl rfl rfl sz3 rfl rfl (by (show 0 + 8 + (i : Int).toNat * 1 < 21; omega)) (Fz.zero _) (fun w23 hs24 => ?_))
      have hs24 := hs24.at0 (rc_sets _ _ _ _ _ _ (by omega) (by omega) _)
      refine Enil ?_
      refine W_region ?_
      refine L0 (wanted_none rfl) rfl (y_add64 rfl rfl rfl (by omega)) ?_
      refine L0 (wanted_none rfl) rfl (y_move (v := Value.int _ _) rfl rfl) ?_
      refine Lnil ?_
      exact ⟨(i + 1, vz3, rows3), by first | omega | (dsimp only; done) | (dsimp only; omega), _, A_c (iv_eq (by first | omega | (dsimp only; done) | (dsimp only; omega))) (A_c rfl (A_c rfl (A_c rfl (rfl)))), by first | omega | (dsimp only; done) | (dsimp only; omega), hR3, hI3, hs24.at0 (congrArg (fun f => (⟨rcells vz3 f D.slot vA vW D.fuse⟩ : Array Value)) (lsS_succ D kf i))⟩
    · have h10' := h10
      first | replace h10' := of_decide_eq_false h10' | replace h10' := bnF' h10' | skip
      refine W_condF rfl h10 ?_
      refine W_skip ?_
      obtain ⟨vz3, rows3, hst3, hR3, hI3⟩ : ∃ vz3 rows3, St W0 ((b, .cells ⟨rcells vz3 (lsS D kf i) D.slot vA vW D.fuse⟩ 135 (0, 0)) :: (rows3 ++ (K ++ (wA ++ wW)))) w7 ∧ (∀ j, j < 8 → RowIn rows3 (vz3 j) (lsZ D kf (i + 1) j)) ∧ (∀ x ∈ rows3, W0.heap.size ≤ x.1) := by
        first
          | exact ⟨_, entN ++ rows2, hs9, lsR hR (fun x hx => List.mem_append_right _ hx) (hrN.mono (fun x hx => List.mem_append_left _ hx)), fun x hx => (List.mem_append.1 hx).elim (hN x) (hI x)⟩
          | exact ⟨vz2, rows2, hs9, lsR0 hR (by omega), hI⟩
      have hs9 := hst3
      obtain ⟨a3, cap3, hv3, ha3, hle3, _⟩ := (hR3 i (by omega)).shape
      refine W_drawSt [(0, 0), (0, 1), (0, 2), (0, 3), (0, 4), (0, 9), (0, 5), (0, 10), (0, 6), (1, 7), (0, 8), (0, 11), (2, 12)] hs9 mixed (by kernel_rfl) (fun w25 hs26 => ?_)
      refine E0 (wanted_none rfl) rfl (y_move (v := Value.pointer _) rfl rfl) ?_
      refine E0 (wanted_none rfl) rfl (y_move (v := Value.int _ _) rfl rfl) ?_
      refine E0 (wanted_none rfl) rfl (y_move (v := Value.pointer _) rfl rfl) ?_
      refine E0 (wanted_none rfl) rfl (y_move (v := Value.int _ _) rfl rfl) ?_
      refine E0 (wanted_none rfl) rfl (y_nilCheck rfl rfl) ?_
      refine E0 (wanted_none rfl) rfl (y_nilCheck rfl rfl) ?_
      refine E0 (wanted_none rfl) rfl (y_fieldAddr rfl Tryd.underlying135 rfl sz29 rfl) ?_
      refine E0 (wanted_none rfl) rfl (y_fieldAddr rfl Tryd.underlying135 rfl sz101 rfl) ?_
      refine E0 (wanted_none rfl) rfl (y_indexArr rfl Tryd.underlying29 sz22 rfl rfl (by omega) (by omega)) ?_
      refine E1 hs26 (wanted_none rfl) rfl (y_load 0 rfl Tryd.underlying22 rfl rfl rfl (rc_zv (by omega) (by omega) hv3)) ?_
      refine E0 (wanted_none rfl) rfl (y_slen rfl Tryd.underlying22 rfl) ?_
      refine E0 (wanted_none rfl) rfl (y_indexArr rfl Tryd.underlying101 sz3 rfl rfl (by omega) (by omega)) ?_
      refine E2 (wanted_none rfl) (c_store (i := 0) (v := iv _) hs26 rfl rfl rfl rfl sz3 rfl rfl (by (show 0 + 8 + (i : Int).toNat * 1 < 21; omega)) (Fz.zero _) (fun w27 hs28 => ?_))
      have hs28 := hs28.at0 (rc_sets _ _ _ _ _ _ (by omega) (by omega) _)
      refine Enil ?_
      refine W_region ?_
      refine L0 (wanted_none rfl) rfl (y_add64 rfl rfl rfl (by omega)) ?_
      refine L0 (wanted_none rfl) rfl (y_move (v := Value.int _ _) rfl rfl) ?_
      refine Lnil ?_
      exact ⟨(i + 1, vz3, rows3), by first | omega | (dsimp only; done) | (dsimp only; omega), _, A_c (iv_eq (by first | omega | (dsimp only; done) | (dsimp only; omega))) (A_c rfl (A_c rfl (A_c rfl (rfl)))), by first | omega | (dsimp only; done) | (dsimp only; omega), hR3, hI3, hs28.at0 (congrArg (fun f => (⟨rcells vz3 f D.slot vA vW D.fuse⟩ : Array Value)) (lsS_succ D kf i))⟩
  · have h4' := h4
    first | replace h4' := of_decide_eq_false h4' | replace h4' := bnF' h4' | skip
    refine W_condF rfl h4 ?_
    refine W_exit ?_
    refine W_seq ?_
    refine W_seq ?_
    obtain rfl : i = 8 := by omega
    have hI2 := hI
    refine W_region ?_
    refine L0 (wanted_none rfl) rfl (y_move (v := Value.pointer _) rfl rfl) ?_
    refine L0 (wanted_none rfl) rfl (y_nilCheck rfl rfl) ?_
    refine L0 (wanted_none rfl) rfl (y_fieldAddr rfl Tryd.underlying135 rfl sz23 rfl) ?_
    refine L1 (wanted_none rfl) rfl hs3 ((y_load 0 rfl Tryd.underlying23 rfl rfl rfl (v := vA) rfl)) ?_
    refine L0 (wanted_none rfl) rfl (y_slenRow rfl Tryd.underlying23 rfl h.rA) ?_
    refine L0 (wanted_none rfl) rfl (y_move (v := Value.int _ _) rfl rfl) ?_
    refine Lnil ?_
    refine W_block ?_
    refine W_loop (G := Nat) (fun i aL wl => ∃ e, aL = A 92 ((65, iv i) :: (64, iv D.wait.length) :: (63, vA) :: (0, pv b 0) :: (2, .func (.func gs) #[] ⟨cs⟩) :: e) ∧ i ≤ D.wait.length ∧ St W0 ((b, .cells ⟨rcells vz2 (lsS D kf 8) (landF D.slot D.wait sf i) vA vW D.fuse⟩ 135 (0, 0)) :: (rows2 ++ (K ++ (wA ++ wW)))) wl) (fun i => D.wait.length - i) (0) ?_ ?_
    · exact ⟨_, A_pins _ _ [65, 64, 63, 0, 2], Nat.zero_le _, hs3⟩
    rintro i _ w29 ⟨ehs30, rfl, hi9, hs30⟩
    refine W_seq ?_
    refine W_region ?_
    refine L0 (wanted_none rfl) rfl (y_lt rfl rfl rfl) ?_
    refine Lnil ?_
    refine W_seq ?_
    refine Wsp (t := 66) rfl (fun h31 => ?_) (fun h31 => ?_)
    · have h31' := h31
      first | replace h31' := of_decide_eq_true h31' | replace h31' := bnT' h31' | skip
      refine W_condT rfl h31 ?_
      refine W_skip ?_
      refine W_seq ?_
      refine W_block ?_
      refine W_seq ?_
      refine W_region ?_
      refine L0 (wanted_none rfl) rfl (y_move (v := Value.int _ _) rfl rfl) ?_
      refine L0 (wanted_none rfl) rfl (y_indexRow rfl Tryd.underlying23 sz3 rfl rfl h.rA (by omega) (by omega)) ?_
      refine L1 (wanted_none rfl) rfl hs30 ((y_loadAny i rfl Tryd.underlying3 rfl rfl (fun w2 h2 => h.rA.slAt (f := fun j => iv ((D.wait.getD j (0, [])).1 : Int)) h2 (fun x hx => by simp [hx]) (fun j hj => atL_at hj)) rfl (by omega))) ?_
      refine L0 (wanted_none rfl) rfl (y_assign (v := Value.int _ _) rfl rfl) ?_
      refine L0 (wanted_none rfl) rfl (y_assign (v := Value.int _ _) rfl rfl) ?_
      refine Lnil ?_
      refine W_seq ?_
      refine W_region ?_
      refine L0 (wanted_none rfl) rfl (y_move (v := Value.func _ _ _) rfl rfl) ?_
      refine L0 (wanted_none rfl) rfl (y_move (v := Value.int _ _) rfl rfl) ?_
      refine Lc (wanted_none rfl) (c_call rfl rfl rfl hfs hns hbs (hcs i w29 _ (by omega) (hs30.re (L' := K ++ ((b, .cells ⟨rcells vz2 (lsS D kf 8) (landF D.slot D.wait sf i) vA vW D.fuse⟩ 135 (0, 0)) :: (rows2 ++ (wA ++ wW)))) (fun a => by simp only [ct_append, ct_cons, ct_nil]; omega)) (hfr _ _ hI2)) rfl ?_)
      rintro _ w32 ⟨rfl, hc33⟩
      have hs34 := hs30.call0 hc33
      refine Lnil ?_
      refine Wsp (t := 72) rfl (fun h35 => ?_) (fun h35 => ?_)
      · have h35' := h35
        refine W_condT rfl h35 ?_
        refine W_drawSt [(0, 0), (0, 1), (0, 2), (0, 6), (0, 3), (0, 9), (0, 4), (0, 10), (1, 5), (0, 7), (1, 8), (0, 11), (2, 12)] hs34 mixed (by kernel_rfl) (fun w36 hs37 => ?_)
        refine E0 (wanted_none rfl) rfl (y_move (v := Value.pointer _) rfl rfl) ?_
        refine E0 (wanted_none rfl) rfl (y_move (v := Value.int _ _) rfl rfl) ?_
        refine E0 (wanted_none rfl) rfl (y_move (v := Value.pointer _) rfl rfl) ?_
        refine E0 (wanted_none rfl) rfl (y_move (v := Value.int _ _) rfl rfl) ?_
        refine E0 (wanted_none rfl) rfl (y_nilCheck rfl rfl) ?_
        refine E0 (wanted_none rfl) rfl (y_nilCheck rfl rfl) ?_
        refine E0 (wanted_none rfl) rfl (y_fieldAddr rfl Tryd.underlying135 rfl sz22 rfl) ?_
        refine E0 (wanted_none rfl) rfl (y_fieldAddr rfl Tryd.underlying135 rfl sz57 rfl) ?_
        refine E1 hs37 (wanted_none rfl) rfl ((y_load 0 rfl Tryd.underlying22 rfl rfl rfl (v := vW) rfl)) ?_
        refine E0 (wanted_none rfl) rfl (y_indexRow rfl Tryd.underlying22 sz9 rfl rfl h.rW (by omega) (by omega)) ?_
        refine E1 hs37 (wanted_none rfl) rfl ((y_loadAny i rfl Tryd.underlying9 rfl rfl (fun w2 h2 => h.rW.slAt (f := fun j => str (D.wait.getD j (0, [])).2) h2 (fun x hx => by simp [hx]) (fun j hj => whatL_at hj)) rfl (by omega))) ?_
        refine E0 (wanted_none rfl) rfl (y_indexArr rfl Tryd.underlying57 sz9 rfl rfl (by omega) (by have := hi.wait i (by omega); omega)) ?_
        refine E2 (wanted_none rfl) (c_store (i := 0) (v := Value.string ⟨⟨_⟩⟩) hs37 rfl rfl rfl rfl sz9 rfl rfl (by (show 0 + 16 + ((D.wait.getD i (0, [])).1 : Int).toNat * 1 < 21; have := hi.wait i (by omega); omega)) (Fz.zero _) (fun w38 hs39 => ?_))
        have hs39 := hs39.at0 (rc_setl _ _ _ _ _ _ (by omega) (by have := hi.wait i (by omega); omega) _)
        refine Enil ?_
        refine W_region ?_
        refine L0 (wanted_none rfl) rfl (y_add64 rfl rfl rfl (by omega)) ?_
        refine L0 (wanted_none rfl) rfl (y_move (v := Value.int _ _) rfl rfl) ?_
        refine Lnil ?_
        exact ⟨i + 1, by first | omega | (dsimp only; done) | (dsimp only; omega), _, A_c (iv_eq (by first | omega | (dsimp only; done) | (dsimp only; omega))) (A_c rfl (A_c rfl (A_c rfl (A_c rfl (rfl))))), by omega, hs39.at0 (congrArg (fun f => (⟨rcells vz2 (lsS D kf 8) f vA vW D.fuse⟩ : Array Value)) (landF_yes (by assumption)))⟩
      · have h35' := h35
        refine W_condF rfl h35 ?_
        refine W_skip ?_
        refine W_region ?_
        refine L0 (wanted_none rfl) rfl (y_add64 rfl rfl rfl (by omega)) ?_
        refine L0 (wanted_none rfl) rfl (y_move (v := Value.int _ _) rfl rfl) ?_
        refine Lnil ?_
        exact ⟨i + 1, by first | omega | (dsimp only; done) | (dsimp only; omega), _, A_c (iv_eq (by first | omega | (dsimp only; done) | (dsimp only; omega))) (A_c rfl (A_c rfl (A_c rfl (A_c rfl (rfl))))), by omega, hs34.at0 (congrArg (fun f => (⟨rcells vz2 (lsS D kf 8) f vA vW D.fuse⟩ : Array Value)) (landF_no (by assumption)))⟩
    · have h31' := h31
      first | replace h31' := of_decide_eq_false h31' | replace h31' := bnF' h31' | skip
      refine W_condF rfl h31 ?_
      refine W_exit ?_
      obtain rfl : i = D.wait.length := by omega
      refine W_region ?_
      refine L0 (wanted_none rfl) rfl (y_move (v := Value.pointer _) rfl rfl) ?_
      refine L0 (wanted_none rfl) rfl (y_move (v := Value.pointer _) rfl rfl) ?_
      refine L0 (wanted_none rfl) rfl (y_nilCheck rfl rfl) ?_
      refine L0 (wanted_none rfl) rfl (y_fieldAddr rfl Tryd.underlying135 rfl sz23 rfl) ?_
      refine Lc (wanted_none rfl) (c_store (i := 0) (v := .slice none 0 0) hs30 rfl rfl rfl rfl sz23 rfl rfl (by (show 18 < 21; omega)) (Fz.zero _) (fun w40 hs41 => ?_))
      have hs41 := hs41.at0 (c' := ⟨rcells vz2 (lsS D kf 8) (landF D.slot D.wait sf D.wait.length) (.slice none 0 0) vW D.fuse⟩) rfl
      refine L0 (wanted_none rfl) rfl (y_nilCheck rfl rfl) ?_
      refine L0 (wanted_none rfl) rfl (y_fieldAddr rfl Tryd.underlying135 rfl sz22 rfl) ?_
      refine Lc (wanted_none rfl) (c_store (i := 0) (v := .slice none 0 0) hs41 rfl rfl rfl rfl sz22 rfl rfl (by (show 19 < 21; omega)) (Fz.zero _) (fun w42 hs43 => ?_))
      have hs43 := hs43.at0 (c' := ⟨rcells vz2 (lsS D kf 8) (landF D.slot D.wait sf D.wait.length) (.slice none 0 0) (.slice none 0 0) D.fuse⟩) rfl
      refine Lnil ?_
      refine fin0 (fn := Tryd.f90) rfl ?_
      refine ⟨vz2, rows2, rfl, (hs43.re (L' := wA ++ (wW ++ (K ++ ((b, .cells ⟨rcells vz2 (lsS D kf 8) (landF D.slot D.wait sf D.wait.length) (.slice none 0 0) (.slice none 0 0) D.fuse⟩ 135 (0, 0)) :: ([] ++ ([] ++ rows2)))))) (fun a => by simp only [ct_append, ct_cons, ct_nil]; omega)).dropL hfrA |>.dropL hfrW, hR, Row.nil _ _ _, Row.nil _ _ _, h.newb, hI⟩
end
end Go.Proofs.YtkolfgmpmnelmabDoor
