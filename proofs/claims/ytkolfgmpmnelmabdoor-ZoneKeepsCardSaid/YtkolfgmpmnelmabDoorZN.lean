/-
  Walks: our device's methods at every input: what each answers, and the device behind it, as plain functions of the device by value.
-/
import Derived.Test.YtkolfgmpmnelmabDoorZP
import Derived.Test.YtkolfgmpmnelmabDoorL1
namespace Go.Proofs.YtkolfgmpmnelmabDoor
open Go Vx Go.Proofs
set_option linter.unusedVariables false
set_option maxRecDepth 4000
set_option maxHeartbeats 400000

structure DInv (D : Dv) (k : Nat) : Prop where
  z : ∀ j, j < 8 → D.sure j ≤ (D.z j).length ∧ (D.z j).length ≤ 16
  wait : ∀ j, j < D.wait.length → (D.wait.getD j (0, [])).1 < 2
  len : D.wait.length ≤ k
  f0 : -1 ≤ D.fuse
  f1 : D.fuse ≤ 9223372036854775807
def appE (D : Dv) (i : Int) (s : List UInt8) : Int := if i < 0 ∨ 8 ≤ i then 2 else if 128 < s.length then 4 else if (D.z i.toNat).length = 16 then 12 else if D.fuse = 0 then 14 else 0
def appN (D : Dv) (i : Int) (s : List UInt8) : Nat := if appE D i s = 0 then (D.z i.toNat).length else 0
def appD (D : Dv) (i : Int) (s : List UInt8) : Dv := if appE D i s = 0 then { D with z := updF D.z i.toNat (D.z i.toNat ++ [fillN s 128]), fuse := burnF D.fuse } else D
def rstE (D : Dv) (i : Int) : Int := if i < 0 ∨ 8 ≤ i then 2 else if D.fuse = 0 then 14 else 0
def rstD (D : Dv) (i : Int) : Dv := if rstE D i = 0 then { D with z := updF D.z i.toNat [], sure := updF D.sure i.toNat 0, fuse := burnF D.fuse } else D
def putE (D : Dv) (i : Int) (s : List UInt8) : Int := if i < 0 ∨ 2 ≤ i then 2 else if 500 < s.length then 4 else if D.fuse = 0 then 14 else 0
def putD (D : Dv) (i : Int) (s : List UInt8) : Dv := if putE D i s = 0 then { D with wait := D.wait ++ [(i.toNat, fillN s 500)], fuse := burnF D.fuse } else D
def synE (D : Dv) : Int := if D.fuse = 0 then 14 else 0
def synD (D : Dv) : Dv := if synE D = 0 then { D with sure := sureF D.z D.sure 8, slot := landF D.slot D.wait (fun _ => true) D.wait.length, wait := [], fuse := burnF D.fuse } else D
def fusD (D : Dv) (n : Int) : Dv := { D with fuse := max n (-1) }
def craD (D : Dv) (keep : List Int) (land : List Bool) : Dv := { z := crZ D keep 8, sure := crS D keep 8, slot := landF D.slot D.wait (fun j => land.getD j false) D.wait.length, wait := [], fuse := -1 }
def layD (D : Dv) (zi : Nat → List (List UInt8)) (si : Nat → List UInt8) : Dv := { z := lyZ zi, sure := sureF (lyZ zi) D.sure 8, slot := lyL si D.slot 2, wait := [], fuse := D.fuse }
def atE (i : Int) : Int := if i < 0 ∨ 8 ≤ i then 2 else 0
def atN (D : Dv) (i : Int) : Nat := if i < 0 ∨ 8 ≤ i then 0 else (D.z i.toNat).length
def redE (D : Dv) (i c : Int) : Int := if i < 0 ∨ 8 ≤ i then 2 else if c < 0 ∨ (D.z i.toNat).length ≤ c then 7 else 0
def redS (D : Dv) (i c : Int) : List UInt8 := if redE D i c = 0 then (D.z i.toNat).getD c.toNat [] else []
def getE (i : Int) : Int := if i < 0 ∨ 2 ≤ i then 2 else 0
def getS (D : Dv) (i : Int) : List UInt8 := if i < 0 ∨ 2 ≤ i then [] else landF D.slot D.wait (fun _ => true) D.wait.length i.toNat
/-! The device's promise is kept. -/
theorem DInv.app {D : Dv} {k : Nat} (h : DInv D k) (i : Int) (s : List UInt8) : DInv (appD D i s) k := by
  rw [appD]
  split
  · rename_i he
    have h0 : ¬ (i < 0 ∨ 8 ≤ i) ∧ (D.z i.toNat).length ≠ 16 := by
      constructor
      · intro hh; rw [appE, if_pos hh] at he; omega
      · intro hh; rw [appE] at he; split at he
        · omega
        · split at he
          · omega
          · first | (rw [if_pos hh] at he; omega) | omega
    refine ⟨fun j hj => ?_, h.wait, h.len, ?_, ?_⟩
    · by_cases e : j = i.toNat
      · subst e
        have := h.z i.toNat (by omega)
        simp only [updF_at, List.length_append, List.length_cons, List.length_nil]; omega
      · simp only [updF_ne _ _ e]; exact h.z j hj
    · have := h.f0; simp only [burnF]; split <;> omega
    · have := h.f1; simp only [burnF]; split <;> omega
  · exact h
theorem DInv.rst {D : Dv} {k : Nat} (h : DInv D k) (i : Int) : DInv (rstD D i) k := by
  rw [rstD]
  split
  · refine ⟨fun j hj => ?_, h.wait, h.len, ?_, ?_⟩
    · by_cases e : j = i.toNat
      · subst e; simp only [updF_at]; simp
      · simp only [updF_ne _ _ e]; exact h.z j hj
    · have := h.f0; simp only [burnF]; split <;> omega
    · have := h.f1; simp only [burnF]; split <;> omega
  · exact h
theorem DInv.mono {D : Dv} {k k' : Nat} (h : DInv D k) (hk : k ≤ k') : DInv D k' := ⟨h.z, h.wait, Nat.le_trans h.len hk, h.f0, h.f1⟩
theorem DInv.put {D : Dv} {k : Nat} (h : DInv D k) (i : Int) (s : List UInt8) : DInv (putD D i s) (k + 1) := by
  rw [putD]
  split
  · rename_i he
    have h0 : ¬ (i < 0 ∨ 2 ≤ i) := by intro hh; rw [putE, if_pos hh] at he; omega
    refine ⟨h.z, fun j hj => ?_, ?_, ?_, ?_⟩
    · simp only [List.length_append, List.length_cons, List.length_nil] at hj
      by_cases e : j < D.wait.length
      · have h1 := h.wait j e
        rw [List.getD_eq_getElem?_getD] at h1 ⊢
        rw [List.getElem?_append_left e]; exact h1
      · obtain rfl : j = D.wait.length := by omega
        rw [List.getD_eq_getElem?_getD, List.getElem?_append_right (Nat.le_refl _)]
        simp; omega
    · have := h.len; simp; omega
    · have := h.f0; simp only [burnF]; split <;> omega
    · have := h.f1; simp only [burnF]; split <;> omega
  · exact h.mono (by omega)
theorem DInv.syn {D : Dv} {k : Nat} (h : DInv D k) : DInv (synD D) k := by
  rw [synD]
  split
  · refine ⟨fun j hj => ?_, fun j hj => absurd hj (Nat.not_lt_zero _), Nat.zero_le _, ?_, ?_⟩
    · have := h.z j hj; simp only [sureF, if_pos hj]; omega
    · have := h.f0; simp only [burnF]; split <;> omega
    · have := h.f1; simp only [burnF]; split <;> omega
  · exact h
theorem DInv.fus {D : Dv} {k : Nat} (h : DInv D k) {n : Int} (hn : n ≤ 9223372036854775807) : DInv (fusD D n) k := ⟨h.z, h.wait, h.len, by simp only [fusD]; omega, by simp only [fusD]; omega⟩
theorem DInv.cra {D : Dv} {k : Nat} (h : DInv D k) (keep : List Int) (land : List Bool) : DInv (craD D keep land) k := by
  refine ⟨fun j hj => ?_, fun j hj => absurd hj (Nat.not_lt_zero _), Nat.zero_le _, by simp [craD], by simp [craD]⟩
  have h1 := h.z j hj
  have h2 := crN_le (keep := keep) h1.1
  simp only [craD, crZ, crS, if_pos hj, List.length_take]; omega
theorem DInv.lay {D : Dv} {k : Nat} (h : DInv D k) (zi : Nat → List (List UInt8)) (si : Nat → List UInt8) : DInv (layD D zi si) k := by
  refine ⟨fun j hj => ?_, fun j hj => absurd hj (Nat.not_lt_zero _), Nat.zero_le _, h.f0, h.f1⟩
  simp only [layD, sureF, if_pos hj]
  exact ⟨Nat.le_refl _, by rw [lyZ_len]; omega⟩
theorem newD_inv : DInv newD 0 := ⟨fun j _ => by simp [newD], fun j hj => absurd hj (Nat.not_lt_zero _), Nat.le_refl _, by decide, by decide⟩

section
variable {W0 : World} {K : Blocks} {b : Nat} {D : Dv} {w : World} {vz : Nat → Value} {vw : Value} {went rows : Blocks} {k : Nat}
theorem bareE_of {n : Int} : BareE (errno n) n := .inr rfl
theorem bareE_nil : BareE .nilIface 0 := .inl ⟨rfl, rfl⟩
theorem app_all (h : DSt W0 K b D w vz vw went rows) (hi : DInv D k) (i : Int) (s : List UInt8) (hs : s.length ≤ 100000) :
    C Tryd.prog 15 ⟨[pv b 0, iv i, str s]⟩ w fun v w' => ∃ e vz' rows', v = .tuple #[iv (appN D i s), e] ∧ BareE e (appE D i s) ∧ DSt W0 K b (appD D i s) w' vz' vw went rows' := by
  by_cases h1 : i < 0 ∨ 8 ≤ i
  · have e : appE D i s = 2 := if_pos h1
    rw [appD, appN, e]
    exact (app_e2 b w i s h1).mono fun v w' hv => ⟨_, vz, rows, hv.1, bareE_of, h.call0 hv.2⟩
  have h0 : 0 ≤ i := by omega
  have h8 : i < 8 := by omega
  by_cases h2 : 128 < s.length
  · have e : appE D i s = 4 := by rw [appE, if_neg h1, if_pos h2]
    rw [appD, appN, e]
    exact (app_e4 b w i s h0 h8 h2).mono fun v w' hv => ⟨_, vz, rows, hv.1, bareE_of, h.call0 hv.2⟩
  by_cases h3 : (D.z i.toNat).length = 16
  · have e : appE D i s = 12 := by rw [appE, if_neg h1, if_neg h2, if_pos h3]
    rw [appD, appN, e]
    exact (app_e12 b vz D.sure D.slot vw D.fuse w h.has i s h0 h8 (by omega) _ (h.sl (by omega)) h3).mono fun v w' hv => ⟨_, vz, rows, hv.1, bareE_of, h.call0 hv.2⟩
  by_cases h4 : D.fuse = 0
  · have e : appE D i s = 14 := by rw [appE, if_neg h1, if_neg h2, if_neg h3, if_pos h4]
    rw [appD, appN, e]
    exact (app_e14 b vz D.sure D.slot vw w (h4 ▸ h.has) i s h0 h8 (by omega) _ (h.sl (by omega)) h3).mono fun v w' hv => ⟨_, vz, rows, hv.1, bareE_of, h.call0 hv.2⟩
  have e : appE D i s = 0 := by rw [appE, if_neg h1, if_neg h2, if_neg h3, if_neg h4]
  rw [appD, appN, e, if_pos rfl, if_pos rfl]
  have := (hi.z i.toNat (by omega)).2
  exact (app_g h h4 hi.f1 i s h0 h8 (by omega) (by omega)).mono fun v w' ⟨vz', rows', hv, hd⟩ => ⟨_, vz', rows', hv, bareE_nil, hd⟩
theorem reset_e2 (i : Int) (hi : i < 0 ∨ 8 ≤ i) : C Tryd.prog 34 ⟨[pv b 0, iv i]⟩ w fun v w' => v = errno 2 ∧ St w [] w' := by
  refine C_enter (n := 28) Tryd.func34 rfl rfl rfl (fun w1 hs1 => ?_)
  refine W_seq ?_
  refine W_region ?_
  refine L0 (wanted_none rfl) rfl (y_assign (v := Value.nilIface) rfl rfl) ?_
  refine Lnil ?_
  refine W_seq ?_
  refine W_block ?_
  refine W_seq ?_
  refine W_region ?_
  refine L0 (wanted_none rfl) rfl (y_move (v := Value.int _ _) rfl rfl) ?_
  refine L0 (wanted_none rfl) rfl (y_lt rfl rfl rfl) ?_
  refine L0 (wanted_none rfl) rfl (y_move (v := Value.bool _) rfl rfl) ?_
  refine Lsp (t := 8) rfl (fun h2 => ?_) (fun h2 => ?_)
  · have h2' := h2
    first | replace h2' := of_decide_eq_true h2' | replace h2' := bnT' h2' | skip
    refine Lno (wanted_noB rfl rfl rfl h2 (by decide)) rfl ?_
    refine Lno (wanted_noB rfl rfl rfl h2 (by decide)) rfl ?_
    refine L0 (wanted_none rfl) rfl (y_pickT rfl rfl h2 rfl) ?_
    refine L0 (wanted_none rfl) rfl (y_assign (v := Value.bool _) rfl rfl) ?_
    refine Lnil ?_
    refine W_condT rfl rfl ?_
    refine W_seq ?_
    refine W_region ?_
    refine L0 (wanted_none rfl) rfl (y_mkif rfl Tryd.underlying35 rfl rfl) ?_
    refine L0 (wanted_none rfl) rfl (y_assign (v := Value.iface _ _) rfl rfl) ?_
    refine Lnil ?_
    refine W_ret ?_
    refine fin1 (fn := Tryd.f34) rfl rfl ?_
    exact ⟨rfl, hs1⟩
  · have h2' := h2
    first | replace h2' := of_decide_eq_false h2' | replace h2' := bnF' h2' | skip
    refine L0 (wanted_yesB rfl rfl rfl h2) rfl (y_move (v := Value.int _ _) rfl rfl) ?_
    refine L0 (wanted_yesB rfl rfl rfl h2) rfl (y_ge rfl rfl rfl) ?_
    refine L0 (wanted_none rfl) rfl (y_pickF rfl rfl h2 rfl) ?_
    refine L0 (wanted_none rfl) rfl (y_assign (v := Value.bool _) rfl rfl) ?_
    refine Lnil ?_
    refine Wkn (t := 5) (b0 := true) rfl (by first | exact decide_eq_true (by omega) | exact bnT (by omega) | (simp; omega)) (fun h3 => ?_)
    refine W_condT rfl h3 ?_
    refine W_seq ?_
    refine W_region ?_
    refine L0 (wanted_none rfl) rfl (y_mkif rfl Tryd.underlying35 rfl rfl) ?_
    refine L0 (wanted_none rfl) rfl (y_assign (v := Value.iface _ _) rfl rfl) ?_
    refine Lnil ?_
    refine W_ret ?_
    refine fin1 (fn := Tryd.f34) rfl rfl ?_
    exact ⟨rfl, hs1⟩
theorem reset_all (h : DSt W0 K b D w vz vw went rows) (hi : DInv D k) (i : Int) :
    C Tryd.prog 34 ⟨[pv b 0, iv i]⟩ w fun v w' => ∃ vz', BareE v (rstE D i) ∧ DSt W0 K b (rstD D i) w' vz' vw went rows := by
  by_cases h1 : i < 0 ∨ 8 ≤ i
  · have e : rstE D i = 2 := if_pos h1
    rw [rstD, e]
    exact (reset_e2 i h1).mono fun v w' hv => ⟨vz, .inr hv.1, h.call0 hv.2⟩
  by_cases h4 : D.fuse = 0
  · have e : rstE D i = 14 := by rw [rstE, if_neg h1, if_pos h4]
    rw [rstD, e]
    exact (reset_e14 b vz D.sure D.slot vw w (h4 ▸ h.has) i (by omega) (by omega)).mono fun v w' hv => ⟨vz, .inr hv.1, h.call0 hv.2⟩
  have e : rstE D i = 0 := by rw [rstE, if_neg h1, if_neg h4]
  rw [rstD, e, if_pos rfl]
  exact (reset_g h h4 hi.f1 i (by omega) (by omega)).mono fun v w' ⟨vz', hv, hd⟩ => ⟨vz', .inl ⟨hv, rfl⟩, hd⟩
theorem put_e2 (i : Int) (s : List UInt8) (hi : i < 0 ∨ 2 ≤ i) : C Tryd.prog 36 ⟨[pv b 0, iv i, str s]⟩ w fun v w' => v = errno 2 ∧ St w [] w' := by
  refine C_enter (n := 38) Tryd.func36 rfl rfl rfl (fun w1 hs1 => ?_)
  refine W_seq ?_
  refine W_region ?_
  refine L0 (wanted_none rfl) rfl (y_assign (v := Value.nilIface) rfl rfl) ?_
  refine Lnil ?_
  refine W_seq ?_
  refine W_block ?_
  refine W_seq ?_
  refine W_region ?_
  refine L0 (wanted_none rfl) rfl (y_move (v := Value.int _ _) rfl rfl) ?_
  refine L0 (wanted_none rfl) rfl (y_lt rfl rfl rfl) ?_
  refine L0 (wanted_none rfl) rfl (y_move (v := Value.bool _) rfl rfl) ?_
  refine Lsp (t := 10) rfl (fun h2 => ?_) (fun h2 => ?_)
  · have h2' := h2
    first | replace h2' := of_decide_eq_true h2' | replace h2' := bnT' h2' | skip
    refine Lno (wanted_noB rfl rfl rfl h2 (by decide)) rfl ?_
    refine Lno (wanted_noB rfl rfl rfl h2 (by decide)) rfl ?_
    refine L0 (wanted_none rfl) rfl (y_pickT rfl rfl h2 rfl) ?_
    refine L0 (wanted_none rfl) rfl (y_assign (v := Value.bool _) rfl rfl) ?_
    refine Lnil ?_
    refine W_condT rfl rfl ?_
    refine W_seq ?_
    refine W_region ?_
    refine L0 (wanted_none rfl) rfl (y_mkif rfl Tryd.underlying35 rfl rfl) ?_
    refine L0 (wanted_none rfl) rfl (y_assign (v := Value.iface _ _) rfl rfl) ?_
    refine Lnil ?_
    refine W_ret ?_
    refine fin1 (fn := Tryd.f36) rfl rfl ?_
    exact ⟨rfl, hs1⟩
  · have h2' := h2
    first | replace h2' := of_decide_eq_false h2' | replace h2' := bnF' h2' | skip
    refine L0 (wanted_yesB rfl rfl rfl h2) rfl (y_move (v := Value.int _ _) rfl rfl) ?_
    refine L0 (wanted_yesB rfl rfl rfl h2) rfl (y_gt rfl rfl rfl) ?_
    refine L0 (wanted_none rfl) rfl (y_pickF rfl rfl h2 rfl) ?_
    refine L0 (wanted_none rfl) rfl (y_assign (v := Value.bool _) rfl rfl) ?_
    refine Lnil ?_
    refine Wkn (t := 7) (b0 := true) rfl (by first | exact decide_eq_true (by omega) | exact bnT (by omega) | (simp; omega)) (fun h3 => ?_)
    refine W_condT rfl h3 ?_
    refine W_seq ?_
    refine W_region ?_
    refine L0 (wanted_none rfl) rfl (y_mkif rfl Tryd.underlying35 rfl rfl) ?_
    refine L0 (wanted_none rfl) rfl (y_assign (v := Value.iface _ _) rfl rfl) ?_
    refine Lnil ?_
    refine W_ret ?_
    refine fin1 (fn := Tryd.f36) rfl rfl ?_
    exact ⟨rfl, hs1⟩
theorem put_e4 (i : Int) (s : List UInt8) (h0 : 0 ≤ i) (h1 : i < 2) (hs : 500 < s.length) : C Tryd.prog 36 ⟨[pv b 0, iv i, str s]⟩ w fun v w' => v = errno 4 ∧ St w [] w' := by
  refine C_enter (n := 38) Tryd.func36 rfl rfl rfl (fun w1 hs1 => ?_)
  refine W_seq ?_
  refine W_region ?_
  refine L0 (wanted_none rfl) rfl (y_assign (v := Value.nilIface) rfl rfl) ?_
  refine Lnil ?_
  refine W_seq ?_
  refine W_block ?_
  refine W_seq ?_
  refine W_region ?_
  refine L0 (wanted_none rfl) rfl (y_move (v := Value.int _ _) rfl rfl) ?_
  refine L0 (wanted_none rfl) rfl (y_lt rfl rfl rfl) ?_
  refine L0 (wanted_none rfl) rfl (y_move (v := Value.bool _) rfl rfl) ?_
  refine Lkn (t := 10) (b0 := false) rfl (by first | exact decide_eq_false (by omega) | exact bnF (by omega) | (simp; omega)) (fun h2 => ?_)
  refine L0 (wanted_yesB rfl rfl rfl h2) rfl (y_move (v := Value.int _ _) rfl rfl) ?_
  refine L0 (wanted_yesB rfl rfl rfl h2) rfl (y_gt rfl rfl rfl) ?_
  refine L0 (wanted_none rfl) rfl (y_pickF rfl rfl h2 rfl) ?_
  refine L0 (wanted_none rfl) rfl (y_assign (v := Value.bool _) rfl rfl) ?_
  refine Lnil ?_
  refine Wkn (t := 7) (b0 := false) rfl (by first | exact decide_eq_false (by omega) | exact bnF (by omega) | (simp; omega)) (fun h3 => ?_)
  refine W_condF rfl h3 ?_
  refine W_seq ?_
  refine W_region ?_
  refine L0 (wanted_none rfl) rfl (y_move (v := Value.string ⟨⟨_⟩⟩) rfl rfl) ?_
  refine L0 (wanted_none rfl) rfl (y_len rfl Tryd.underlying9 rfl) ?_
  refine L0 (wanted_none rfl) rfl (y_gt rfl rfl rfl) ?_
  refine L0 (wanted_none rfl) rfl (y_assign (v := Value.bool _) rfl rfl) ?_
  refine Lnil ?_
  refine Wkn (t := 15) (b0 := true) rfl (by first | exact decide_eq_true (by omega) | exact bnT (by omega) | (simp; omega)) (fun h4 => ?_)
  refine W_condT rfl h4 ?_
  refine W_seq ?_
  refine W_region ?_
  refine L0 (wanted_none rfl) rfl (y_mkif rfl Tryd.underlying35 rfl rfl) ?_
  refine L0 (wanted_none rfl) rfl (y_assign (v := Value.iface _ _) rfl rfl) ?_
  refine Lnil ?_
  refine W_ret ?_
  refine fin1 (fn := Tryd.f36) rfl rfl ?_
  exact ⟨rfl, hs1⟩
theorem put_e14 (hd : w.heap[b]? = some (.cells ⟨dcells vz D.sure D.slot vw 0⟩ 104 (0, 0))) (i : Int) (s : List UInt8) (h0 : 0 ≤ i) (h1 : i < 2) (hs : s.length ≤ 500) : C Tryd.prog 36 ⟨[pv b 0, iv i, str s]⟩ w fun v w' => v = errno 14 ∧ St w [] w' := by
  refine C_enter (n := 38) Tryd.func36 rfl rfl rfl (fun w1 hs1 => ?_)
  refine W_seq ?_
  refine W_region ?_
  refine L0 (wanted_none rfl) rfl (y_assign (v := Value.nilIface) rfl rfl) ?_
  refine Lnil ?_
  refine W_seq ?_
  refine W_block ?_
  refine W_seq ?_
  refine W_region ?_
  refine L0 (wanted_none rfl) rfl (y_move (v := Value.int _ _) rfl rfl) ?_
  refine L0 (wanted_none rfl) rfl (y_lt rfl rfl rfl) ?_
  refine L0 (wanted_none rfl) rfl (y_move (v := Value.bool _) rfl rfl) ?_
  refine Lkn (t := 10) (b0 := false) rfl (by first | exact decide_eq_false (by omega) | exact bnF (by omega) | (simp; omega)) (fun h2 => ?_)
  refine L0 (wanted_yesB rfl rfl rfl h2) rfl (y_move (v := Value.int _ _) rfl rfl) ?_
  refine L0 (wanted_yesB rfl rfl rfl h2) rfl (y_gt rfl rfl rfl) ?_
  refine L0 (wanted_none rfl) rfl (y_pickF rfl rfl h2 rfl) ?_
  refine L0 (wanted_none rfl) rfl (y_assign (v := Value.bool _) rfl rfl) ?_
  refine Lnil ?_
  refine Wkn (t := 7) (b0 := false) rfl (by first | exact decide_eq_false (by omega) | exact bnF (by omega) | (simp; omega)) (fun h3 => ?_)
  refine W_condF rfl h3 ?_
  refine W_seq ?_
  refine W_region ?_
  refine L0 (wanted_none rfl) rfl (y_move (v := Value.string ⟨⟨_⟩⟩) rfl rfl) ?_
  refine L0 (wanted_none rfl) rfl (y_len rfl Tryd.underlying9 rfl) ?_
  refine L0 (wanted_none rfl) rfl (y_gt rfl rfl rfl) ?_
  refine L0 (wanted_none rfl) rfl (y_assign (v := Value.bool _) rfl rfl) ?_
  refine Lnil ?_
  refine Wkn (t := 15) (b0 := false) rfl (by first | exact decide_eq_false (by omega) | exact bnF (by omega) | (simp; omega)) (fun h4 => ?_)
  refine W_condF rfl h4 ?_
  refine W_seq ?_
  refine W_region ?_
  refine L0 (wanted_none rfl) rfl (y_move (v := Value.pointer _) rfl rfl) ?_
  refine Lc (wanted_none rfl) (c_call rfl rfl rfl Tryd.func67 (by kernel_rfl) rfl (burn_zero b _ _ _ _ w1 ((hs1.fr b (lt_of_has hd) (by simp [keys])).trans hd)) rfl ?_)
  rintro _ w5 ⟨rfl, hc6⟩
  have hs7 := hs1.call0 hc6
  refine L0 (wanted_none rfl) rfl (y_not rfl rfl) ?_
  refine L0 (wanted_none rfl) rfl (y_assign (v := Value.bool _) rfl rfl) ?_
  refine Lnil ?_
  refine Wkn (t := 20) (b0 := true) rfl (by rfl) (fun h8 => ?_)
  refine W_condT rfl h8 ?_
  refine W_seq ?_
  refine W_region ?_
  refine L0 (wanted_none rfl) rfl (y_mkif rfl Tryd.underlying35 rfl rfl) ?_
  refine L0 (wanted_none rfl) rfl (y_assign (v := Value.iface _ _) rfl rfl) ?_
  refine Lnil ?_
  refine W_ret ?_
  refine fin1 (fn := Tryd.f36) rfl rfl ?_
  exact ⟨rfl, hs7⟩
theorem put_all (h : DSt W0 K b D w vz vw went rows) (hi : DInv D k) (hk : k ≤ 1000) (i : Int) (s : List UInt8) (hs : s.length ≤ 100000) :
    C Tryd.prog 36 ⟨[pv b 0, iv i, str s]⟩ w fun v w' => ∃ vw' went', BareE v (putE D i s) ∧ DSt W0 K b (putD D i s) w' vz vw' went' rows := by
  by_cases h1 : i < 0 ∨ 2 ≤ i
  · have e : putE D i s = 2 := if_pos h1
    rw [putD, e]
    exact (put_e2 i s h1).mono fun v w' hv => ⟨vw, went, .inr hv.1, h.call0 hv.2⟩
  by_cases h2 : 500 < s.length
  · have e : putE D i s = 4 := by rw [putE, if_neg h1, if_pos h2]
    rw [putD, e]
    exact (put_e4 i s (by omega) (by omega) h2).mono fun v w' hv => ⟨vw, went, .inr hv.1, h.call0 hv.2⟩
  by_cases h4 : D.fuse = 0
  · have e : putE D i s = 14 := by rw [putE, if_neg h1, if_neg h2, if_pos h4]
    rw [putD, e]
    exact (put_e14 (h4 ▸ h.has) i s (by omega) (by omega) (by omega)).mono fun v w' hv => ⟨vw, went, .inr hv.1, h.call0 hv.2⟩
  have e : putE D i s = 0 := by rw [putE, if_neg h1, if_neg h2, if_neg h4]
  rw [putD, e, if_pos rfl]
  obtain ⟨q, rfl⟩ : ∃ q : Nat, i = (q : Int) := ⟨i.toNat, by omega⟩
  have := hi.len
  exact (put_g h h4 hi.f1 q s (by omega) (by omega) (by omega)).mono fun v w' ⟨vw', went', hv, hd⟩ => ⟨vw', went', .inl ⟨hv, rfl⟩, hd⟩
theorem sync_all (h : DSt W0 K b D w vz vw went rows) (hi : DInv D k) (hk : k ≤ 1000) :
    C Tryd.prog 38 ⟨[pv b 0]⟩ w fun v w' => ∃ vw' went', BareE v (synE D) ∧ DSt W0 K b (synD D) w' vz vw' went' rows := by
  by_cases h4 : D.fuse = 0
  · have e : synE D = 14 := if_pos h4
    rw [synD, e]
    exact (sync_e14 b vz D.sure D.slot vw w (h4 ▸ h.has)).mono fun v w' hv => ⟨vw, went, .inr hv.1, h.call0 hv.2⟩
  have e : synE D = 0 := if_neg h4
  rw [synD, e, if_pos rfl]
  have := hi.len
  exact (sync_g h h4 hi.f1 hi.wait (by omega)).mono fun v w' ⟨hv, hd⟩ => ⟨_, _, .inl ⟨hv, rfl⟩, hd⟩
theorem at_e2 (i : Int) (hi : i < 0 ∨ 8 ≤ i) : C Tryd.prog 18 ⟨[pv b 0, iv i]⟩ w fun v w' => v = .tuple #[iv 0, errno 2] ∧ St w [] w' := by
  refine C_enter (n := 20) Tryd.func18 rfl rfl rfl (fun w1 hs1 => ?_)
  refine W_seq ?_
  refine W_region ?_
  refine L0 (wanted_none rfl) rfl (y_assign (v := Value.int _ _) rfl rfl) ?_
  refine L0 (wanted_none rfl) rfl (y_assign (v := Value.nilIface) rfl rfl) ?_
  refine Lnil ?_
  refine W_seq ?_
  refine W_seq ?_
  refine W_region ?_
  refine L0 (wanted_none rfl) rfl (y_move (v := Value.int _ _) rfl rfl) ?_
  refine L0 (wanted_none rfl) rfl (y_lt rfl rfl rfl) ?_
  refine L0 (wanted_none rfl) rfl (y_move (v := Value.bool _) rfl rfl) ?_
  refine Lsp (t := 8) rfl (fun h2 => ?_) (fun h2 => ?_)
  · have h2' := h2
    first | replace h2' := of_decide_eq_true h2' | replace h2' := bnT' h2' | skip
    refine Lno (wanted_noB rfl rfl rfl h2 (by decide)) rfl ?_
    refine Lno (wanted_noB rfl rfl rfl h2 (by decide)) rfl ?_
    refine L0 (wanted_none rfl) rfl (y_pickT rfl rfl h2 rfl) ?_
    refine Lnil ?_
    refine W_condT rfl rfl ?_
    refine W_seq ?_
    refine W_region ?_
    refine L0 (wanted_none rfl) rfl (y_mkif rfl Tryd.underlying35 rfl rfl) ?_
    refine L0 (wanted_none rfl) rfl (y_assign (v := Value.int _ _) rfl rfl) ?_
    refine L0 (wanted_none rfl) rfl (y_assign (v := Value.iface _ _) rfl rfl) ?_
    refine Lnil ?_
    refine W_ret ?_
    refine fin2 (fn := Tryd.f18) rfl rfl rfl ?_
    exact ⟨rfl, hs1⟩
  · have h2' := h2
    first | replace h2' := of_decide_eq_false h2' | replace h2' := bnF' h2' | skip
    refine L0 (wanted_yesB rfl rfl rfl h2) rfl (y_move (v := Value.int _ _) rfl rfl) ?_
    refine L0 (wanted_yesB rfl rfl rfl h2) rfl (y_ge rfl rfl rfl) ?_
    refine L0 (wanted_none rfl) rfl (y_pickF rfl rfl h2 rfl) ?_
    refine Lnil ?_
    refine Wkn (t := 11) (b0 := true) rfl (by first | exact decide_eq_true (by omega) | exact bnT (by omega) | (simp; omega)) (fun h3 => ?_)
    refine W_condT rfl h3 ?_
    refine W_seq ?_
    refine W_region ?_
    refine L0 (wanted_none rfl) rfl (y_mkif rfl Tryd.underlying35 rfl rfl) ?_
    refine L0 (wanted_none rfl) rfl (y_assign (v := Value.int _ _) rfl rfl) ?_
    refine L0 (wanted_none rfl) rfl (y_assign (v := Value.iface _ _) rfl rfl) ?_
    refine Lnil ?_
    refine W_ret ?_
    refine fin2 (fn := Tryd.f18) rfl rfl rfl ?_
    exact ⟨rfl, hs1⟩
theorem at_all (h : DSt W0 K b D w vz vw went rows) (i : Int) :
    C Tryd.prog 18 ⟨[pv b 0, iv i]⟩ w fun v w' => (∃ e, v = .tuple #[iv (atN D i), e] ∧ BareE e (atE i)) ∧ St w [] w' := by
  by_cases h1 : i < 0 ∨ 8 ≤ i
  · rw [atN, atE, if_pos h1, if_pos h1]
    exact (at_e2 i h1).mono fun v w' hv => ⟨⟨_, hv.1, bareE_of⟩, hv.2⟩
  · rw [atN, atE, if_neg h1, if_neg h1]
    exact (at_any b vz D.sure D.slot vw D.fuse w h.has i (by omega) (by omega) _ (h.sl (by omega))).mono fun v w' hv => ⟨⟨_, hv.1, bareE_nil⟩, hv.2⟩
theorem read_e2 (i c : Int) (hi : i < 0 ∨ 8 ≤ i) : C Tryd.prog 19 ⟨[pv b 0, iv i, iv c]⟩ w fun v w' => v = .tuple #[str [], errno 2] ∧ St w [] w' := by
  refine C_enter (n := 40) Tryd.func19 rfl rfl rfl (fun w1 hs1 => ?_)
  refine W_seq ?_
  refine W_region ?_
  refine L0 (wanted_none rfl) rfl (y_assign (v := Value.string ⟨⟨_⟩⟩) rfl rfl) ?_
  refine L0 (wanted_none rfl) rfl (y_assign (v := Value.nilIface) rfl rfl) ?_
  refine Lnil ?_
  refine W_seq ?_
  refine W_block ?_
  refine W_seq ?_
  refine W_region ?_
  refine L0 (wanted_none rfl) rfl (y_move (v := Value.int _ _) rfl rfl) ?_
  refine L0 (wanted_none rfl) rfl (y_lt rfl rfl rfl) ?_
  refine L0 (wanted_none rfl) rfl (y_move (v := Value.bool _) rfl rfl) ?_
  refine Lsp (t := 11) rfl (fun h2 => ?_) (fun h2 => ?_)
  · have h2' := h2
    first | replace h2' := of_decide_eq_true h2' | replace h2' := bnT' h2' | skip
    refine Lno (wanted_noB rfl rfl rfl h2 (by decide)) rfl ?_
    refine Lno (wanted_noB rfl rfl rfl h2 (by decide)) rfl ?_
    refine L0 (wanted_none rfl) rfl (y_pickT rfl rfl h2 rfl) ?_
    refine L0 (wanted_none rfl) rfl (y_assign (v := Value.bool _) rfl rfl) ?_
    refine Lnil ?_
    refine W_condT rfl rfl ?_
    refine W_seq ?_
    refine W_region ?_
    refine L0 (wanted_none rfl) rfl (y_mkif rfl Tryd.underlying35 rfl rfl) ?_
    refine L0 (wanted_none rfl) rfl (y_assign (v := Value.string ⟨⟨_⟩⟩) rfl rfl) ?_
    refine L0 (wanted_none rfl) rfl (y_assign (v := Value.iface _ _) rfl rfl) ?_
    refine Lnil ?_
    refine W_ret ?_
    refine fin2 (fn := Tryd.f19) rfl rfl rfl ?_
    exact ⟨rfl, hs1⟩
  · have h2' := h2
    first | replace h2' := of_decide_eq_false h2' | replace h2' := bnF' h2' | skip
    refine L0 (wanted_yesB rfl rfl rfl h2) rfl (y_move (v := Value.int _ _) rfl rfl) ?_
    refine L0 (wanted_yesB rfl rfl rfl h2) rfl (y_ge rfl rfl rfl) ?_
    refine L0 (wanted_none rfl) rfl (y_pickF rfl rfl h2 rfl) ?_
    refine L0 (wanted_none rfl) rfl (y_assign (v := Value.bool _) rfl rfl) ?_
    refine Lnil ?_
    refine Wkn (t := 8) (b0 := true) rfl (by first | exact decide_eq_true (by omega) | exact bnT (by omega) | (simp; omega)) (fun h3 => ?_)
    refine W_condT rfl h3 ?_
    refine W_seq ?_
    refine W_region ?_
    refine L0 (wanted_none rfl) rfl (y_mkif rfl Tryd.underlying35 rfl rfl) ?_
    refine L0 (wanted_none rfl) rfl (y_assign (v := Value.string ⟨⟨_⟩⟩) rfl rfl) ?_
    refine L0 (wanted_none rfl) rfl (y_assign (v := Value.iface _ _) rfl rfl) ?_
    refine Lnil ?_
    refine W_ret ?_
    refine fin2 (fn := Tryd.f19) rfl rfl rfl ?_
    exact ⟨rfl, hs1⟩
theorem read_all (h : DSt W0 K b D w vz vw went rows) (i c : Int) :
    C Tryd.prog 19 ⟨[pv b 0, iv i, iv c]⟩ w fun v w' => (∃ e, v = .tuple #[str (redS D i c), e] ∧ BareE e (redE D i c)) ∧ St w [] w' := by
  by_cases h1 : i < 0 ∨ 8 ≤ i
  · have e : redE D i c = 2 := if_pos h1
    rw [redS, e]
    exact (read_e2 i c h1).mono fun v w' hv => ⟨⟨_, hv.1, bareE_of⟩, hv.2⟩
  by_cases h2 : c < 0 ∨ (D.z i.toNat).length ≤ c
  · have e : redE D i c = 7 := by rw [redE, if_neg h1, if_pos h2]
    rw [redS, e]
    exact (read_off b vz D.sure D.slot vw D.fuse w h.has i c (by omega) (by omega) _ (h.sl (by omega)) h2).mono fun v w' hv => ⟨⟨_, hv.1, bareE_of⟩, hv.2⟩
  have e : redE D i c = 0 := by rw [redE, if_neg h1, if_neg h2]
  rw [redS, e, if_pos rfl]
  exact (read_any b vz D.sure D.slot vw D.fuse w h.has i c (by omega) (by omega) _ (h.sl (by omega)) (by omega) (by omega)).mono fun v w' hv => ⟨⟨_, hv.1, bareE_nil⟩, hv.2⟩
theorem get_all (h : DSt W0 K b D w vz vw went rows) (hi : DInv D k) (hk : k ≤ 1000) (i : Int) :
    C Tryd.prog 52 ⟨[pv b 0, iv i]⟩ w fun v w' => (∃ e, v = .tuple #[str (getS D i), e] ∧ BareE e (getE i)) ∧ St w [] w' := by
  by_cases h1 : i < 0 ∨ 2 ≤ i
  · rw [getS, getE, if_pos h1, if_pos h1]
    exact (get_e2 b w i h1).mono fun v w' hv => ⟨⟨_, hv.1, bareE_of⟩, hv.2⟩
  · rw [getS, getE, if_neg h1, if_neg h1]
    have := hi.len
    exact (get_g h i (by omega) (by omega) (by omega)).mono fun v w' hv => ⟨⟨_, hv.1, bareE_nil⟩, hv.2⟩
end
end Go.Proofs.YtkolfgmpmnelmabDoor
