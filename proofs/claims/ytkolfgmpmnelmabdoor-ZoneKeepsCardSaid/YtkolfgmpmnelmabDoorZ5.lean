/-
  Walks: (*zone.Device).Sync, Crash.
-/
import Derived.Test.YtkolfgmpmnelmabDoorZ4
namespace Go.Proofs.YtkolfgmpmnelmabDoor
open Go Vx Go.Proofs
set_option linter.unusedVariables false
set_option maxRecDepth 4000
set_option maxHeartbeats 400000

theorem getD_none {l : List Bool} {i : Nat} (h : l.length ≤ i) : l.getD i false = false := by rw [List.getD_eq_getElem?_getD, List.getElem?_eq_none h]; rfl
theorem landF_yes {slot : Nat → List UInt8} {l : List (Nat × List UInt8)} {g : Nat → Bool} {k : Nat} (h : g k = true) : updF (landF slot l g k) (l.getD k (0, [])).1 (l.getD k (0, [])).2 = landF slot l g (k + 1) := by rw [landF, if_pos h]
theorem landF_no {slot : Nat → List UInt8} {l : List (Nat × List UInt8)} {g : Nat → Bool} {k : Nat} (h : g k = false) : landF slot l g k = landF slot l g (k + 1) := by rw [landF, if_neg (by rw [h]; decide)]
theorem sync_ok {W0 : World} {K : Blocks} {b : Nat} {D : Dv} {w : World} {vz : Nat → Value} {vw : Value} {went rows : Blocks} (h : DSt W0 K b D w vz vw went rows) (hf : D.fuse < 0) (hok : ∀ j, j < D.wait.length → (D.wait.getD j (0, [])).1 < 2) (hwl : D.wait.length ≤ 1000) :
    C Tryd.prog 38 ⟨[pv b 0]⟩ w fun v w' => v = .nilIface ∧ DSt W0 K b { D with sure := sureF D.z D.sure 8, slot := landF D.slot D.wait (fun _ => true) D.wait.length, wait := [] } w' vz (.slice none 0 0) [] rows := by
  refine C_enter (n := 47) Tryd.func38 rfl rfl rfl (fun w1 hs1 => ?_)
  have hs0 := (h.st.call0 hs1).perm List.perm_middle
  refine W_seq ?_
  refine W_region ?_
  refine L0 (wanted_none rfl) rfl (y_assign (v := Value.nilIface) rfl rfl) ?_
  refine Lnil ?_
  refine W_seq ?_
  refine W_seq ?_
  refine W_region ?_
  refine L0 (wanted_none rfl) rfl (y_move (v := Value.pointer _) rfl rfl) ?_
  refine Lc (wanted_none rfl) (c_call rfl rfl rfl Tryd.func67 (by kernel_rfl) rfl (burn_neg b _ _ _ _ _ hf w1 (hs0.get 0 rfl)) rfl ?_)
  rintro _ w2 ⟨rfl, hc3⟩
  have hs4 := hs0.call0 hc3
  refine L0 (wanted_none rfl) rfl (y_not rfl rfl) ?_
  refine Lnil ?_
  refine Wkn (t := 8) (b0 := false) rfl (by rfl) (fun h5 => ?_)
  refine W_condF rfl h5 ?_
  refine W_skip ?_
  refine W_seq ?_
  refine W_seq ?_
  refine W_region ?_
  refine L0 (wanted_none rfl) rfl (y_move (v := Value.int _ _) rfl rfl) ?_
  refine Lnil ?_
  refine W_block ?_
  refine W_loop (G := Nat) (fun i aL wl => ∃ e, aL = A 47 ((10, iv i) :: (0, pv b 0) :: e) ∧ i ≤ 8 ∧ St W0 ((b, .cells ⟨dcells vz (sureF D.z D.sure i) D.slot vw D.fuse⟩ 104 (0, 0)) :: (K ++ (went ++ rows))) wl) (fun i => 8 - i) (0) ?_ ?_
  · exact ⟨_, A_pins _ _ [10, 0], Nat.zero_le _, by rw [sureF_zero]; exact hs4⟩
  rintro i _ w6 ⟨ehs7, rfl, hi, hs7⟩
  refine W_seq ?_
  refine W_region ?_
  refine L0 (wanted_none rfl) rfl (y_lt rfl rfl rfl) ?_
  refine Lnil ?_
  refine W_seq ?_
  refine Wsp (t := 11) rfl (fun h8 => ?_) (fun h8 => ?_)
  · have h8' := h8
    first | replace h8' := of_decide_eq_true h8' | replace h8' := bnT' h8' | skip
    refine W_condT rfl h8 ?_
    refine W_skip ?_
    refine W_seq ?_
    refine W_block ?_
    refine W_seq ?_
    refine W_region ?_
    refine L0 (wanted_none rfl) rfl (y_move (v := Value.int _ _) rfl rfl) ?_
    refine L0 (wanted_none rfl) rfl (y_assign (v := Value.int _ _) rfl rfl) ?_
    refine Lnil ?_
    refine W_drawSt [(0, 0), (0, 1), (0, 2), (0, 3), (0, 4), (0, 9), (0, 5), (0, 10), (0, 6), (1, 7), (0, 8), (0, 11), (2, 12)] hs7 mixed (by kernel_rfl) (fun w9 hs10 => ?_)
    refine E0 (wanted_none rfl) rfl (y_move (v := Value.pointer _) rfl rfl) ?_
    refine E0 (wanted_none rfl) rfl (y_move (v := Value.int _ _) rfl rfl) ?_
    refine E0 (wanted_none rfl) rfl (y_move (v := Value.pointer _) rfl rfl) ?_
    refine E0 (wanted_none rfl) rfl (y_move (v := Value.int _ _) rfl rfl) ?_
    refine E0 (wanted_none rfl) rfl (y_nilCheck rfl rfl) ?_
    refine E0 (wanted_none rfl) rfl (y_nilCheck rfl rfl) ?_
    refine E0 (wanted_none rfl) rfl (y_fieldAddr rfl Tryd.underlying104 rfl sz29 rfl) ?_
    refine E0 (wanted_none rfl) rfl (y_fieldAddr rfl Tryd.underlying104 rfl sz101 rfl) ?_
    refine E0 (wanted_none rfl) rfl (y_indexArr rfl Tryd.underlying29 sz22 rfl rfl (by omega) (by omega)) ?_
    refine E1 hs10 (wanted_none rfl) rfl (y_load 0 rfl Tryd.underlying22 rfl rfl rfl (dc_z _ _ _ _ _ (by omega) (by omega))) ?_
    refine E0 (wanted_none rfl) rfl (y_slenSl rfl Tryd.underlying22 rfl (h.sl (by omega))) ?_
    refine E0 (wanted_none rfl) rfl (y_indexArr rfl Tryd.underlying101 sz3 rfl rfl (by omega) (by omega)) ?_
    refine E2 (wanted_none rfl) (c_store (i := 0) (v := iv _) hs10 rfl rfl rfl rfl sz3 rfl rfl (by (show _ < 20; simp; omega)) (Fz.zero _) (fun w11 hs12 => ?_))
    have hs12 := hs12.at0 (dc_sets _ _ _ _ _ (by omega) (by omega) _)
    refine Enil ?_
    refine W_region ?_
    refine L0 (wanted_none rfl) rfl (y_add64 rfl rfl rfl (by omega)) ?_
    refine L0 (wanted_none rfl) rfl (y_move (v := Value.int _ _) rfl rfl) ?_
    refine Lnil ?_
    exact ⟨i + 1, by first | omega | (dsimp only; done) | (dsimp only; omega), _, A_c (iv_eq (by first | omega | (dsimp only; done) | (dsimp only; omega))) (A_c rfl (rfl)), by omega, hs12.at0 (congrArg (fun f => (⟨dcells vz f D.slot vw D.fuse⟩ : Array Value)) (sureF_succ D.z D.sure i))⟩
  · have h8' := h8
    first | replace h8' := of_decide_eq_false h8' | replace h8' := bnF' h8' | skip
    refine W_condF rfl h8 ?_
    refine W_exit ?_
    refine W_seq ?_
    refine W_seq ?_
    obtain rfl : i = 8 := by omega
    refine W_region ?_
    refine L0 (wanted_none rfl) rfl (y_move (v := Value.pointer _) rfl rfl) ?_
    refine L0 (wanted_none rfl) rfl (y_nilCheck rfl rfl) ?_
    refine L0 (wanted_none rfl) rfl (y_fieldAddr rfl Tryd.underlying104 rfl sz102 rfl) ?_
    refine L1 (wanted_none rfl) rfl hs7 (y_load 0 rfl Tryd.underlying102 rfl rfl rfl rfl) ?_
    refine L0 (wanted_none rfl) rfl (y_slenRow rfl Tryd.underlying102 rfl h.rw) ?_
    refine L0 (wanted_none rfl) rfl (y_move (v := Value.int _ _) rfl rfl) ?_
    refine Lnil ?_
    refine W_block ?_
    refine W_loop (G := Nat) (fun i aL wl => ∃ e, aL = A 47 ((31, iv i) :: (30, iv D.wait.length) :: (29, vw) :: (0, pv b 0) :: e) ∧ i ≤ D.wait.length ∧ St W0 ((b, .cells ⟨dcells vz (sureF D.z D.sure 8) (landF D.slot D.wait (fun _ => true) i) vw D.fuse⟩ 104 (0, 0)) :: (K ++ (went ++ rows))) wl) (fun i => D.wait.length - i) (0) ?_ ?_
    · exact ⟨_, A_pins _ _ [31, 30, 29, 0], Nat.zero_le _, hs7⟩
    rintro i _ w13 ⟨ehs14, rfl, hi, hs14⟩
    refine W_seq ?_
    refine W_region ?_
    refine L0 (wanted_none rfl) rfl (y_lt rfl rfl rfl) ?_
    refine Lnil ?_
    refine W_seq ?_
    refine Wsp (t := 32) rfl (fun h15 => ?_) (fun h15 => ?_)
    · have h15' := h15
      first | replace h15' := of_decide_eq_true h15' | replace h15' := bnT' h15' | skip
      refine W_condT rfl h15 ?_
      refine W_skip ?_
      refine W_seq ?_
      refine W_block ?_
      refine W_seq ?_
      refine W_region ?_
      refine L0 (wanted_none rfl) rfl (y_indexRow rfl Tryd.underlying102 sz137 rfl rfl h.rw (by omega) (by omega)) ?_
      refine L1 (wanted_none rfl) rfl hs14 ((y_loadRowN i rfl Tryd.underlying137 rfl sz137 rfl h.rw (fun x hx => by simp [hx]) rfl (by omega) (flatW_at _ _ (by omega)))) ?_
      refine Lc (wanted_none rfl) (c_alloc hs14 rfl rfl zr137 (fun b16 w17 hbb16 hs18 => ?_))
      refine Lc (wanted_none rfl) (c_storeN (i := 0) hs18 rfl rfl rfl rfl sz137 (by rfl) (by simp [Value.oneCell']) rfl (by decide) (Fz.zero _) (fun w19 hs20 => ?_))
      refine Lnil ?_
      refine W_drawSt [(0, 0), (0, 1), (0, 3), (1, 2), (1, 4), (0, 5), (0, 6), (0, 7), (2, 8)] hs20 mixed (by kernel_rfl) (fun w21 hs22 => ?_)
      refine E0 (wanted_none rfl) rfl (y_move (v := Value.pointer _) rfl rfl) ?_
      refine E0 (wanted_none rfl) rfl (y_fieldAddr rfl Tryd.underlying137 rfl sz3 rfl) ?_
      refine E0 (wanted_none rfl) rfl (y_fieldAddr rfl Tryd.underlying137 rfl sz9 rfl) ?_
      refine E1 hs22 (wanted_none rfl) rfl (y_load 0 rfl Tryd.underlying3 rfl rfl rfl rfl) ?_
      refine E1 hs22 (wanted_none rfl) rfl (y_load 0 rfl Tryd.underlying9 rfl rfl rfl rfl) ?_
      refine E0 (wanted_none rfl) rfl (y_nilCheck rfl rfl) ?_
      refine E0 (wanted_none rfl) rfl (y_fieldAddr rfl Tryd.underlying104 rfl sz57 rfl) ?_
      refine E0 (wanted_none rfl) rfl (y_indexArr rfl Tryd.underlying57 sz9 rfl rfl (by omega) (by have := hok i (by omega); omega)) ?_
      refine E2 (wanted_none rfl) (c_store (i := 1) (v := Value.string ⟨⟨_⟩⟩) hs22 rfl rfl rfl rfl sz9 rfl rfl (by (show 0 + 16 + ((D.wait.getD i (0, [])).1 : Int).toNat * 1 < 20; have := hok i (by omega); omega)) (Fz.zero _) (fun w23 hs24 => ?_))
      have hs24 := hs24.at1 (dc_setl _ _ _ _ _ (by omega) (by have := hok i (by omega); omega) _)
      refine Enil ?_
      refine W_region ?_
      refine L0 (wanted_none rfl) rfl (y_add64 rfl rfl rfl (by omega)) ?_
      refine L0 (wanted_none rfl) rfl (y_move (v := Value.int _ _) rfl rfl) ?_
      refine Lnil ?_
      exact ⟨i + 1, by first | omega | (dsimp only; done) | (dsimp only; omega), _, A_c (iv_eq (by first | omega | (dsimp only; done) | (dsimp only; omega))) (A_c rfl (A_c rfl (A_c rfl (rfl)))), by omega, (hs24.drop (.inl hbb16)).at0 (congrArg (fun f => (⟨dcells vz (sureF D.z D.sure 8) f vw D.fuse⟩ : Array Value)) (landF_yes rfl))⟩
    · have h15' := h15
      first | replace h15' := of_decide_eq_false h15' | replace h15' := bnF' h15' | skip
      refine W_condF rfl h15 ?_
      refine W_exit ?_
      refine W_seq ?_
      obtain rfl : i = D.wait.length := by omega
      refine W_region ?_
      refine L0 (wanted_none rfl) rfl (y_move (v := Value.pointer _) rfl rfl) ?_
      refine L0 (wanted_none rfl) rfl (y_nilCheck rfl rfl) ?_
      refine L0 (wanted_none rfl) rfl (y_fieldAddr rfl Tryd.underlying104 rfl sz102 rfl) ?_
      refine Lc (wanted_none rfl) (c_store (i := 0) (v := .slice none 0 0) hs14 rfl rfl rfl rfl sz102 rfl rfl (by (show 18 < 20; omega)) (Fz.zero _) (fun w25 hs26 => ?_))
      have hs26 := hs26.at0 (c' := ⟨dcells vz (sureF D.z D.sure 8) (landF D.slot D.wait (fun _ => true) D.wait.length) (.slice none 0 0) D.fuse⟩) rfl
      refine Lnil ?_
      refine W_seq ?_
      refine W_region ?_
      refine L0 (wanted_none rfl) rfl (y_assign (v := Value.nilIface) rfl rfl) ?_
      refine Lnil ?_
      refine W_ret ?_
      refine fin1 (fn := Tryd.f38) rfl rfl ?_
      refine ⟨rfl, (hs26.re (L' := went ++ (K ++ ((b, .cells ⟨dcells vz (sureF D.z D.sure 8) (landF D.slot D.wait (fun _ => true) D.wait.length) (.slice none 0 0) D.fuse⟩ 104 (0, 0)) :: ([] ++ rows)))) (fun a => by simp only [ct_append, ct_cons, ct_nil]; omega)).dropL h.rw.new, h.rz, Row.nil _ _ _, h.newb, h.newr⟩
/-! Crash -/
def crN (D : Dv) (keep : List Int) (j : Nat) : Nat := D.sure j + min (max (keep.getD j 0) 0).toNat ((D.z j).length - D.sure j)
theorem crN_le {D : Dv} {keep : List Int} {j : Nat} (h : D.sure j ≤ (D.z j).length) : crN D keep j ≤ (D.z j).length := by unfold crN; omega
def crZ (D : Dv) (keep : List Int) (k j : Nat) : List (List UInt8) := if j < k then (D.z j).take (crN D keep j) else D.z j
def crS (D : Dv) (keep : List Int) (k j : Nat) : Nat := if j < k then crN D keep j else D.sure j
theorem crS_zero (D : Dv) (keep : List Int) : crS D keep 0 = D.sure := by funext j; simp [crS]
theorem crS_at (D : Dv) (keep : List Int) (k : Nat) : crS D keep k k = D.sure k := if_neg (Nat.lt_irrefl _)
theorem crS_succ (D : Dv) (keep : List Int) (k : Nat) : updF (crS D keep k) k (crN D keep k) = crS D keep (k + 1) := by
  funext j
  by_cases h : j = k
  · subst h; rw [updF_at, crS, if_pos (by omega)]
  · rw [updF_ne _ _ h, crS, crS]
    by_cases h2 : j < k
    · rw [if_pos h2, if_pos (by omega)]
    · rw [if_neg h2, if_neg (by omega)]
theorem crR {rows : Blocks} {vz : Nat → Value} {D : Dv} {keep : List Int} {k : Nat} {v : Value} (h : ∀ j, j < 8 → RowIn rows (vz j) (crZ D keep k j)) (hv : RowIn rows v ((D.z k).take (crN D keep k))) : ∀ j, j < 8 → RowIn rows (updF vz k v j) (crZ D keep (k + 1) j) := fun j hj => by
  by_cases e : j = k
  · subst e; rw [updF_at, crZ, if_pos (by omega)]; exact hv
  · rw [updF_ne _ _ e]
    have := h j hj
    rw [crZ] at this ⊢
    by_cases h2 : j < k
    · rw [if_pos h2] at this; rw [if_pos (by omega)]; exact this
    · rw [if_neg h2] at this; rw [if_neg (by omega)]; exact this
theorem dc_sv {vz : Nat → Value} {sure : Nat → Nat} {slot : Nat → List UInt8} {vw : Value} {fuse : Int} {i : Int} (h0 : 0 ≤ i) (h1 : i < 8) {k : Nat} (hv : sure i.toNat = k) : (⟨dcells vz sure slot vw fuse⟩ : Array Value)[0 + 8 + i.toNat * 1]? = some (iv (k : Int)) := hv ▸ dc_s vz sure slot vw fuse h0 h1
section
variable {P : Program} {n : Nat} {e : Env} {o : Oper} {x y : Operand} {ty : TypeId} {w0 : World} {L : Blocks} {d : TypeDesc} {v : Value} {m : Nat} {f : Nat → Value}
theorem y_loadAny {i : Int} (j : Nat) (ho : o.op = .load ty x) (ht : P.underlying ty = some d) (hd : isAggB d = false) (hx : opv n e x = pv (adB v) (adO v + i.toNat * 1)) (h : ∀ w, St w0 L w → Sl w v m f) (hj : i.toNat = j) (hjm : j < m) : Y1 P n e o (St w0 L) (f j) := fun w hs =>
  y_loadSl (w0 := w) (L := []) j ho ht hd hx (h w hs) hj hjm (fun _ hk => by cases hk) w (St.init w)
end
theorem crash_ok {W0 : World} {K : Blocks} {b : Nat} {D : Dv} {w : World} {vz : Nat → Value} {vw : Value} {went rows : Blocks} (h : DSt W0 K b D w vz vw went rows) (keep : List Int) (land : List Bool) (vk vl : Value) (hkl : keep.length ≤ 1000) (hll : land.length ≤ 1000)
    (hk : ∀ w' L', St W0 (K ++ L') w' → (∀ x ∈ L', W0.heap.size ≤ x.1) → Sl w' vk keep.length (fun j => iv (keep.getD j 0))) (hl : ∀ w' L', St W0 (K ++ L') w' → (∀ x ∈ L', W0.heap.size ≤ x.1) → Sl w' vl land.length (fun j => .bool (land.getD j false)))
    (hok : ∀ j, j < D.wait.length → (D.wait.getD j (0, [])).1 < 2) (hwl : D.wait.length ≤ 1000) (hz16 : ∀ j, j < 8 → D.sure j ≤ (D.z j).length ∧ (D.z j).length ≤ 16) :
    C Tryd.prog 42 ⟨[pv b 0, vk, vl]⟩ w fun v w' => ∃ vz', v = .tuple #[] ∧ DSt W0 K b { z := crZ D keep 8, sure := crS D keep 8, slot := landF D.slot D.wait (fun j => land.getD j false) D.wait.length, wait := [], fuse := -1 } w' vz' (.slice none 0 0) [] rows := by
  have hfr : ∀ (c : Array Value), ∀ x ∈ ((b, Obj.cells c 104 (0, 0)) :: (went ++ rows)), W0.heap.size ≤ x.1 := fun c x hx => by
    rcases List.mem_cons.1 hx with rfl | hx
    · exact h.newb
    · rcases List.mem_append.1 hx with hx | hx
      · exact h.rw.new x hx
      · exact h.newr x hx
  have hkw := hk _ _ h.st (hfr _)
  have hlw := hl _ _ h.st (hfr _)
  refine C_enter (n := 105) Tryd.func42 rfl rfl rfl (fun w1 hs1 => ?_)
  have hs0 := (h.st.call0 hs1).perm List.perm_middle
  refine W_seq ?_
  refine W_seq ?_
  refine W_region ?_
  refine L0 (wanted_none rfl) rfl (y_move (v := Value.int _ _) rfl rfl) ?_
  refine Lnil ?_
  refine W_block ?_
  refine W_loop (G := Nat × (Nat → Value)) (fun g aL wl => ∃ e, aL = A 105 ((10, iv g.1) :: (0, pv b 0) :: (1, vk) :: (2, vl) :: e) ∧ g.1 ≤ 8 ∧ (∀ j, j < 8 → RowIn rows (g.2 j) (crZ D keep g.1 j)) ∧ St W0 ((b, .cells ⟨dcells g.2 (crS D keep g.1) D.slot vw D.fuse⟩ 104 (0, 0)) :: (K ++ (went ++ rows))) wl) (fun g => 8 - g.1) ((0, vz)) ?_ ?_
  · exact ⟨_, A_pins _ _ [10, 0, 1, 2], Nat.zero_le _, h.rz, by (dsimp only); rw [crS_zero]; exact hs0⟩
  rintro g _ w2 ⟨ehs3, rfl, hi, hR, hs3⟩
  obtain ⟨i, vz2⟩ := g
  dsimp only at *
  refine W_seq ?_
  refine W_region ?_
  refine L0 (wanted_none rfl) rfl (y_lt rfl rfl rfl) ?_
  refine Lnil ?_
  refine W_seq ?_
  refine Wsp (t := 11) rfl (fun h4 => ?_) (fun h4 => ?_)
  · have h4' := h4
    first | replace h4' := of_decide_eq_true h4' | replace h4' := bnT' h4' | skip
    refine W_condT rfl h4 ?_
    refine W_skip ?_
    refine W_seq ?_
    refine W_block ?_
    refine W_seq ?_
    obtain ⟨hsu, h16⟩ := hz16 i (by omega)
    have hRi : RowIn rows (vz2 i) (D.z i) := by have h5 := hR i (by omega); rwa [crZ, if_neg (Nat.lt_irrefl _)] at h5
    obtain ⟨a, cap, hv, ha, hle, _⟩ := hRi.shape
    have hkd : keep.length ≤ i → keep.getD i 0 = 0 := fun h5 => by rw [List.getD_eq_getElem?_getD, List.getElem?_eq_none h5]; rfl
    rw [hv] at hRi
    refine W_region ?_
    refine L0 (wanted_none rfl) rfl (y_move (v := Value.int _ _) rfl rfl) ?_
    refine L0 (wanted_none rfl) rfl (y_assign (v := Value.int _ _) rfl rfl) ?_
    refine Lnil ?_
    refine W_seq ?_
    refine W_region ?_
    refine L0 (wanted_none rfl) rfl (y_assign (v := Value.int _ _) rfl rfl) ?_
    refine Lnil ?_
    refine W_seq ?_
    refine W_seq ?_
    refine W_region ?_
    refine L0 (wanted_none rfl) rfl (y_move (v := Value.int _ _) rfl rfl) ?_
    refine L0 (wanted_none rfl) rfl (y_move (v := vk) rfl rfl) ?_
    refine L0 (wanted_none rfl) rfl (y_slenSl rfl Tryd.underlying23 rfl hkw) ?_
    refine L0 (wanted_none rfl) rfl (y_lt rfl rfl rfl) ?_
    refine Lnil ?_
    refine Wsp (t := 16) rfl (fun h5 => ?_) (fun h5 => ?_)
    · have h5' := h5
      first | replace h5' := of_decide_eq_true h5' | replace h5' := bnT' h5' | skip
      refine W_condT rfl h5 ?_
      refine W_region ?_
      refine L0 (wanted_none rfl) rfl (y_move (v := vk) rfl rfl) ?_
      refine L0 (wanted_none rfl) rfl (y_move (v := Value.int _ _) rfl rfl) ?_
      refine L0 (wanted_none rfl) rfl (y_indexSlAt rfl Tryd.underlying23 sz3 rfl rfl hkw (by omega) (by omega)) ?_
      refine L1 (wanted_none rfl) rfl hs3 ((y_loadAny i rfl Tryd.underlying3 rfl rfl (fun w2 h2 => hk w2 _ (h2.perm List.perm_middle.symm) (hfr _)) rfl (by omega))) ?_
      refine L0 (wanted_none rfl) rfl (y_max rfl rfl rfl) ?_
      refine L0 (wanted_none rfl) rfl (y_assign (v := Value.int _ _) rfl rfl) ?_
      refine Lnil ?_
      refine W_seq ?_
      refine W_drawSt [(0, 0), (0, 1), (0, 2), (0, 3), (0, 8), (0, 9), (0, 14), (0, 15), (0, 16), (0, 22), (0, 23), (0, 4), (0, 10), (0, 17), (0, 24), (0, 32), (0, 5), (0, 11), (0, 18), (0, 25), (0, 33), (0, 6), (0, 12), (0, 19), (0, 26), (1, 7), (1, 13), (1, 20), (1, 27), (0, 21), (0, 28), (0, 29), (0, 30), (0, 31), (0, 34), (2, 35)] hs3 mixed (by kernel_rfl) (fun w6 hs7 => ?_)
      refine E0 (wanted_none rfl) rfl (y_move (v := Value.pointer _) rfl rfl) ?_
      refine E0 (wanted_none rfl) rfl (y_move (v := Value.int _ _) rfl rfl) ?_
      refine E0 (wanted_none rfl) rfl (y_move (v := Value.pointer _) rfl rfl) ?_
      refine E0 (wanted_none rfl) rfl (y_move (v := Value.int _ _) rfl rfl) ?_
      refine E0 (wanted_none rfl) rfl (y_move (v := Value.pointer _) rfl rfl) ?_
      refine E0 (wanted_none rfl) rfl (y_move (v := Value.int _ _) rfl rfl) ?_
      refine E0 (wanted_none rfl) rfl (y_move (v := Value.int _ _) rfl rfl) ?_
      refine E0 (wanted_none rfl) rfl (y_move (v := Value.pointer _) rfl rfl) ?_
      refine E0 (wanted_none rfl) rfl (y_move (v := Value.int _ _) rfl rfl) ?_
      refine E0 (wanted_none rfl) rfl (y_move (v := Value.pointer _) rfl rfl) ?_
      refine E0 (wanted_none rfl) rfl (y_move (v := Value.int _ _) rfl rfl) ?_
      refine E0 (wanted_none rfl) rfl (y_nilCheck rfl rfl) ?_
      refine E0 (wanted_none rfl) rfl (y_nilCheck rfl rfl) ?_
      refine E0 (wanted_none rfl) rfl (y_nilCheck rfl rfl) ?_
      refine E0 (wanted_none rfl) rfl (y_nilCheck rfl rfl) ?_
      refine E0 (wanted_none rfl) rfl (y_nilCheck rfl rfl) ?_
      refine E0 (wanted_none rfl) rfl (y_fieldAddr rfl Tryd.underlying104 rfl sz29 rfl) ?_
      refine E0 (wanted_none rfl) rfl (y_fieldAddr rfl Tryd.underlying104 rfl sz101 rfl) ?_
      refine E0 (wanted_none rfl) rfl (y_fieldAddr rfl Tryd.underlying104 rfl sz29 rfl) ?_
      refine E0 (wanted_none rfl) rfl (y_fieldAddr rfl Tryd.underlying104 rfl sz101 rfl) ?_
      refine E0 (wanted_none rfl) rfl (y_fieldAddr rfl Tryd.underlying104 rfl sz29 rfl) ?_
      refine E0 (wanted_none rfl) rfl (y_indexArr rfl Tryd.underlying29 sz22 rfl rfl (by omega) (by omega)) ?_
      refine E0 (wanted_none rfl) rfl (y_indexArr rfl Tryd.underlying101 sz3 rfl rfl (by omega) (by omega)) ?_
      refine E0 (wanted_none rfl) rfl (y_indexArr rfl Tryd.underlying29 sz22 rfl rfl (by omega) (by omega)) ?_
      refine E0 (wanted_none rfl) rfl (y_indexArr rfl Tryd.underlying101 sz3 rfl rfl (by omega) (by omega)) ?_
      refine E1 hs7 (wanted_none rfl) rfl (y_load 0 rfl Tryd.underlying22 rfl rfl rfl (dc_zv (by omega) (by omega) hv)) ?_
      refine E1 hs7 (wanted_none rfl) rfl (y_load 0 rfl Tryd.underlying3 rfl rfl rfl (dc_sv (by omega) (by omega) (crS_at _ _ _))) ?_
      refine E1 hs7 (wanted_none rfl) rfl (y_load 0 rfl Tryd.underlying22 rfl rfl rfl (dc_zv (by omega) (by omega) hv)) ?_
      refine E1 hs7 (wanted_none rfl) rfl (y_load 0 rfl Tryd.underlying3 rfl rfl rfl (dc_sv (by omega) (by omega) (crS_at _ _ _))) ?_
      refine E0 (wanted_none rfl) rfl (y_slen rfl Tryd.underlying22 rfl) ?_
      refine E0 (wanted_none rfl) rfl (y_sub64 rfl rfl rfl (by omega)) ?_
      refine E0 (wanted_none rfl) rfl (y_min rfl rfl rfl) ?_
      refine E0 (wanted_none rfl) rfl (y_add64 rfl rfl rfl (by omega)) ?_
      refine E0 (wanted_none rfl) rfl (y_slHi rfl Tryd.underlying22 sz9 rfl ha rfl (by omega)) ?_
      refine E0 (wanted_none rfl) rfl (y_indexArr rfl Tryd.underlying29 sz22 rfl rfl (by omega) (by omega)) ?_
      refine E2 (wanted_none rfl) (c_store (i := 0) (v := .slice a _ cap) hs7 rfl rfl rfl rfl sz22 rfl rfl (by (show 0 + 0 + (i : Int).toNat * 1 < 20; omega)) (Fz.zero _) (fun w8 hs9 => ?_))
      have hs9 := (hs9.at0 (dc_setz _ _ _ _ _ (by omega) (by omega) _)).at0 (congrArg (fun n => (⟨dcells (updF vz2 i (.slice a n cap)) (crS D keep i) D.slot vw D.fuse⟩ : Array Value)) (by first | (unfold crN; omega) | (have h5 := hkd (by omega); unfold crN; rw [h5]; omega) : _ = crN D keep i))
      refine Enil ?_
      refine W_drawSt [(0, 0), (0, 1), (0, 2), (0, 3), (0, 4), (0, 9), (0, 5), (0, 10), (0, 6), (1, 7), (0, 8), (0, 11), (2, 12)] hs9 mixed (by kernel_rfl) (fun w10 hs11 => ?_)
      refine E0 (wanted_none rfl) rfl (y_move (v := Value.pointer _) rfl rfl) ?_
      refine E0 (wanted_none rfl) rfl (y_move (v := Value.int _ _) rfl rfl) ?_
      refine E0 (wanted_none rfl) rfl (y_move (v := Value.pointer _) rfl rfl) ?_
      refine E0 (wanted_none rfl) rfl (y_move (v := Value.int _ _) rfl rfl) ?_
      refine E0 (wanted_none rfl) rfl (y_nilCheck rfl rfl) ?_
      refine E0 (wanted_none rfl) rfl (y_nilCheck rfl rfl) ?_
      refine E0 (wanted_none rfl) rfl (y_fieldAddr rfl Tryd.underlying104 rfl sz29 rfl) ?_
      refine E0 (wanted_none rfl) rfl (y_fieldAddr rfl Tryd.underlying104 rfl sz101 rfl) ?_
      refine E0 (wanted_none rfl) rfl (y_indexArr rfl Tryd.underlying29 sz22 rfl rfl (by omega) (by omega)) ?_
      refine E1 hs11 (wanted_none rfl) rfl (y_load 0 rfl Tryd.underlying22 rfl rfl rfl (dc_zv (by omega) (by omega) (updF_at _ _ _))) ?_
      refine E0 (wanted_none rfl) rfl (y_slen rfl Tryd.underlying22 rfl) ?_
      refine E0 (wanted_none rfl) rfl (y_indexArr rfl Tryd.underlying101 sz3 rfl rfl (by omega) (by omega)) ?_
      refine E2 (wanted_none rfl) (c_store (i := 0) (v := iv _) hs11 rfl rfl rfl rfl sz3 rfl rfl (by (show 0 + 8 + (i : Int).toNat * 1 < 20; omega)) (Fz.zero _) (fun w12 hs13 => ?_))
      have hs13 := hs13.at0 (dc_sets _ _ _ _ _ (by omega) (by omega) _)
      refine Enil ?_
      refine W_region ?_
      refine L0 (wanted_none rfl) rfl (y_add64 rfl rfl rfl (by omega)) ?_
      refine L0 (wanted_none rfl) rfl (y_move (v := Value.int _ _) rfl rfl) ?_
      refine Lnil ?_
      exact ⟨(i + 1, updF vz2 i (.slice a (crN D keep i) cap)), by first | omega | (dsimp only; done) | (dsimp only; omega), _, A_c (iv_eq (by first | omega | (dsimp only; done) | (dsimp only; omega))) (A_c rfl (A_c rfl (A_c rfl (rfl)))), by first | omega | (dsimp only; done) | (dsimp only; omega), crR hR (hRi.take (crN_le hsu)), hs13.at0 (congrArg (fun f => (⟨dcells (updF vz2 i (.slice a (crN D keep i) cap)) f D.slot vw D.fuse⟩ : Array Value)) (crS_succ D keep i))⟩
    · have h5' := h5
      first | replace h5' := of_decide_eq_false h5' | replace h5' := bnF' h5' | skip
      refine W_condF rfl h5 ?_
      refine W_skip ?_
      refine W_seq ?_
      refine W_drawSt [(0, 0), (0, 1), (0, 2), (0, 3), (0, 8), (0, 9), (0, 14), (0, 15), (0, 16), (0, 22), (0, 23), (0, 4), (0, 10), (0, 17), (0, 24), (0, 32), (0, 5), (0, 11), (0, 18), (0, 25), (0, 33), (0, 6), (0, 12), (0, 19), (0, 26), (1, 7), (1, 13), (1, 20), (1, 27), (0, 21), (0, 28), (0, 29), (0, 30), (0, 31), (0, 34), (2, 35)] hs3 mixed (by kernel_rfl) (fun w14 hs15 => ?_)
      refine E0 (wanted_none rfl) rfl (y_move (v := Value.pointer _) rfl rfl) ?_
      refine E0 (wanted_none rfl) rfl (y_move (v := Value.int _ _) rfl rfl) ?_
      refine E0 (wanted_none rfl) rfl (y_move (v := Value.pointer _) rfl rfl) ?_
      refine E0 (wanted_none rfl) rfl (y_move (v := Value.int _ _) rfl rfl) ?_
      refine E0 (wanted_none rfl) rfl (y_move (v := Value.pointer _) rfl rfl) ?_
      refine E0 (wanted_none rfl) rfl (y_move (v := Value.int _ _) rfl rfl) ?_
      refine E0 (wanted_none rfl) rfl (y_move (v := Value.int _ _) rfl rfl) ?_
      refine E0 (wanted_none rfl) rfl (y_move (v := Value.pointer _) rfl rfl) ?_
      refine E0 (wanted_none rfl) rfl (y_move (v := Value.int _ _) rfl rfl) ?_
      refine E0 (wanted_none rfl) rfl (y_move (v := Value.pointer _) rfl rfl) ?_
      refine E0 (wanted_none rfl) rfl (y_move (v := Value.int _ _) rfl rfl) ?_
      refine E0 (wanted_none rfl) rfl (y_nilCheck rfl rfl) ?_
      refine E0 (wanted_none rfl) rfl (y_nilCheck rfl rfl) ?_
      refine E0 (wanted_none rfl) rfl (y_nilCheck rfl rfl) ?_
      refine E0 (wanted_none rfl) rfl (y_nilCheck rfl rfl) ?_
      refine E0 (wanted_none rfl) rfl (y_nilCheck rfl rfl) ?_
      refine E0 (wanted_none rfl) rfl (y_fieldAddr rfl Tryd.underlying104 rfl sz29 rfl) ?_
      refine E0 (wanted_none rfl) rfl (y_fieldAddr rfl Tryd.underlying104 rfl sz101 rfl) ?_
      refine E0 (wanted_none rfl) rfl (y_fieldAddr rfl Tryd.underlying104 rfl sz29 rfl) ?_
      refine E0 (wanted_none rfl) rfl (y_fieldAddr rfl Tryd.underlying104 rfl sz101 rfl) ?_
      refine E0 (wanted_none rfl) rfl (y_fieldAddr rfl Tryd.underlying104 rfl sz29 rfl) ?_
      refine E0 (wanted_none rfl) rfl (y_indexArr rfl Tryd.underlying29 sz22 rfl rfl (by omega) (by omega)) ?_
      refine E0 (wanted_none rfl) rfl (y_indexArr rfl Tryd.underlying101 sz3 rfl rfl (by omega) (by omega)) ?_
      refine E0 (wanted_none rfl) rfl (y_indexArr rfl Tryd.underlying29 sz22 rfl rfl (by omega) (by omega)) ?_
      refine E0 (wanted_none rfl) rfl (y_indexArr rfl Tryd.underlying101 sz3 rfl rfl (by omega) (by omega)) ?_
      refine E1 hs15 (wanted_none rfl) rfl (y_load 0 rfl Tryd.underlying22 rfl rfl rfl (dc_zv (by omega) (by omega) hv)) ?_
      refine E1 hs15 (wanted_none rfl) rfl (y_load 0 rfl Tryd.underlying3 rfl rfl rfl (dc_sv (by omega) (by omega) (crS_at _ _ _))) ?_
      refine E1 hs15 (wanted_none rfl) rfl (y_load 0 rfl Tryd.underlying22 rfl rfl rfl (dc_zv (by omega) (by omega) hv)) ?_
      refine E1 hs15 (wanted_none rfl) rfl (y_load 0 rfl Tryd.underlying3 rfl rfl rfl (dc_sv (by omega) (by omega) (crS_at _ _ _))) ?_
      refine E0 (wanted_none rfl) rfl (y_slen rfl Tryd.underlying22 rfl) ?_
      refine E0 (wanted_none rfl) rfl (y_sub64 rfl rfl rfl (by omega)) ?_
      refine E0 (wanted_none rfl) rfl (y_min rfl rfl rfl) ?_
      refine E0 (wanted_none rfl) rfl (y_add64 rfl rfl rfl (by omega)) ?_
      refine E0 (wanted_none rfl) rfl (y_slHi rfl Tryd.underlying22 sz9 rfl ha rfl (by omega)) ?_
      refine E0 (wanted_none rfl) rfl (y_indexArr rfl Tryd.underlying29 sz22 rfl rfl (by omega) (by omega)) ?_
      refine E2 (wanted_none rfl) (c_store (i := 0) (v := .slice a _ cap) hs15 rfl rfl rfl rfl sz22 rfl rfl (by (show 0 + 0 + (i : Int).toNat * 1 < 20; omega)) (Fz.zero _) (fun w16 hs17 => ?_))
      have hs17 := (hs17.at0 (dc_setz _ _ _ _ _ (by omega) (by omega) _)).at0 (congrArg (fun n => (⟨dcells (updF vz2 i (.slice a n cap)) (crS D keep i) D.slot vw D.fuse⟩ : Array Value)) (by first | (unfold crN; omega) | (have h5 := hkd (by omega); unfold crN; rw [h5]; omega) : _ = crN D keep i))
      refine Enil ?_
      refine W_drawSt [(0, 0), (0, 1), (0, 2), (0, 3), (0, 4), (0, 9), (0, 5), (0, 10), (0, 6), (1, 7), (0, 8), (0, 11), (2, 12)] hs17 mixed (by kernel_rfl) (fun w18 hs19 => ?_)
      refine E0 (wanted_none rfl) rfl (y_move (v := Value.pointer _) rfl rfl) ?_
      refine E0 (wanted_none rfl) rfl (y_move (v := Value.int _ _) rfl rfl) ?_
      refine E0 (wanted_none rfl) rfl (y_move (v := Value.pointer _) rfl rfl) ?_
      refine E0 (wanted_none rfl) rfl (y_move (v := Value.int _ _) rfl rfl) ?_
      refine E0 (wanted_none rfl) rfl (y_nilCheck rfl rfl) ?_
      refine E0 (wanted_none rfl) rfl (y_nilCheck rfl rfl) ?_
      refine E0 (wanted_none rfl) rfl (y_fieldAddr rfl Tryd.underlying104 rfl sz29 rfl) ?_
      refine E0 (wanted_none rfl) rfl (y_fieldAddr rfl Tryd.underlying104 rfl sz101 rfl) ?_
      refine E0 (wanted_none rfl) rfl (y_indexArr rfl Tryd.underlying29 sz22 rfl rfl (by omega) (by omega)) ?_
      refine E1 hs19 (wanted_none rfl) rfl (y_load 0 rfl Tryd.underlying22 rfl rfl rfl (dc_zv (by omega) (by omega) (updF_at _ _ _))) ?_
      refine E0 (wanted_none rfl) rfl (y_slen rfl Tryd.underlying22 rfl) ?_
      refine E0 (wanted_none rfl) rfl (y_indexArr rfl Tryd.underlying101 sz3 rfl rfl (by omega) (by omega)) ?_
      refine E2 (wanted_none rfl) (c_store (i := 0) (v := iv _) hs19 rfl rfl rfl rfl sz3 rfl rfl (by (show 0 + 8 + (i : Int).toNat * 1 < 20; omega)) (Fz.zero _) (fun w20 hs21 => ?_))
      have hs21 := hs21.at0 (dc_sets _ _ _ _ _ (by omega) (by omega) _)
      refine Enil ?_
      refine W_region ?_
      refine L0 (wanted_none rfl) rfl (y_add64 rfl rfl rfl (by omega)) ?_
      refine L0 (wanted_none rfl) rfl (y_move (v := Value.int _ _) rfl rfl) ?_
      refine Lnil ?_
      exact ⟨(i + 1, updF vz2 i (.slice a (crN D keep i) cap)), by first | omega | (dsimp only; done) | (dsimp only; omega), _, A_c (iv_eq (by first | omega | (dsimp only; done) | (dsimp only; omega))) (A_c rfl (A_c rfl (A_c rfl (rfl)))), by first | omega | (dsimp only; done) | (dsimp only; omega), crR hR (hRi.take (crN_le hsu)), hs21.at0 (congrArg (fun f => (⟨dcells (updF vz2 i (.slice a (crN D keep i) cap)) f D.slot vw D.fuse⟩ : Array Value)) (crS_succ D keep i))⟩
  · have h4' := h4
    first | replace h4' := of_decide_eq_false h4' | replace h4' := bnF' h4' | skip
    refine W_condF rfl h4 ?_
    refine W_exit ?_
    refine W_seq ?_
    refine W_seq ?_
    obtain rfl : i = 8 := by omega
    refine W_region ?_
    refine L0 (wanted_none rfl) rfl (y_move (v := Value.pointer _) rfl rfl) ?_
    refine L0 (wanted_none rfl) rfl (y_nilCheck rfl rfl) ?_
    refine L0 (wanted_none rfl) rfl (y_fieldAddr rfl Tryd.underlying104 rfl sz102 rfl) ?_
    refine L1 (wanted_none rfl) rfl hs3 (y_load 0 rfl Tryd.underlying102 rfl rfl rfl rfl) ?_
    refine L0 (wanted_none rfl) rfl (y_slenRow rfl Tryd.underlying102 rfl h.rw) ?_
    refine L0 (wanted_none rfl) rfl (y_move (v := Value.int _ _) rfl rfl) ?_
    refine Lnil ?_
    refine W_block ?_
    refine W_loop (G := Nat) (fun i aL wl => ∃ e, aL = A 105 ((75, iv i) :: (74, iv D.wait.length) :: (73, vw) :: (0, pv b 0) :: (2, vl) :: e) ∧ i ≤ D.wait.length ∧ St W0 ((b, .cells ⟨dcells vz2 (crS D keep 8) (landF D.slot D.wait (fun j => land.getD j false) i) vw D.fuse⟩ 104 (0, 0)) :: (K ++ (went ++ rows))) wl) (fun i => D.wait.length - i) (0) ?_ ?_
    · exact ⟨_, A_pins _ _ [75, 74, 73, 0, 2], Nat.zero_le _, hs3⟩
    rintro i _ w22 ⟨ehs23, rfl, hi, hs23⟩
    refine W_seq ?_
    refine W_region ?_
    refine L0 (wanted_none rfl) rfl (y_lt rfl rfl rfl) ?_
    refine Lnil ?_
    refine W_seq ?_
    refine Wsp (t := 76) rfl (fun h24 => ?_) (fun h24 => ?_)
    · have h24' := h24
      first | replace h24' := of_decide_eq_true h24' | replace h24' := bnT' h24' | skip
      refine W_condT rfl h24 ?_
      refine W_skip ?_
      refine W_seq ?_
      refine W_block ?_
      refine W_seq ?_
      refine W_region ?_
      refine L0 (wanted_none rfl) rfl (y_move (v := Value.int _ _) rfl rfl) ?_
      refine L0 (wanted_none rfl) rfl (y_indexRow rfl Tryd.underlying102 sz137 rfl rfl h.rw (by omega) (by omega)) ?_
      refine L1 (wanted_none rfl) rfl hs23 ((y_loadRowN i rfl Tryd.underlying137 rfl sz137 rfl h.rw (fun x hx => by simp [hx]) rfl (by omega) (flatW_at _ _ (by omega)))) ?_
      refine Lc (wanted_none rfl) (c_alloc hs23 rfl rfl zr137 (fun b25 w26 hbb25 hs27 => ?_))
      refine L0 (wanted_none rfl) rfl (y_assign (v := Value.int _ _) rfl rfl) ?_
      refine Lc (wanted_none rfl) (c_storeN (i := 0) hs27 rfl rfl rfl rfl sz137 (by rfl) (by simp [Value.oneCell']) rfl (by decide) (Fz.zero _) (fun w28 hs29 => ?_))
      refine Lnil ?_
      refine W_seq ?_
      refine W_region ?_
      refine L0 (wanted_none rfl) rfl (y_move (v := Value.int _ _) rfl rfl) ?_
      refine L0 (wanted_none rfl) rfl (y_move (v := vl) rfl rfl) ?_
      refine L0 (wanted_none rfl) rfl (y_slenSl rfl Tryd.underlying63 rfl hlw) ?_
      refine L0 (wanted_none rfl) rfl (y_lt rfl rfl rfl) ?_
      refine L0 (wanted_none rfl) rfl (y_move (v := Value.bool _) rfl rfl) ?_
      refine Lsp (t := 84) rfl (fun h30 => ?_) (fun h30 => ?_)
      · have h30' := h30
        first | replace h30' := of_decide_eq_true h30' | replace h30' := bnT' h30' | skip
        refine L0 (wanted_yesB rfl rfl rfl h30) rfl (y_move (v := vl) rfl rfl) ?_
        refine L0 (wanted_yesB rfl rfl rfl h30) rfl (y_move (v := Value.int _ _) rfl rfl) ?_
        refine L0 (wanted_yesB rfl rfl rfl h30) rfl (y_indexSlAt rfl Tryd.underlying63 sz4 rfl rfl hlw (by omega) (by omega)) ?_
        refine L1 (wanted_yesB rfl rfl rfl h30) rfl hs29 ((y_loadAny i rfl Tryd.underlying4 rfl rfl (fun w2 h2 => hl w2 _ ((h2.drop (.inl hbb25)).perm List.perm_middle.symm) (hfr _)) rfl (by omega))) ?_
        refine L0 (wanted_none rfl) rfl (y_pickT rfl rfl h30 rfl) ?_
        refine Lnil ?_
        refine Wsp (t := 89) rfl (fun h31 => ?_) (fun h31 => ?_)
        · have h31' := h31
          first | replace h31' := of_decide_eq_true h31' | replace h31' := bnT' h31' | skip
          refine W_condT rfl h31 ?_
          refine W_drawSt [(0, 0), (0, 1), (0, 3), (1, 2), (1, 4), (0, 5), (0, 6), (0, 7), (2, 8)] hs29 mixed (by kernel_rfl) (fun w32 hs33 => ?_)
          refine E0 (wanted_none rfl) rfl (y_move (v := Value.pointer _) rfl rfl) ?_
          refine E0 (wanted_none rfl) rfl (y_fieldAddr rfl Tryd.underlying137 rfl sz3 rfl) ?_
          refine E0 (wanted_none rfl) rfl (y_fieldAddr rfl Tryd.underlying137 rfl sz9 rfl) ?_
          refine E1 hs33 (wanted_none rfl) rfl (y_load 0 rfl Tryd.underlying3 rfl rfl rfl rfl) ?_
          refine E1 hs33 (wanted_none rfl) rfl (y_load 0 rfl Tryd.underlying9 rfl rfl rfl rfl) ?_
          refine E0 (wanted_none rfl) rfl (y_nilCheck rfl rfl) ?_
          refine E0 (wanted_none rfl) rfl (y_fieldAddr rfl Tryd.underlying104 rfl sz57 rfl) ?_
          refine E0 (wanted_none rfl) rfl (y_indexArr rfl Tryd.underlying57 sz9 rfl rfl (by omega) (by have := hok i (by omega); omega)) ?_
          refine E2 (wanted_none rfl) (c_store (i := 1) (v := Value.string ⟨⟨_⟩⟩) hs33 rfl rfl rfl rfl sz9 rfl rfl (by (show 0 + 16 + ((D.wait.getD i (0, [])).1 : Int).toNat * 1 < 20; have := hok i (by omega); omega)) (Fz.zero _) (fun w34 hs35 => ?_))
          have hs35 := hs35.at1 (dc_setl _ _ _ _ _ (by omega) (by have := hok i (by omega); omega) _)
          refine Enil ?_
          refine W_region ?_
          refine L0 (wanted_none rfl) rfl (y_add64 rfl rfl rfl (by omega)) ?_
          refine L0 (wanted_none rfl) rfl (y_move (v := Value.int _ _) rfl rfl) ?_
          refine Lnil ?_
          exact ⟨i + 1, by first | omega | (dsimp only; done) | (dsimp only; omega), _, A_c (iv_eq (by first | omega | (dsimp only; done) | (dsimp only; omega))) (A_c rfl (A_c rfl (A_c rfl (A_c rfl (rfl))))), by omega, (hs35.drop (.inl hbb25)).at0 (congrArg (fun f => (⟨dcells vz2 (crS D keep 8) f vw D.fuse⟩ : Array Value)) (landF_yes (by assumption)))⟩
        · have h31' := h31
          first | replace h31' := of_decide_eq_false h31' | replace h31' := bnF' h31' | skip
          refine W_condF rfl h31 ?_
          refine W_skip ?_
          refine W_region ?_
          refine L0 (wanted_none rfl) rfl (y_add64 rfl rfl rfl (by omega)) ?_
          refine L0 (wanted_none rfl) rfl (y_move (v := Value.int _ _) rfl rfl) ?_
          refine Lnil ?_
          exact ⟨i + 1, by first | omega | (dsimp only; done) | (dsimp only; omega), _, A_c (iv_eq (by first | omega | (dsimp only; done) | (dsimp only; omega))) (A_c rfl (A_c rfl (A_c rfl (A_c rfl (rfl))))), by omega, (hs29.drop (.inl hbb25)).at0 (congrArg (fun f => (⟨dcells vz2 (crS D keep 8) f vw D.fuse⟩ : Array Value)) (landF_no (by first | assumption | exact getD_none (by omega))))⟩
      · have h30' := h30
        first | replace h30' := of_decide_eq_false h30' | replace h30' := bnF' h30' | skip
        refine Lno (wanted_noB rfl rfl rfl h30 (by decide)) rfl ?_
        refine Lno (wanted_noB rfl rfl rfl h30 (by decide)) rfl ?_
        refine Lno (wanted_noB rfl rfl rfl h30 (by decide)) rfl ?_
        refine Lno (wanted_noB rfl rfl rfl h30 (by decide)) rfl ?_
        refine L0 (wanted_none rfl) rfl (y_pickF rfl rfl h30 rfl) ?_
        refine Lnil ?_
        refine W_condF rfl rfl ?_
        refine W_skip ?_
        refine W_region ?_
        refine L0 (wanted_none rfl) rfl (y_add64 rfl rfl rfl (by omega)) ?_
        refine L0 (wanted_none rfl) rfl (y_move (v := Value.int _ _) rfl rfl) ?_
        refine Lnil ?_
        exact ⟨i + 1, by first | omega | (dsimp only; done) | (dsimp only; omega), _, A_c (iv_eq (by first | omega | (dsimp only; done) | (dsimp only; omega))) (A_c rfl (A_c rfl (A_c rfl (A_c rfl (rfl))))), by omega, (hs29.drop (.inl hbb25)).at0 (congrArg (fun f => (⟨dcells vz2 (crS D keep 8) f vw D.fuse⟩ : Array Value)) (landF_no (by first | assumption | exact getD_none (by omega))))⟩
    · have h24' := h24
      first | replace h24' := of_decide_eq_false h24' | replace h24' := bnF' h24' | skip
      refine W_condF rfl h24 ?_
      refine W_exit ?_
      obtain rfl : i = D.wait.length := by omega
      refine W_region ?_
      refine L0 (wanted_none rfl) rfl (y_move (v := Value.pointer _) rfl rfl) ?_
      refine L0 (wanted_none rfl) rfl (y_move (v := Value.pointer _) rfl rfl) ?_
      refine L0 (wanted_none rfl) rfl (y_nilCheck rfl rfl) ?_
      refine L0 (wanted_none rfl) rfl (y_fieldAddr rfl Tryd.underlying104 rfl sz102 rfl) ?_
      refine Lc (wanted_none rfl) (c_store (i := 0) (v := .slice none 0 0) hs23 rfl rfl rfl rfl sz102 rfl rfl (by (show 18 < 20; omega)) (Fz.zero _) (fun w36 hs37 => ?_))
      have hs37 := hs37.at0 (c' := ⟨dcells vz2 (crS D keep 8) (landF D.slot D.wait (fun j => land.getD j false) D.wait.length) (.slice none 0 0) D.fuse⟩) rfl
      refine L0 (wanted_none rfl) rfl (y_nilCheck rfl rfl) ?_
      refine L0 (wanted_none rfl) rfl (y_fieldAddr rfl Tryd.underlying104 rfl sz3 rfl) ?_
      refine Lc (wanted_none rfl) (c_store (i := 0) (v := iv (-1)) hs37 rfl rfl rfl rfl sz3 rfl rfl (by (show 19 < 20; omega)) (Fz.zero _) (fun w38 hs39 => ?_))
      have hs39 := hs39.at0 (c' := ⟨dcells vz2 (crS D keep 8) (landF D.slot D.wait (fun j => land.getD j false) D.wait.length) (.slice none 0 0) (-1)⟩) rfl
      refine Lnil ?_
      refine fin0 (fn := Tryd.f42) rfl ?_
      refine ⟨vz2, rfl, (hs39.re (L' := went ++ (K ++ ((b, .cells ⟨dcells vz2 (crS D keep 8) (landF D.slot D.wait (fun j => land.getD j false) D.wait.length) (.slice none 0 0) (-1)⟩ 104 (0, 0)) :: ([] ++ rows)))) (fun a => by simp only [ct_append, ct_cons, ct_nil]; omega)).dropL h.rw.new, hR, Row.nil _ _ _, h.newb, h.newr⟩
end Go.Proofs.YtkolfgmpmnelmabDoor
