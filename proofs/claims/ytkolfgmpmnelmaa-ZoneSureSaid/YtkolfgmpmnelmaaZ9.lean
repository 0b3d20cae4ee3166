/-
  Walks: alike; what one writes.
-/
import Derived.Test.YtkolfgmpmnelmaaZ8
import Derived.ChangeKeysEq
import Derived.Laws.StructEq
namespace Go.Proofs.Ytkolfgmpmnelmaa
open Go Vx Go.Proofs
set_option linter.unusedVariables false
set_option maxRecDepth 4000
set_option maxHeartbeats 400000

section
variable {P : Program} {n : Nat} {e : Env} {o : Oper} {x y : Operand} {ty ty' : TypeId}
theorem y_makeFunc {f : FuncId} {caps : Array Operand} {vs : List Value} (ho : o.op = .makeFunc (.func f) #[] caps) (hc : caps.toList.map (opv n e) = vs) : Y0 P n e o (.func (.func f) #[] ⟨vs⟩) := fun w => by
  have h : caps.map (opv n e) = ⟨vs⟩ := Array.ext' (by rw [Array.toList_map, hc])
  simp [execOp, ho, Instr.makeFunc, h]
theorem y_eqStr2 {el : TypeId} {i : TypeInfo} {a b : List UInt8} (ho : o.op = .binOp .eql ty x y ty') (ht : P.underlying ty = some (.array 2 el)) (hi : P.info? el = some i) (he : P.underlying el = some .string) (hc : P.cellsOf el = 1) (hg : P.eqGuardType P.depth ty = false) (hx : opv n e x = .agg ⟨[str a, str b]⟩) (hy : opv n e y = .agg ⟨[str a, str b]⟩) : Y0 P n e o (.bool true) := fun w => by
  have hp : ∀ k (v : Value), (⟨[str a, str b]⟩ : Array Value)[k]? = some v → (part el ⟨[str a, str b]⟩ k).run P w = .ok v w := fun k v hk => by
    simp [part, Sem.run_bind, run_isAgg he, hk, show isAggB TypeDesc.string = false from rfl]
  have hs : ∀ (d : Nat) (s : List UInt8), (Op.equalIn (d + 1) el (str s) (str s)).run P w = .ok true w := fun d s => by
    have hb : ((⟨⟨s⟩⟩ : ByteArray) == ⟨⟨s⟩⟩) = true := by
      first | exact beq_self_eq_true _ | exact decide_eq_true rfl | (show ByteArray.beq _ _ = true; simp [ByteArray.beq])
    simp [Op.equalIn, Sem.run_bind, run_underlying he, hb]
  have h2 : (Op.equalIn 10000 ty (.agg ⟨[str a, str b]⟩) (.agg ⟨[str a, str b]⟩)).run P w = .ok true w := by
    have h := run_equalIn_array (P := P) (w := w) 9999 (t := ty) (e := el) (n := 2) (i := i) ⟨[str a, str b]⟩ ⟨[str a, str b]⟩ ht hi
    refine Eq.trans h ?_
    rw [hc, show List.range 2 = [0, 1] from rfl]
    simp only [Op.eqItems, Sem.run_bind, hp (0 * 1) (str a) rfl, hp (1 * 1) (str b) rfl, hs 9998, Result.andThen_ok, Bool.not_true, Bool.false_eq_true, if_false, Sem.run_pure]
  simp only [execOp, ho, hx, hy, Sem.run_bind, run_eqGuard_agg _ _ _ _ _ _ _ hg, run_eql_struct, h2, Result.andThen_ok, Sem.run_pure]
end
theorem alike_any (vs1 vs2 : Nat → Value) (slot : Nat → List UInt8) (z : Nat → List (List UInt8)) (w : World) (hl : ∀ j, j < 8 → (z j).length ≤ 1000) (h1 : ∀ j, j < 8 → Sl w (vs1 j) (z j).length (zstrs (z j))) (h2 : ∀ j, j < 8 → Sl w (vs2 j) (z j).length (zstrs (z j))) :
    C Try.prog 23 ⟨[.agg ⟨icells vs1 slot⟩, .agg ⟨icells vs2 slot⟩]⟩ w fun v w' => v = .bool true ∧ St w [] w' := by
  refine C_enter (n := 25) Try.func23 rfl rfl rfl (fun w1 hs1 => ?_)
  refine W_seq ?_
  refine W_region ?_
  refine Lc (wanted_none rfl) (c_box hs1 rfl rfl rfl (fun b2 w3 hbb2 hs4 => ?_))
  refine Lc (wanted_none rfl) (c_box hs4 rfl rfl rfl (fun b5 w6 hbb5 hs7 => ?_))
  refine L0 (wanted_none rfl) rfl (y_assign (v := Value.bool _) rfl rfl) ?_
  refine Lnil ?_
  refine W_seq ?_
  refine W_seq ?_
  refine W_region ?_
  refine L0 (wanted_none rfl) rfl (y_assign (v := Value.int _ _) rfl rfl) ?_
  refine Lnil ?_
  refine W_block ?_
  refine W_loop (G := Nat) (fun i aL wl => ∃ e, aL = A 25 ((5, iv i) :: (2, pv b2 0) :: (3, pv b5 0) :: e) ∧ i ≤ 8 ∧ St w [(b5, .cells ⟨icells vs2 slot⟩ 47 (0, 0)), (b2, .cells ⟨icells vs1 slot⟩ 47 (0, 0))] wl) (fun i => 8 - i) (0) ?_ ?_
  · exact ⟨_, A_pins _ _ [5, 2, 3], Nat.zero_le _, hs7⟩
  rintro i _ w8 ⟨ehs9, rfl, hi, hs9⟩
  refine W_seq ?_
  refine W_seq ?_
  refine W_region ?_
  refine L0 (wanted_none rfl) rfl (y_move (v := Value.int _ _) rfl rfl) ?_
  refine L0 (wanted_none rfl) rfl (y_lt rfl rfl rfl) ?_
  refine Lnil ?_
  refine Wsp (t := 7) rfl (fun h10 => ?_) (fun h10 => ?_)
  · have h10' := h10
    first | replace h10' := of_decide_eq_true h10' | replace h10' := bnT' h10' | skip
    refine W_condT rfl h10 ?_
    refine W_skip ?_
    refine W_seq ?_
    refine W_block ?_
    refine W_seq ?_
    refine W_drawSt [(0, 0), (0, 1), (0, 4), (0, 5), (0, 2), (0, 6), (1, 3), (1, 7), (2, 8), (0, 9)] hs9 mixed (by kernel_rfl) (fun w11 hs12 => ?_)
    refine E0 (wanted_none rfl) rfl (y_move (v := Value.int _ _) rfl rfl) ?_
    refine E0 (wanted_none rfl) rfl (y_fieldAddr rfl Try.underlying47 rfl sz44 rfl) ?_
    refine E0 (wanted_none rfl) rfl (y_move (v := Value.int _ _) rfl rfl) ?_
    refine E0 (wanted_none rfl) rfl (y_fieldAddr rfl Try.underlying47 rfl sz44 rfl) ?_
    refine E0 (wanted_none rfl) rfl (y_indexArr rfl Try.underlying44 sz33 rfl rfl (by omega) (by omega)) ?_
    refine E0 (wanted_none rfl) rfl (y_indexArr rfl Try.underlying44 sz33 rfl rfl (by omega) (by omega)) ?_
    refine E1 hs12 (wanted_none rfl) rfl (y_load 1 rfl Try.underlying33 rfl rfl rfl (ic_z vs1 slot (by omega) (by omega))) ?_
    refine E1 hs12 (wanted_none rfl) rfl (y_load 0 rfl Try.underlying33 rfl rfl rfl (ic_z vs2 slot (by omega) (by omega))) ?_
    refine E2 (wanted_none rfl) (c_call rfl rfl rfl Try.func25 (by kernel_rfl) rfl (zequal_any (z i) (vs1 i) (vs2 i) (hl i (by omega)) w11 ((h1 i (by omega)).keep hs12 (by intro k hk; simp [keys] at hk; omega)) ((h2 i (by omega)).keep hs12 (by intro k hk; simp [keys] at hk; omega))) rfl ?_)
    rintro _ w13 ⟨rfl, hc14⟩
    have hs15 := hs12.call0 hc14
    refine E0 (wanted_none rfl) rfl (y_not rfl rfl) ?_
    refine Enil ?_
    refine Wkn (t := 19) (b0 := false) rfl (by rfl) (fun h16 => ?_)
    refine W_condF rfl h16 ?_
    refine W_skip ?_
    refine W_region ?_
    refine L0 (wanted_none rfl) rfl (y_move (v := Value.int _ _) rfl rfl) ?_
    refine L0 (wanted_none rfl) rfl (y_add64 rfl rfl rfl (by omega)) ?_
    refine L0 (wanted_none rfl) rfl (y_assign (v := Value.int _ _) rfl rfl) ?_
    refine Lnil ?_
    exact ⟨i + 1, by first | omega | (dsimp only; done) | (dsimp only; omega), _, A_c (iv_eq (by first | omega | (dsimp only; done) | (dsimp only; omega))) (A_c rfl (A_c rfl (rfl))), by omega, hs15⟩
  · have h10' := h10
    first | replace h10' := of_decide_eq_false h10' | replace h10' := bnF' h10' | skip
    refine W_condF rfl h10 ?_
    refine W_exit ?_
    refine W_seq ?_
    refine W_region ?_
    refine L0 (wanted_none rfl) rfl (y_fieldAddr rfl Try.underlying47 rfl sz45 rfl) ?_
    refine L1 (wanted_none rfl) rfl hs9 ((y_loadN 1 rfl Try.underlying45 rfl sz45 rfl rfl (by show 8 + 2 ≤ 10; omega))) ?_
    refine L0 (wanted_none rfl) rfl (y_fieldAddr rfl Try.underlying47 rfl sz45 rfl) ?_
    refine L1 (wanted_none rfl) rfl hs9 ((y_loadN 0 rfl Try.underlying45 rfl sz45 rfl rfl (by show 8 + 2 ≤ 10; omega))) ?_
    refine L0 (wanted_none rfl) rfl (y_eqStr2 (i := (Try.prog.info? 9).get rfl) rfl Try.underlying45 (by kernel_rfl) Try.underlying9 (by kernel_rfl) (by kernel_rfl) rfl rfl) ?_
    refine L0 (wanted_none rfl) rfl (y_assign (v := Value.bool _) rfl rfl) ?_
    refine Lnil ?_
    refine W_ret ?_
    refine fin1 (fn := Try.f23) rfl rfl ?_
    exact ⟨rfl, (hs9.drop (.inl hbb5)).drop (.inl hbb2)⟩
/-! what one writes -/
theorem DSt.fresh {W0 : World} {K : Blocks} {b : Nat} {D : Dv} {w : World} {vz : Nat → Value} {vw : Value} {went rows : Blocks} (h : DSt W0 K b D w vz vw went rows) {c : Array Value} {T : TypeId} {fz : Nat × Nat} : ∀ x ∈ ((b, Obj.cells c T fz) :: (went ++ rows)), W0.heap.size ≤ x.1 := fun x hx => by
  rcases List.mem_cons.1 hx with rfl | hx
  · exact h.newb
  · rcases List.mem_append.1 hx with hx | hx
    · exact h.rw.new x hx
    · exact h.newr x hx
theorem Vx.W_drawS {P : Program} {p : Post} {ops : Array Oper} {w0 w : World} {L : Blocks} {a : Act} {id : Nat} (perm : List (Nat × Nat)) (S : World → Prop) (hs : St w0 L w) (hm : P.follows .mixedOrders = true)
    (hst : (Region.noSelect ops && (perm.length == ops.size) && okE ops (kindOf perm) perm (Array.replicate ops.size false)) = true) (h : ∀ w', St w0 L w' → wpE P ops p S (mkE ops perm) a w') : W P (.region id ops true) p a w :=
  W_draw perm S hm hst (h _ (hs.drewN _))
theorem zy_rem64x {P : Program} {n : Nat} {e : Env} {o : Oper} {x y : Operand} {ty ty' : TypeId} {a b z : Int} (ho : o.op = .binOp .rem ty x y ty') (hx : opv n e x = iv a) (hy : opv n e y = iv b) (h0 : 0 ≤ a) (h1 : 0 < b) (hz : a % b = z) : Y0 P n e o (iv z) := hz ▸ y_rem64 ho hx hy h0 h1
structure Ext (D D' : Dv) : Prop where
  fuse : D'.fuse = D.fuse
  sure : D'.sure = D.sure
  slot : D'.slot = D.slot
  more : ∀ j, j < 8 → ∃ m, D'.z j = D.z j ++ m
  room : ∀ j, j < 8 → (D'.z j).length ≤ 16
  ok : ∀ j, j < D'.wait.length → (D'.wait.getD j (0, [])).1 < 2
theorem app_step {W0 : World} {K : Blocks} {b : Nat} {D : Dv} {w : World} {vz : Nat → Value} {vw : Value} {went rows : Blocks} (h : DSt W0 K b D w vz vw went rows) (hf : D.fuse < 0) (i : Int) (s : List UInt8) (h0 : 0 ≤ i) (h1 : i < 8) (hs : s.length ≤ 128) (hr : ∀ j, j < 8 → (D.z j).length ≤ 16) :
    C Try.prog 18 ⟨[pv b 0, iv i, str s]⟩ w fun v w' => ∃ z' vz' rows', DSt W0 K b { D with z := z' } w' vz' vw went rows' ∧ (∀ j, j < 8 → ∃ m, z' j = D.z j ++ m) ∧ ∀ j, j < 8 → (z' j).length ≤ 16 := by
  have hj : i.toNat < 8 := by omega
  by_cases hl : (D.z i.toNat).length < 16
  · refine (app_ok h hf i s h0 h1 hs hl).mono fun v w' ⟨vz', rows', _, h2⟩ => ⟨_, vz', rows', h2, fun j hj => ?_, fun j hj => ?_⟩
    · by_cases e : j = i.toNat
      · subst e; rw [updF_at]; exact ⟨_, rfl⟩
      · rw [updF_ne _ _ e]; exact ⟨[], (List.append_nil _).symm⟩
    · by_cases e : j = i.toNat
      · subst e; rw [updF_at, List.length_append]; simp; omega
      · rw [updF_ne _ _ e]; exact hr j hj
  · have h16 := hr _ hj
    refine (app_e12 b vz D.sure D.slot vw D.fuse w h.has i s h0 h1 hs (D.z i.toNat) (h.sl hj) (by omega)).mono fun v w' ⟨_, h2⟩ => ⟨D.z, vz, rows, h.call0 h2, fun j _ => ⟨[], (List.append_nil _).symm⟩, hr⟩
theorem Ext.refl {D : Dv} (hr : ∀ j, j < 8 → (D.z j).length ≤ 16) (ok : ∀ j, j < D.wait.length → (D.wait.getD j (0, [])).1 < 2) : Ext D D := ⟨rfl, rfl, rfl, fun j _ => ⟨[], (List.append_nil _).symm⟩, hr, ok⟩
theorem Ext.app {D D' : Dv} (h : Ext D D') {z' : Nat → List (List UInt8)} (h1 : ∀ j, j < 8 → ∃ m, z' j = D'.z j ++ m) (h2 : ∀ j, j < 8 → (z' j).length ≤ 16) : Ext D { D' with z := z' } :=
  ⟨h.fuse, h.sure, h.slot, fun j hj => by
    obtain ⟨m, hm⟩ := h.more j hj
    obtain ⟨m', hm'⟩ := h1 j hj
    exact ⟨m ++ m', by show z' j = _; rw [hm', hm, List.append_assoc]⟩, h2, h.ok⟩
theorem Ext.put {D D' : Dv} (h : Ext D D') {i : Nat} (hi : i < 2) (s : List UInt8) : Ext D { D' with wait := D'.wait ++ [(i, s)] } :=
  ⟨h.fuse, h.sure, h.slot, h.more, h.room, fun j hj => by
    have hj' : j < D'.wait.length + 1 := by simpa using hj
    show ((D'.wait ++ [(i, s)]).getD j (0, [])).1 < 2
    rw [List.getD_eq_getElem?_getD]
    rcases Nat.lt_or_ge j D'.wait.length with h3 | h3
    · rw [List.getElem?_append_left h3, ← List.getD_eq_getElem?_getD]; exact h.ok j h3
    · obtain rfl : j = D'.wait.length := by omega
      simp [hi]⟩
theorem write_ok {W0 : World} {K : Blocks} {b b11 b7 : Nat} {D : Dv} {w : World} {vz : Nat → Value} {vw : Value} {went rows : Blocks} (l : List (List UInt8)) (at_ : List Int) (va vt : Value) (h : DSt W0 ((b11, .cells #[pv b 0] 37 (0, 0)) :: (b7, .cells #[vt] 34 (0, 0)) :: K) b D w vz vw went rows) (hf : D.fuse < 0) (hfew : Few l) (hat : 0 < at_.length) (hat2 : at_.length ≤ 20)
    (hS : ∀ w' L', St W0 (K ++ L') w' → (∀ x ∈ L', W0.heap.size ≤ x.1) → Sl w' va l.length (zstrs l)) (hT : ∀ w' L', St W0 (K ++ L') w' → (∀ x ∈ L', W0.heap.size ≤ x.1) → Sl w' vt at_.length (fun j => iv (at_.getD j 0)))
    (hn1 : W0.heap.size ≤ b11) (hn2 : W0.heap.size ≤ b7) (hE : Ext D D) (hwl : D.wait.length ≤ 100) :
    C Try.prog 17 ⟨[va, pv b11 0, pv b7 0]⟩ w fun v w' => ∃ D' vz' vw' went' rows', v = .tuple #[] ∧ DSt W0 ((b11, .cells #[pv b 0] 37 (0, 0)) :: (b7, .cells #[vt] 34 (0, 0)) :: K) b D' w' vz' vw' went' rows' ∧ Ext D D' ∧ D'.wait.length ≤ D.wait.length + l.length := by
  have hl20 := hfew.1
  have hS2 : ∀ (M : Blocks) (w2 : World), St W0 ((b11, .cells #[pv b 0] 37 (0, 0)) :: (b7, .cells #[vt] 34 (0, 0)) :: (K ++ M)) w2 → (∀ x ∈ M, W0.heap.size ≤ x.1) → Sl w2 va l.length (zstrs l) ∧ Sl w2 vt at_.length (fun j => iv (at_.getD j 0)) := fun M w2 h2 hM => by
    have h3 := h2.re (L' := K ++ ((b11, .cells #[pv b 0] 37 (0, 0)) :: (b7, .cells #[vt] 34 (0, 0)) :: M)) (fun a => by simp only [ct_append, ct_cons]; omega)
    have hfr : ∀ x ∈ ((b11, Obj.cells #[pv b 0] 37 (0, 0)) :: (b7, Obj.cells #[vt] 34 (0, 0)) :: M), W0.heap.size ≤ x.1 := fun x hx => by
      simp only [List.mem_cons] at hx
      rcases hx with rfl | rfl | hx
      · exact hn1
      · exact hn2
      · exact hM x hx
    exact ⟨hS w2 _ h3 hfr, hT w2 _ h3 hfr⟩
  have hSw := (hS2 _ w h.st h.fresh).1
  have hTw := (hS2 _ w h.st h.fresh).2
  refine C_enter (n := 35) Try.func17 rfl rfl rfl (fun w1 hs1 => ?_)
  have hs0 := h.st.call0 hs1
  refine W_seq ?_
  refine W_region ?_
  refine L0 (wanted_none rfl) rfl (y_assign (v := Value.int _ _) rfl rfl) ?_
  refine Lnil ?_
  refine W_block ?_
  refine W_loop (G := Nat × Dv × (Nat → Value) × Value × Blocks × Blocks) (fun g aL wl => ∃ e, aL = A 35 ((4, iv g.1) :: (0, va) :: (1, pv b11 0) :: (2, pv b7 0) :: e) ∧ g.1 ≤ l.length ∧ DSt W0 ((b11, .cells #[pv b 0] 37 (0, 0)) :: (b7, .cells #[vt] 34 (0, 0)) :: K) b g.2.1 wl g.2.2.1 g.2.2.2.1 g.2.2.2.2.1 g.2.2.2.2.2 ∧ Ext D g.2.1 ∧ g.2.1.wait.length ≤ D.wait.length + g.1) (fun g => l.length - g.1) ((0, D, vz, vw, went, rows)) ?_ ?_
  · exact ⟨_, A_pins _ _ [4, 0, 1, 2], Nat.zero_le _, h.drewn hs0, hE, Nat.le_refl _⟩
  rintro g _ w2 ⟨ehs3, rfl, hi, hDi, hEi, hwi⟩
  obtain ⟨i, Di, vzi, vwi, wenti, rowsi⟩ := g
  dsimp only at *
  have hs3 := hDi.st
  refine W_seq ?_
  refine W_seq ?_
  refine W_region ?_
  refine L0 (wanted_none rfl) rfl (y_move (v := Value.int _ _) rfl rfl) ?_
  refine L0 (wanted_none rfl) rfl (y_move (v := va) rfl rfl) ?_
  refine L0 (wanted_none rfl) rfl (y_slenSl rfl Try.underlying33 rfl hSw) ?_
  refine L0 (wanted_none rfl) rfl (y_lt rfl rfl rfl) ?_
  refine Lnil ?_
  refine Wsp (t := 8) rfl (fun h4 => ?_) (fun h4 => ?_)
  · have h4' := h4
    first | replace h4' := of_decide_eq_true h4' | replace h4' := bnT' h4' | skip
    refine W_condT rfl h4 ?_
    refine W_skip ?_
    refine W_seq ?_
    refine W_block ?_
    refine W_seq ?_
    have hm0 := Int.emod_nonneg (i : Int) (b := (at_.length : Int)) (by omega)
    have hm1 := Int.emod_lt_of_pos (i : Int) (b := (at_.length : Int)) (by omega)
    have h80 := hfew.2 i
    have hfi : Di.fuse < 0 := by rw [hEi.fuse]; exact hf
    refine W_drawS [(1, 0), (1, 1), (0, 2), (1, 3), (0, 8), (0, 11), (0, 12), (0, 4), (0, 13), (0, 5), (1, 14), (0, 6), (1, 7), (0, 9), (3, 10), (3, 15)] (fun w2 => ∃ M2, St W0 ((b11, .cells #[pv b 0] 37 (0, 0)) :: (b7, .cells #[vt] 34 (0, 0)) :: (K ++ M2)) w2 ∧ ∀ x ∈ M2, W0.heap.size ≤ x.1) hs3 mixed (by kernel_rfl) (fun w5 hs6 => ?_)
    refine E1 ⟨_, hs6, (by first | exact hDi.fresh | exact hD2.fresh)⟩ (wanted_none rfl) rfl (fun w2 hSS => by obtain ⟨M2, h2, hf2⟩ := hSS; exact (y_load 0 rfl Try.underlying37 rfl rfl rfl rfl) w2 h2) ?_
    refine E1 ⟨_, hs6, (by first | exact hDi.fresh | exact hD2.fresh)⟩ (wanted_none rfl) rfl (fun w2 hSS => by obtain ⟨M2, h2, hf2⟩ := hSS; exact (y_load 1 rfl Try.underlying34 rfl rfl rfl rfl) w2 h2) ?_
    refine E0 (wanted_none rfl) rfl (y_move (v := Value.int _ _) rfl rfl) ?_
    refine E1 ⟨_, hs6, (by first | exact hDi.fresh | exact hD2.fresh)⟩ (wanted_none rfl) rfl (fun w2 hSS => by obtain ⟨M2, h2, hf2⟩ := hSS; exact (y_load 1 rfl Try.underlying34 rfl rfl rfl rfl) w2 h2) ?_
    refine E0 (wanted_none rfl) rfl (y_move (v := Value.int _ _) rfl rfl) ?_
    refine E0 (wanted_none rfl) rfl (y_move (v := va) rfl rfl) ?_
    refine E0 (wanted_none rfl) rfl (y_move (v := Value.int _ _) rfl rfl) ?_
    refine E0 (wanted_none rfl) rfl (y_slenSl rfl Try.underlying34 rfl hTw) ?_
    refine E0 (wanted_none rfl) rfl (y_indexSlAt rfl Try.underlying33 sz9 rfl rfl hSw (by omega) (by omega)) ?_
    refine E0 (wanted_none rfl) rfl (y_rem64 rfl rfl rfl (by omega) (by omega)) ?_
    refine E1 ⟨_, hs6, (by first | exact hDi.fresh | exact hD2.fresh)⟩ (wanted_none rfl) rfl (fun w2 hSS => by obtain ⟨M2, h2, hf2⟩ := hSS; exact ((y_loadAny i rfl Try.underlying9 rfl rfl (fun w2 h2 => (hS2 _ w2 h2 hf2).1) rfl (by omega))) w2 h2) ?_
    refine E0 (wanted_none rfl) rfl (y_indexSlAt rfl Try.underlying34 sz3 rfl rfl hTw hm0 hm1) ?_
    refine E1 ⟨_, hs6, (by first | exact hDi.fresh | exact hD2.fresh)⟩ (wanted_none rfl) rfl (fun w2 hSS => by obtain ⟨M2, h2, hf2⟩ := hSS; exact ((y_loadAny ((i : Int) % (at_.length : Int)).toNat rfl Try.underlying3 rfl rfl (fun w2 h2 => (hS2 _ w2 h2 hf2).2) rfl (by omega))) w2 h2) ?_
    refine E0 (wanted_none rfl) rfl (y_add rfl rfl rfl) ?_
    refine E3 (wanted_none rfl) (c_call rfl rfl rfl Try.func13 (by kernel_rfl) rfl (zpick_any _ 8 (by decide) (by decide) w5) rfl ?_)
    rintro _ w7 ⟨rfl, hc8⟩
    have hs9 := hs6.call0 hc8
    refine ⟨fun _ => ⟨_, hs9, (by first | exact hDi.fresh | exact hD2.fresh)⟩, ?_⟩
    refine E3 (wanted_none rfl) (c_call rfl rfl rfl Try.func18 (by kernel_rfl) rfl (app_step (hDi.drewn (K' := ((b11, .cells #[pv b 0] 37 (0, 0)) :: (b7, .cells #[vt] 34 (0, 0)) :: K)) hs9) hfi (zpickOf _ 8) (l.getD i []) (zpickOf_range (by decide)).1 (zpickOf_range (by decide)).2 (by omega) hEi.room) rfl ?_)
    rintro vv w10 ⟨z2, vz2, rows2, hD2, hm2, hr2⟩
    have hs12 := hD2.st
    refine ⟨fun _ => ⟨_, hs12, (by first | exact hDi.fresh | exact hD2.fresh)⟩, ?_⟩
    refine Enil ?_
    refine W_drawSt [(1, 0), (0, 1), (0, 3), (0, 4), (0, 2), (0, 5), (1, 6), (2, 7)] hs12 mixed (by kernel_rfl) (fun w13 hs14 => ?_)
    refine E1 hs14 (wanted_none rfl) rfl (y_load 0 rfl Try.underlying37 rfl rfl rfl rfl) ?_
    refine E0 (wanted_none rfl) rfl (y_move (v := Value.int _ _) rfl rfl) ?_
    refine E0 (wanted_none rfl) rfl (y_move (v := va) rfl rfl) ?_
    refine E0 (wanted_none rfl) rfl (y_move (v := Value.int _ _) rfl rfl) ?_
    refine E0 (wanted_none rfl) rfl (zy_rem64x rfl rfl rfl (by omega) (by decide) (z := ((i % 2 : Nat) : Int)) (by omega)) ?_
    refine E0 (wanted_none rfl) rfl (y_indexSlAt rfl Try.underlying33 sz9 rfl rfl hSw (by omega) (by omega)) ?_
    refine E1 hs14 (wanted_none rfl) rfl ((y_loadAny i rfl Try.underlying9 rfl rfl (fun w2 h2 => (hS2 _ w2 h2 hD2.fresh).1) rfl (by omega))) ?_
    refine E2 (wanted_none rfl) (c_call rfl rfl rfl Try.func19 (by kernel_rfl) rfl (put_ok (hD2.drewn (K' := ((b11, .cells #[pv b 0] 37 (0, 0)) :: (b7, .cells #[vt] 34 (0, 0)) :: K)) hs14) hfi (i % 2) (l.getD i []) (by omega) (by omega) (by show Di.wait.length ≤ 1000; omega)) rfl ?_)
    rintro vp w15 ⟨vw3, went3, rfl, hD3⟩
    have hs17 := hD3.st
    refine Enil ?_
    refine W_region ?_
    refine L0 (wanted_none rfl) rfl (y_move (v := Value.int _ _) rfl rfl) ?_
    refine L0 (wanted_none rfl) rfl (y_add64 rfl rfl rfl (by omega)) ?_
    refine L0 (wanted_none rfl) rfl (y_assign (v := Value.int _ _) rfl rfl) ?_
    refine Lnil ?_
    exact ⟨(i + 1, { Di with z := z2, wait := Di.wait ++ [(i % 2, fillN (l.getD i []) 500)] }, vz2, vw3, went3, rows2), by first | omega | (dsimp only; done) | (dsimp only; omega), _, A_c (iv_eq (by first | omega | (dsimp only; done) | (dsimp only; omega))) (A_c rfl (A_c rfl (A_c rfl (rfl)))), by first | omega | (dsimp only; done) | (dsimp only; omega), hD3.drewn hs17, (hEi.app hm2 hr2).put (by omega) _, by (dsimp only); rw [List.length_append]; simp; omega⟩
  · have h4' := h4
    first | replace h4' := of_decide_eq_false h4' | replace h4' := bnF' h4' | skip
    refine W_condF rfl h4 ?_
    refine W_exit ?_
    refine fin0 (fn := Try.f17) rfl ?_
    obtain rfl : i = l.length := by omega
    exact ⟨Di, vzi, vwi, wenti, rowsi, rfl, hDi.drewn hs3, hEi, hwi⟩
end Go.Proofs.Ytkolfgmpmnelmaa
