/-
  Walks: alike; what one writes.
-/
import Derived.Test.YtkolfgmpmnelmabDoorZ8
import Derived.ChangeKeysEq
import Derived.Laws.StructEq
namespace Go.Proofs.YtkolfgmpmnelmabDoor
open Go Vx Go.Proofs
set_option linter.unusedVariables false
set_option maxRecDepth 4000
set_option maxHeartbeats 400000

section
variable {P : Program} {n : Nat} {e : Env} {o : Oper} {x y : Operand} {ty ty' : TypeId}
theorem y_makeFunc {f : FuncId} {caps : Array Operand} {vs : List Value} (ho : o.op = .makeFunc (.func f) #[] caps) (hc : caps.toList.map (opv n e) = vs) : Y0 P n e o (.func (.func f) #[] ⟨vs⟩) := fun w => by
  have h : caps.map (opv n e) = ⟨vs⟩ := Array.ext' (by rw [Array.toList_map, hc])
  simp [execOp, ho, Instr.makeFunc, h]
theorem y_eqStr2 {el : TypeId} {i : TypeInfo} {a b : List UInt8} (ho : o.op = .binOp .eql ty x y ty') (ht : P.underlying ty = some (.array 2 el)) (hi : P.info? el = some i) (he : P.underlying el = some .string) (hc : P.cellsOf el = 1) (hg : P.eqGuardType P.depth ty = false) (hx : opv n e x = .agg ⟨[str a, str b]⟩) (hy : opv n e y = .agg ⟨[str a, str b]⟩) : Y0 P n e o (.bool true) := fun w => by
  have hp : ∀ k (v : Value), (⟨[str a, str b]⟩ : Array Value)[k]? = some v → (part el ⟨[str a, str b]⟩ k).run P w = .ok v w := fun k v hk => by
    simp [part, Sem.run_bind, run_isAgg he, hk, show isAggB TypeDesc.string = false from rfl]
  have hs : ∀ (d : Nat) (s : List UInt8), (Op.equalIn (d + 1) el (str s) (str s)).run P w = .ok true w := fun d s => by
    have hb : ((⟨⟨s⟩⟩ : ByteArray) == ⟨⟨s⟩⟩) = true := by
      first | exact beq_self_eq_true _ | exact decide_eq_true rfl | (show ByteArray.beq _ _ = true; simp [ByteArray.beq])
    simp [Op.equalIn, Sem.run_bind, run_underlying he, hb]
  have h2 : (Op.equalIn 10000 ty (.agg ⟨[str a, str b]⟩) (.agg ⟨[str a, str b]⟩)).run P w = .ok true w := by
    have h := run_equalIn_array (P := P) (w := w) 9999 (t := ty) (e := el) (n := 2) (i := i) ⟨[str a, str b]⟩ ⟨[str a, str b]⟩ ht hi
    refine Eq.trans h ?_
    rw [hc, show List.range 2 = [0, 1] from rfl]
    simp only [Op.eqItems, Sem.run_bind, hp (0 * 1) (str a) rfl, hp (1 * 1) (str b) rfl, hs 9998, Result.andThen_ok, Bool.not_true, Bool.false_eq_true, if_false, Sem.run_pure]
  simp only [execOp, ho, hx, hy, Sem.run_bind, run_eqGuard_agg _ _ _ _ _ _ _ hg, run_eql_struct, h2, Result.andThen_ok, Sem.run_pure]
end
theorem alike_any (vs1 vs2 : Nat → Value) (slot : Nat → List UInt8) (z : Nat → List (List UInt8)) (w : World) (hl : ∀ j, j < 8 → (z j).length ≤ 1000) (h1 : ∀ j, j < 8 → Sl w (vs1 j) (z j).length (zstrs (z j))) (h2 : ∀ j, j < 8 → Sl w (vs2 j) (z j).length (zstrs (z j))) :
    C Tryd.prog 55 ⟨[.agg ⟨icells vs1 slot⟩, .agg ⟨icells vs2 slot⟩]⟩ w fun v w' => v = .bool true ∧ St w [] w' := by
  refine C_enter (n := 25) Tryd.func55 rfl rfl rfl (fun w1 hs1 => ?_)
  refine W_seq ?_
  refine W_region ?_
  refine Lc (wanted_none rfl) (c_box hs1 rfl rfl rfl (fun b2 w3 hbb2 hs4 => ?_))
  refine Lc (wanted_none rfl) (c_box hs4 rfl rfl rfl (fun b5 w6 hbb5 hs7 => ?_))
  refine L0 (wanted_none rfl) rfl (y_assign (v := Value.bool _) rfl rfl) ?_
  refine Lnil ?_
  refine W_seq ?_
  refine W_seq ?_
  refine W_region ?_
  refine L0 (wanted_none rfl) rfl (y_assign (v := Value.int _ _) rfl rfl) ?_
  refine Lnil ?_
  refine W_block ?_
  refine W_loop (G := Nat) (fun i aL wl => ∃ e, aL = A 25 ((5, iv i) :: (2, pv b2 0) :: (3, pv b5 0) :: e) ∧ i ≤ 8 ∧ St w [(b5, .cells ⟨icells vs2 slot⟩ 59 (0, 0)), (b2, .cells ⟨icells vs1 slot⟩ 59 (0, 0))] wl) (fun i => 8 - i) (0) ?_ ?_
  · exact ⟨_, A_pins _ _ [5, 2, 3], Nat.zero_le _, hs7⟩
  rintro i _ w8 ⟨ehs9, rfl, hi, hs9⟩
  refine W_seq ?_
  refine W_seq ?_
  refine W_region ?_
  refine L0 (wanted_none rfl) rfl (y_move (v := Value.int _ _) rfl rfl) ?_
  refine L0 (wanted_none rfl) rfl (y_lt rfl rfl rfl) ?_
  refine Lnil ?_
  refine Wsp (t := 7) rfl (fun h10 => ?_) (fun h10 => ?_)
  · have h10' := h10
    first | replace h10' := of_decide_eq_true h10' | replace h10' := bnT' h10' | skip
    refine W_condT rfl h10 ?_
    refine W_skip ?_
    refine W_seq ?_
    refine W_block ?_
    refine W_seq ?_
    refine W_drawSt [(0, 0), (0, 1), (0, 4), (0, 5), (0, 2), (0, 6), (1, 3), (1, 7), (2, 8), (0, 9)] hs9 mixed (by kernel_rfl) (fun w11 hs12 => ?_)
    refine E0 (wanted_none rfl) rfl (y_move (v := Value.int _ _) rfl rfl) ?_
    refine E0 (wanted_none rfl) rfl (y_fieldAddr rfl Tryd.underlying59 rfl sz29 rfl) ?_
    refine E0 (wanted_none rfl) rfl (y_move (v := Value.int _ _) rfl rfl) ?_
    refine E0 (wanted_none rfl) rfl (y_fieldAddr rfl Tryd.underlying59 rfl sz29 rfl) ?_
    refine E0 (wanted_none rfl) rfl (y_indexArr rfl Tryd.underlying29 sz22 rfl rfl (by omega) (by omega)) ?_
    refine E0 (wanted_none rfl) rfl (y_indexArr rfl Tryd.underlying29 sz22 rfl rfl (by omega) (by omega)) ?_
    refine E1 hs12 (wanted_none rfl) rfl (y_load 1 rfl Tryd.underlying22 rfl rfl rfl (ic_z vs1 slot (by omega) (by omega))) ?_
    refine E1 hs12 (wanted_none rfl) rfl (y_load 0 rfl Tryd.underlying22 rfl rfl rfl (ic_z vs2 slot (by omega) (by omega))) ?_
    refine E2 (wanted_none rfl) (c_call rfl rfl rfl Tryd.func99 (by kernel_rfl) rfl (zequal_any (z i) (vs1 i) (vs2 i) (hl i (by omega)) w11 ((h1 i (by omega)).keep hs12 (by intro k hk; simp [keys] at hk; omega)) ((h2 i (by omega)).keep hs12 (by intro k hk; simp [keys] at hk; omega))) rfl ?_)
    rintro _ w13 ⟨rfl, hc14⟩
    have hs15 := hs12.call0 hc14
    refine E0 (wanted_none rfl) rfl (y_not rfl rfl) ?_
    refine Enil ?_
    refine Wkn (t := 19) (b0 := false) rfl (by rfl) (fun h16 => ?_)
    refine W_condF rfl h16 ?_
    refine W_skip ?_
    refine W_region ?_
    refine L0 (wanted_none rfl) rfl (y_move (v := Value.int _ _) rfl rfl) ?_
    refine L0 (wanted_none rfl) rfl (y_add64 rfl rfl rfl (by omega)) ?_
    refine L0 (wanted_none rfl) rfl (y_assign (v := Value.int _ _) rfl rfl) ?_
    refine Lnil ?_
    exact ⟨i + 1, by first | omega | (dsimp only; done) | (dsimp only; omega), _, A_c (iv_eq (by first | omega | (dsimp only; done) | (dsimp only; omega))) (A_c rfl (A_c rfl (rfl))), by omega, hs15⟩
  · have h10' := h10
    first | replace h10' := of_decide_eq_false h10' | replace h10' := bnF' h10' | skip
    refine W_condF rfl h10 ?_
    refine W_exit ?_
    refine W_seq ?_
    refine W_region ?_
    refine L0 (wanted_none rfl) rfl (y_fieldAddr rfl Tryd.underlying59 rfl sz57 rfl) ?_
    refine L1 (wanted_none rfl) rfl hs9 ((y_loadN 1 rfl Tryd.underlying57 rfl sz57 rfl rfl (by show 8 + 2 ≤ 10; omega))) ?_
    refine L0 (wanted_none rfl) rfl (y_fieldAddr rfl Tryd.underlying59 rfl sz57 rfl) ?_
    refine L1 (wanted_none rfl) rfl hs9 ((y_loadN 0 rfl Tryd.underlying57 rfl sz57 rfl rfl (by show 8 + 2 ≤ 10; omega))) ?_
    refine L0 (wanted_none rfl) rfl (y_eqStr2 (i := (Tryd.prog.info? 9).get rfl) rfl Tryd.underlying57 (by kernel_rfl) Tryd.underlying9 (by kernel_rfl) (by kernel_rfl) rfl rfl) ?_
    refine L0 (wanted_none rfl) rfl (y_assign (v := Value.bool _) rfl rfl) ?_
    refine Lnil ?_
    refine W_ret ?_
    refine fin1 (fn := Tryd.f55) rfl rfl ?_
    exact ⟨rfl, (hs9.drop (.inl hbb5)).drop (.inl hbb2)⟩
/-! what one writes -/
theorem DSt.fresh {W0 : World} {K : Blocks} {b : Nat} {D : Dv} {w : World} {vz : Nat → Value} {vw : Value} {went rows : Blocks} (h : DSt W0 K b D w vz vw went rows) {c : Array Value} {T : TypeId} {fz : Nat × Nat} : ∀ x ∈ ((b, Obj.cells c T fz) :: (went ++ rows)), W0.heap.size ≤ x.1 := fun x hx => by
  rcases List.mem_cons.1 hx with rfl | hx
  · exact h.newb
  · rcases List.mem_append.1 hx with hx | hx
    · exact h.rw.new x hx
    · exact h.newr x hx
theorem Vx.W_drawS {P : Program} {p : Post} {ops : Array Oper} {w0 w : World} {L : Blocks} {a : Act} {id : Nat} (perm : List (Nat × Nat)) (S : World → Prop) (hs : St w0 L w) (hm : P.follows .mixedOrders = true)
    (hst : (Region.noSelect ops && (perm.length == ops.size) && okE ops (kindOf perm) perm (Array.replicate ops.size false)) = true) (h : ∀ w', St w0 L w' → wpE P ops p S (mkE ops perm) a w') : W P (.region id ops true) p a w :=
  W_draw perm S hm hst (h _ (hs.drewN _))
theorem zy_rem64x {P : Program} {n : Nat} {e : Env} {o : Oper} {x y : Operand} {ty ty' : TypeId} {a b z : Int} (ho : o.op = .binOp .rem ty x y ty') (hx : opv n e x = iv a) (hy : opv n e y = iv b) (h0 : 0 ≤ a) (h1 : 0 < b) (hz : a % b = z) : Y0 P n e o (iv z) := hz ▸ y_rem64 ho hx hy h0 h1
structure Ext (D D' : Dv) : Prop where
  fuse : D'.fuse = D.fuse
  sure : D'.sure = D.sure
  slot : D'.slot = D.slot
  more : ∀ j, j < 8 → ∃ m, D'.z j = D.z j ++ m
  room : ∀ j, j < 8 → (D'.z j).length ≤ 16
  ok : ∀ j, j < D'.wait.length → (D'.wait.getD j (0, [])).1 < 2
theorem app_step {W0 : World} {K : Blocks} {b : Nat} {D : Dv} {w : World} {vz : Nat → Value} {vw : Value} {went rows : Blocks} (h : DSt W0 K b D w vz vw went rows) (hf : D.fuse < 0) (i : Int) (s : List UInt8) (h0 : 0 ≤ i) (h1 : i < 8) (hs : s.length ≤ 128) (hr : ∀ j, j < 8 → (D.z j).length ≤ 16) :
    C Tryd.prog 15 ⟨[pv b 0, iv i, str s]⟩ w fun v w' => ∃ z' vz' rows', DSt W0 K b { D with z := z' } w' vz' vw went rows' ∧ (∀ j, j < 8 → ∃ m, z' j = D.z j ++ m) ∧ ∀ j, j < 8 → (z' j).length ≤ 16 := by
  have hj : i.toNat < 8 := by omega
  by_cases hl : (D.z i.toNat).length < 16
  · refine (app_ok h hf i s h0 h1 hs hl).mono fun v w' ⟨vz', rows', _, h2⟩ => ⟨_, vz', rows', h2, fun j hj => ?_, fun j hj => ?_⟩
    · by_cases e : j = i.toNat
      · subst e; rw [updF_at]; exact ⟨_, rfl⟩
      · rw [updF_ne _ _ e]; exact ⟨[], (List.append_nil _).symm⟩
    · by_cases e : j = i.toNat
      · subst e; rw [updF_at, List.length_append]; simp; omega
      · rw [updF_ne _ _ e]; exact hr j hj
  · have h16 := hr _ hj
    refine (app_e12 b vz D.sure D.slot vw D.fuse w h.has i s h0 h1 hs (D.z i.toNat) (h.sl hj) (by omega)).mono fun v w' ⟨_, h2⟩ => ⟨D.z, vz, rows, h.call0 h2, fun j _ => ⟨[], (List.append_nil _).symm⟩, hr⟩
theorem Ext.refl {D : Dv} (hr : ∀ j, j < 8 → (D.z j).length ≤ 16) (ok : ∀ j, j < D.wait.length → (D.wait.getD j (0, [])).1 < 2) : Ext D D := ⟨rfl, rfl, rfl, fun j _ => ⟨[], (List.append_nil _).symm⟩, hr, ok⟩
theorem Ext.app {D D' : Dv} (h : Ext D D') {z' : Nat → List (List UInt8)} (h1 : ∀ j, j < 8 → ∃ m, z' j = D'.z j ++ m) (h2 : ∀ j, j < 8 → (z' j).length ≤ 16) : Ext D { D' with z := z' } :=
  ⟨h.fuse, h.sure, h.slot, fun j hj => by
    obtain ⟨m, hm⟩ := h.more j hj
    obtain ⟨m', hm'⟩ := h1 j hj
    exact ⟨m ++ m', by show z' j = _; rw [hm', hm, List.append_assoc]⟩, h2, h.ok⟩
theorem Ext.put {D D' : Dv} (h : Ext D D') {i : Nat} (hi : i < 2) (s : List UInt8) : Ext D { D' with wait := D'.wait ++ [(i, s)] } :=
  ⟨h.fuse, h.sure, h.slot, h.more, h.room, fun j hj => by
    have hj' : j < D'.wait.length + 1 := by simpa using hj
    show ((D'.wait ++ [(i, s)]).getD j (0, [])).1 < 2
    rw [List.getD_eq_getElem?_getD]
    rcases Nat.lt_or_ge j D'.wait.length with h3 | h3
    · rw [List.getElem?_append_left h3, ← List.getD_eq_getElem?_getD]; exact h.ok j h3
    · obtain rfl : j = D'.wait.length := by omega
      simp [hi]⟩
end Go.Proofs.YtkolfgmpmnelmabDoor
