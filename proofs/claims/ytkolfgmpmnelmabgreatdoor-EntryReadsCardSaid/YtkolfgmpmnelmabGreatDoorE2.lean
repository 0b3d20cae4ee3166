/-
  errors.As, api.Tell, plain.Place and law.bare as contracts.
-/
import Derived.Test.YtkolfgmpmnelmabGreatDoorE1
import Derived.Test.YtkolfgmpmnelmabGreatDoorVh
import Derived.Test.YtkolfgmpmnelmabGreatDoorVt
namespace Go.Proofs.YtkolfgmpmnelmabGreatDoor
open Go Vx Go.Proofs
set_option linter.unusedVariables false
set_option maxRecDepth 4000
set_option maxHeartbeats 400000

@[reducible] def errno (k : Int) : Value := .iface 24 (iv k)
/-- errors.errorType is as it was laid. -/
def ErrAt (w : World) : Prop := w.cell? ⟨0, 0, none⟩ = some (.iface 143 (.agg #[.pointer (some ⟨9, 28, none⟩)]))
theorem ErrAt.lt {w : World} (h : ErrAt w) : 0 < w.heap.size := by
  rcases Nat.lt_or_ge 0 w.heap.size with h' | h'
  · exact h'
  · simp [ErrAt, World.cell?, Array.getElem?_eq_none h'] at h
theorem ErrAt.keep {w w' : World} {L : Blocks} (h : ErrAt w) (hs : St w L w') (hL : 0 ∉ keys L) : ErrAt w' := by
  have h1 := World.cell?_of_block (a := ⟨0, 0, none⟩) (hs.fr 0 h.lt hL)
  exact h1.trans h
theorem as_any (k : Int) (b : Nat) (old : Value) (w : World) (he : ErrAt w) (hw : w.heap[b]? = some (.cells #[old] 24 (0, 0))) :
    C Tryz.prog 57 ⟨[errno k, .iface 92 (pv b 0)]⟩ w fun v w' => v = .bool true ∧ St w [(b, .cells #[iv k] 24 (0, 0))] w' := by
  have h := as_hit k ⟨b, 0, none⟩ old w he (by simp [World.cell?, hw]) (by simp [World.frozen?, hw])
  unfold C
  refine h.mono fun e w' ⟨h1, h2⟩ => ⟨_, h1, rfl, ?_⟩
  subst h2
  have s1 := (((((St.init w).borrow hw (by simp [keys])).alloc (.cells #[.pointer (some ⟨b, 0, none⟩)] 92 (0, 0))).alloc (.cells #[.pointer (some ⟨9, 92, none⟩), .pointer (some ⟨w.heap.size, 0, none⟩), .int .u64 150] 117 (0, 0))).alloc (.cells #[.pointer (some ⟨9, 92, none⟩), .pointer (some ⟨w.heap.size, 0, none⟩), .int .u64 150] 117 (0, 0))).alloc (.cells #[iv k] 24 (0, 0))
  have s2 := s1.ofUpd 4 rfl (upd_setCell (off := 0) (s1.get 4 rfl) (iv k))
  have hsz : ∀ n, w.heap.size ≤ w.heap.size + n := fun n => Nat.le_add_right _ _
  exact (((s2.drop (.inl (by first | (simp; done) | (simp; omega)))).drop (.inl (by first | (simp; done) | (simp; omega)))).drop (.inl (by simp))).drop (.inl (by simp))
theorem tell_nil (w : World) : C Tryz.prog 38 ⟨[.nilIface]⟩ w fun v w' => v = iv 0 ∧ St w [] w' := by
  refine C_enter (n := 10) Tryz.func38 rfl rfl rfl (fun w1 hs1 => ?_)
  refine W_seq ?_
  refine W_region ?_
  refine L0 (wanted_none rfl) rfl (y_assign (v := Value.int _ _) rfl rfl) ?_
  refine Lnil ?_
  refine W_seq ?_
  refine W_seq ?_
  refine W_region ?_
  refine L0 (wanted_none rfl) rfl (y_move (v := _) rfl rfl) ?_
  refine L0 (wanted_none rfl) rfl (y_eqNilNil rfl Tryz.underlying28 rfl) ?_
  refine Lnil ?_
  refine W_condT rfl rfl ?_
  refine W_seq ?_
  refine W_region ?_
  refine L0 (wanted_none rfl) rfl (y_assign (v := Value.int _ _) rfl rfl) ?_
  refine Lnil ?_
  refine W_ret ?_
  refine fin1 (fn := Tryz.f38) rfl rfl ?_
  exact ⟨rfl, hs1⟩
theorem tell_errno (k : Int) (w : World) (he : ErrAt w) : C Tryz.prog 38 ⟨[errno k]⟩ w fun v w' => v = iv k ∧ St w [] w' := by
  refine C_enter (n := 10) Tryz.func38 rfl rfl rfl (fun w1 hs1 => ?_)
  refine W_seq ?_
  refine W_region ?_
  refine L0 (wanted_none rfl) rfl (y_assign (v := Value.int _ _) rfl rfl) ?_
  refine Lnil ?_
  refine W_seq ?_
  refine W_seq ?_
  refine W_region ?_
  refine L0 (wanted_none rfl) rfl (y_move (v := _) rfl rfl) ?_
  refine L0 (wanted_none rfl) rfl (y_eqNil rfl Tryz.underlying28 rfl) ?_
  refine Lnil ?_
  refine W_condF rfl rfl ?_
  refine W_skip ?_
  refine W_seq ?_
  refine W_region ?_
  refine Lc (wanted_none rfl) (c_alloc hs1 rfl rfl zr24 (fun b2 w3 hbb2 hs4 => ?_))
  refine Lnil ?_
  refine W_seq ?_
  refine W_seq ?_
  refine W_region ?_
  refine L0 (wanted_none rfl) rfl (y_move (v := _) rfl rfl) ?_
  refine L0 (wanted_none rfl) rfl (y_mkif rfl Tryz.underlying92 rfl rfl) ?_
  refine Lc (wanted_none rfl) (c_call rfl rfl rfl Tryz.func57 (by kernel_rfl) rfl (as_any k b2 _ w3 (he.keep hs4 (by have := he.lt; simp [keys]; omega)) (hs4.get 0 rfl)) rfl ?_)
  rintro _ w5 ⟨rfl, hc6⟩
  have hs7 := hs4.call1 0 rfl hc6
  refine Lnil ?_
  refine Wkn (t := 8) (b0 := true) rfl (by rfl) (fun h8 => ?_)
  refine W_condT rfl h8 ?_
  refine W_seq ?_
  refine W_region ?_
  refine L1 (wanted_none rfl) rfl hs7 (y_load 0 rfl Tryz.underlying24 rfl rfl rfl rfl) ?_
  refine L0 (wanted_none rfl) rfl (y_assign (v := Value.int _ _) rfl rfl) ?_
  refine Lnil ?_
  refine W_ret ?_
  refine fin1 (fn := Tryz.f38) rfl rfl ?_
  exact ⟨rfl, hs7.drop (.inl hbb2)⟩
theorem y_ta {P : Program} {n : Nat} {e : Env} {o : Oper} {x : Operand} {v u : Value} {xT T : TypeId} (ho : o.op = .typeAssert x xT T true) (hx : opv n e x = v) (h : ∀ w, (Instr.typeAssert v xT T true).run P w = .ok u w) : Y0 P n e o u := fun w => by
  simp only [execOp, ho, hx, Sem.run_bind, h, Result.andThen_ok, Sem.run_pure]
theorem ta_at (k : Int) (xT : TypeId) (w : World) : (Instr.typeAssert (errno k) xT 70 true).run Tryz.prog w = .ok (.tuple #[.pointer none, .bool false]) w := by kernel_rfl
theorem ta_un (k : Int) (xT : TypeId) (w : World) : (Instr.typeAssert (errno k) xT 74 true).run Tryz.prog w = .ok (.tuple #[.nilIface, .bool false]) w :=
  run_typeAssert_lacksB Tryz.underlying74 (by kernel_rfl) (by kernel_rfl) _ _ _
theorem place_nil (w : World) : C Tryz.prog 23 ⟨[.nilIface]⟩ w fun v w' => v = .tuple #[iv 0, iv (-1)] ∧ St w [] w' := by
  refine C_enter (n := 38) Tryz.func23 rfl rfl rfl (fun w1 hs1 => ?_)
  refine W_seq ?_
  refine W_region ?_
  refine L0 (wanted_none rfl) rfl (y_assign (v := Value.int _ _) rfl rfl) ?_
  refine L0 (wanted_none rfl) rfl (y_assign (v := Value.int _ _) rfl rfl) ?_
  refine Lnil ?_
  refine W_seq ?_
  refine W_region ?_
  refine L0 (wanted_none rfl) rfl (y_move (v := _) rfl rfl) ?_
  refine Lc (wanted_none rfl) (c_call rfl rfl rfl Tryz.func38 (by kernel_rfl) rfl (tell_nil w1) rfl ?_)
  rintro _ w2 ⟨rfl, hc3⟩
  have hs4 := hs1.call0 hc3
  refine L0 (wanted_none rfl) rfl (y_assign (v := Value.int _ _) rfl rfl) ?_
  refine Lnil ?_
  refine W_seq ?_
  refine W_block ?_
  refine W_loop (G := Unit) (fun g aL wl => ∃ e, aL = A 38 ((0, .nilIface) :: (4, iv 0) :: e) ∧ St w [] wl) (fun _ => 0) (()) ?_ ?_
  · exact ⟨_, A_pins _ _ [0, 4], hs4⟩
  rintro g _ w5 ⟨ehs6, rfl, hs6⟩
  refine W_seq ?_
  refine W_seq ?_
  refine W_region ?_
  refine L0 (wanted_none rfl) rfl (y_move (v := _) rfl rfl) ?_
  refine L0 (wanted_none rfl) rfl (y_neNilNil rfl Tryz.underlying28 rfl) ?_
  refine Lnil ?_
  refine W_condF rfl rfl ?_
  refine W_exit ?_
  refine W_seq ?_
  refine W_region ?_
  refine L0 (wanted_none rfl) rfl (y_move (v := Value.int _ _) rfl rfl) ?_
  refine L0 (wanted_none rfl) rfl (y_assign (v := Value.int _ _) rfl rfl) ?_
  refine L0 (wanted_none rfl) rfl (y_assign (v := Value.int _ _) rfl rfl) ?_
  refine Lnil ?_
  refine W_ret ?_
  refine fin2 (fn := Tryz.f23) rfl rfl rfl ?_
  exact ⟨rfl, hs6⟩
theorem place_errno (k : Int) (w : World) (he : ErrAt w) : C Tryz.prog 23 ⟨[errno k]⟩ w fun v w' => v = .tuple #[iv k, iv (-1)] ∧ St w [] w' := by
  refine C_enter (n := 38) Tryz.func23 rfl rfl rfl (fun w1 hs1 => ?_)
  refine W_seq ?_
  refine W_region ?_
  refine L0 (wanted_none rfl) rfl (y_assign (v := Value.int _ _) rfl rfl) ?_
  refine L0 (wanted_none rfl) rfl (y_assign (v := Value.int _ _) rfl rfl) ?_
  refine Lnil ?_
  refine W_seq ?_
  refine W_region ?_
  refine L0 (wanted_none rfl) rfl (y_move (v := _) rfl rfl) ?_
  refine Lc (wanted_none rfl) (c_call rfl rfl rfl Tryz.func38 (by kernel_rfl) rfl (tell_errno k w1 (he.keep hs1 (by simp [keys]))) rfl ?_)
  rintro _ w2 ⟨rfl, hc3⟩
  have hs4 := hs1.call0 hc3
  refine L0 (wanted_none rfl) rfl (y_assign (v := Value.int _ _) rfl rfl) ?_
  refine Lnil ?_
  refine W_seq ?_
  refine W_block ?_
  refine W_loop (G := Unit) (fun g aL wl => ∃ e, aL = A 38 ((0, errno k) :: (4, iv k) :: e) ∧ St w [] wl) (fun _ => 0) (()) ?_ ?_
  · exact ⟨_, A_pins _ _ [0, 4], hs4⟩
  rintro g _ w5 ⟨ehs6, rfl, hs6⟩
  refine W_seq ?_
  refine W_seq ?_
  refine W_region ?_
  refine L0 (wanted_none rfl) rfl (y_move (v := _) rfl rfl) ?_
  refine L0 (wanted_none rfl) rfl (y_neNil rfl Tryz.underlying28 rfl) ?_
  refine Lnil ?_
  refine W_condT rfl rfl ?_
  refine W_skip ?_
  refine W_block ?_
  refine W_seq ?_
  refine W_seq ?_
  refine W_region ?_
  refine L0 (wanted_none rfl) rfl (y_move (v := _) rfl rfl) ?_
  refine L0 (wanted_none rfl) rfl (y_ta rfl rfl (ta_at _ _)) ?_
  refine L0 (wanted_none rfl) rfl (y_move (v := Value.tuple ⟨_⟩) rfl rfl) ?_
  refine L0 (wanted_none rfl) rfl (y_extract rfl rfl rfl) ?_
  refine L0 (wanted_none rfl) rfl (y_extract rfl rfl rfl) ?_
  refine L0 (wanted_none rfl) rfl (y_assign (v := Value.pointer _) rfl rfl) ?_
  refine L0 (wanted_none rfl) rfl (y_assign (v := Value.bool _) rfl rfl) ?_
  refine Lnil ?_
  refine W_seq ?_
  refine W_region ?_
  refine L0 (wanted_none rfl) rfl (y_move (v := Value.bool _) rfl rfl) ?_
  refine L0 (wanted_none rfl) rfl (y_move (v := Value.bool _) rfl rfl) ?_
  refine Lkn (t := 19) (b0 := false) rfl (by rfl) (fun h7 => ?_)
  refine Lno (wanted_noB rfl rfl rfl h7 (by decide)) rfl ?_
  refine Lno (wanted_noB rfl rfl rfl h7 (by decide)) rfl ?_
  refine L0 (wanted_none rfl) rfl (y_pickF rfl rfl h7 rfl) ?_
  refine Lnil ?_
  refine W_condF rfl rfl ?_
  refine W_skip ?_
  refine W_seq ?_
  refine W_region ?_
  refine L0 (wanted_none rfl) rfl (y_move (v := _) rfl rfl) ?_
  refine L0 (wanted_none rfl) rfl (y_ta rfl rfl (ta_un _ _)) ?_
  refine L0 (wanted_none rfl) rfl (y_move (v := Value.tuple ⟨_⟩) rfl rfl) ?_
  refine L0 (wanted_none rfl) rfl (y_extract rfl rfl rfl) ?_
  refine L0 (wanted_none rfl) rfl (y_extract rfl rfl rfl) ?_
  refine L0 (wanted_none rfl) rfl (y_assign (v := _) rfl rfl) ?_
  refine L0 (wanted_none rfl) rfl (y_assign (v := Value.bool _) rfl rfl) ?_
  refine Lnil ?_
  refine W_seq ?_
  refine W_seq ?_
  refine W_region ?_
  refine L0 (wanted_none rfl) rfl (y_move (v := Value.bool _) rfl rfl) ?_
  refine L0 (wanted_none rfl) rfl (y_not rfl rfl) ?_
  refine Lnil ?_
  refine Wkn (t := 34) (b0 := true) rfl (by rfl) (fun h8 => ?_)
  refine W_condT rfl h8 ?_
  refine W_exit ?_
  refine W_seq ?_
  refine W_region ?_
  refine L0 (wanted_none rfl) rfl (y_move (v := Value.int _ _) rfl rfl) ?_
  refine L0 (wanted_none rfl) rfl (y_assign (v := Value.int _ _) rfl rfl) ?_
  refine L0 (wanted_none rfl) rfl (y_assign (v := Value.int _ _) rfl rfl) ?_
  refine Lnil ?_
  refine W_ret ?_
  refine fin2 (fn := Tryz.f23) rfl rfl rfl ?_
  exact ⟨rfl, hs6⟩
theorem bare_nil (j : Int) (w : World) : C Tryz.prog 7 ⟨[.nilIface, iv j]⟩ w fun v w' => v = .bool (decide (0 = j)) ∧ St w [] w' := by
  refine C_enter (n := 19) Tryz.func7 rfl rfl rfl (fun w1 hs1 => ?_)
  refine W_seq ?_
  refine W_region ?_
  refine L0 (wanted_none rfl) rfl (y_assign (v := Value.bool _) rfl rfl) ?_
  refine Lnil ?_
  refine W_seq ?_
  refine W_region ?_
  refine L0 (wanted_none rfl) rfl (y_move (v := _) rfl rfl) ?_
  refine Lc (wanted_none rfl) (c_call rfl rfl rfl Tryz.func23 (by kernel_rfl) rfl (place_nil w1) rfl ?_)
  rintro _ w2 ⟨rfl, hc3⟩
  have hs4 := hs1.call0 hc3
  refine L0 (wanted_none rfl) rfl (y_move (v := Value.tuple ⟨_⟩) rfl rfl) ?_
  refine L0 (wanted_none rfl) rfl (y_extract rfl rfl rfl) ?_
  refine L0 (wanted_none rfl) rfl (y_extract rfl rfl rfl) ?_
  refine L0 (wanted_none rfl) rfl (y_assign (v := Value.int _ _) rfl rfl) ?_
  refine L0 (wanted_none rfl) rfl (y_assign (v := Value.int _ _) rfl rfl) ?_
  refine Lnil ?_
  refine W_seq ?_
  refine W_region ?_
  refine L0 (wanted_none rfl) rfl (y_move (v := Value.int _ _) rfl rfl) ?_
  refine L0 (wanted_none rfl) rfl (y_move (v := Value.int _ _) rfl rfl) ?_
  refine L0 (wanted_none rfl) rfl (y_eq rfl rfl rfl) ?_
  refine L0 (wanted_none rfl) rfl (y_move (v := Value.bool _) rfl rfl) ?_
  refine Lsp (t := 15) rfl (fun h5 => ?_) (fun h5 => ?_)
  · have h5' := h5
    first | replace h5' := of_decide_eq_true h5' | replace h5' := bnT' h5' | skip
    refine L0 (wanted_yesB rfl rfl rfl h5) rfl (y_move (v := Value.int _ _) rfl rfl) ?_
    refine L0 (wanted_yesB rfl rfl rfl h5) rfl (y_eq rfl rfl rfl) ?_
    refine L0 (wanted_none rfl) rfl (y_pickT rfl rfl h5 rfl) ?_
    refine L0 (wanted_none rfl) rfl (y_assign (v := Value.bool _) rfl rfl) ?_
    refine Lnil ?_
    refine W_ret ?_
    refine fin1 (fn := Tryz.f7) rfl rfl ?_
    first | exact ⟨congrArg Value.bool (by simp [*]), hs4⟩
  · have h5' := h5
    first | replace h5' := of_decide_eq_false h5' | replace h5' := bnF' h5' | skip
    refine Lno (wanted_noB rfl rfl rfl h5 (by decide)) rfl ?_
    refine Lno (wanted_noB rfl rfl rfl h5 (by decide)) rfl ?_
    refine L0 (wanted_none rfl) rfl (y_pickF rfl rfl h5 rfl) ?_
    refine L0 (wanted_none rfl) rfl (y_assign (v := Value.bool _) rfl rfl) ?_
    refine Lnil ?_
    refine W_ret ?_
    refine fin1 (fn := Tryz.f7) rfl rfl ?_
    first | exact ⟨congrArg Value.bool (by simp [*]), hs4⟩
theorem bare_errno (k j : Int) (w : World) (he : ErrAt w) : C Tryz.prog 7 ⟨[errno k, iv j]⟩ w fun v w' => v = .bool (decide (k = j)) ∧ St w [] w' := by
  refine C_enter (n := 19) Tryz.func7 rfl rfl rfl (fun w1 hs1 => ?_)
  refine W_seq ?_
  refine W_region ?_
  refine L0 (wanted_none rfl) rfl (y_assign (v := Value.bool _) rfl rfl) ?_
  refine Lnil ?_
  refine W_seq ?_
  refine W_region ?_
  refine L0 (wanted_none rfl) rfl (y_move (v := _) rfl rfl) ?_
  refine Lc (wanted_none rfl) (c_call rfl rfl rfl Tryz.func23 (by kernel_rfl) rfl (place_errno k w1 (he.keep hs1 (by simp [keys]))) rfl ?_)
  rintro _ w2 ⟨rfl, hc3⟩
  have hs4 := hs1.call0 hc3
  refine L0 (wanted_none rfl) rfl (y_move (v := Value.tuple ⟨_⟩) rfl rfl) ?_
  refine L0 (wanted_none rfl) rfl (y_extract rfl rfl rfl) ?_
  refine L0 (wanted_none rfl) rfl (y_extract rfl rfl rfl) ?_
  refine L0 (wanted_none rfl) rfl (y_assign (v := Value.int _ _) rfl rfl) ?_
  refine L0 (wanted_none rfl) rfl (y_assign (v := Value.int _ _) rfl rfl) ?_
  refine Lnil ?_
  refine W_seq ?_
  refine W_region ?_
  refine L0 (wanted_none rfl) rfl (y_move (v := Value.int _ _) rfl rfl) ?_
  refine L0 (wanted_none rfl) rfl (y_move (v := Value.int _ _) rfl rfl) ?_
  refine L0 (wanted_none rfl) rfl (y_eq rfl rfl rfl) ?_
  refine L0 (wanted_none rfl) rfl (y_move (v := Value.bool _) rfl rfl) ?_
  refine Lsp (t := 15) rfl (fun h5 => ?_) (fun h5 => ?_)
  · have h5' := h5
    first | replace h5' := of_decide_eq_true h5' | replace h5' := bnT' h5' | skip
    refine L0 (wanted_yesB rfl rfl rfl h5) rfl (y_move (v := Value.int _ _) rfl rfl) ?_
    refine L0 (wanted_yesB rfl rfl rfl h5) rfl (y_eq rfl rfl rfl) ?_
    refine L0 (wanted_none rfl) rfl (y_pickT rfl rfl h5 rfl) ?_
    refine L0 (wanted_none rfl) rfl (y_assign (v := Value.bool _) rfl rfl) ?_
    refine Lnil ?_
    refine W_ret ?_
    refine fin1 (fn := Tryz.f7) rfl rfl ?_
    first | exact ⟨congrArg Value.bool (by simp [*]), hs4⟩
  · have h5' := h5
    first | replace h5' := of_decide_eq_false h5' | replace h5' := bnF' h5' | skip
    refine Lno (wanted_noB rfl rfl rfl h5 (by decide)) rfl ?_
    refine Lno (wanted_noB rfl rfl rfl h5 (by decide)) rfl ?_
    refine L0 (wanted_none rfl) rfl (y_pickF rfl rfl h5 rfl) ?_
    refine L0 (wanted_none rfl) rfl (y_assign (v := Value.bool _) rfl rfl) ?_
    refine Lnil ?_
    refine W_ret ?_
    refine fin1 (fn := Tryz.f7) rfl rfl ?_
    first | exact ⟨congrArg Value.bool (by simp [*]), hs4⟩
end Go.Proofs.YtkolfgmpmnelmabGreatDoor
