/-
  Walks: (*zone.Device).Put, Sync.
-/
import Derived.Test.YtkolfgmpmnelmabDoorZ3
namespace Go.Proofs.YtkolfgmpmnelmabDoor
open Go Vx Go.Proofs
set_option linter.unusedVariables false
set_option maxRecDepth 4000
set_option maxHeartbeats 400000

theorem Vx.St.at1 {W0 w : World} {b : Nat} {c c' : Array Value} {T : TypeId} {fz : Nat × Nat} {y : Nat × Obj} {L : Blocks} (h : St W0 (y :: (b, .cells c T fz) :: L) w) (e : c = c') : St W0 (y :: (b, .cells c' T fz) :: L) w := e ▸ h
section
variable {P : Program} {n : Nat} {e : Env} {o : Oper} {x y : Operand} {ty : TypeId} {w0 : World} {L : Blocks} {d : TypeDesc}
theorem y_indexRow {B E s m el : Nat} {v : Value} {xs : List Value} {ent : Blocks} {k : IntKind} {i : Int} (ho : o.op = .indexAddr ty x y) (ht : P.underlying ty = some (.slice el)) (hs : (P.info? el).map (·.size) = some s) (hx : opv n e x = v) (hy : opv n e y = .int k i) (hr : Row B E s v m xs ent) (h0 : 0 ≤ i) (h1 : i < m) : Y0 P n e o (pv (adB v) (adO v + i.toNat * s)) := by
  rcases hr.2 with ⟨_, h, _⟩ | ⟨g, cap, cur, fz, rfl, _⟩
  · omega
  · exact y_indexSl ho ht hs hx hy h0 h1
theorem y_loadRowN {B E s m : Nat} {v : Value} {xs : List Value} {ent : Blocks} {i : Int} (j : Nat) (ho : o.op = .load ty x) (ht : P.underlying ty = some d) (hd : isAggB d = true) (hsz : (P.info? ty).map (·.size) = some s) (hx : opv n e x = pv (adB v) (adO v + i.toNat * s)) (hr : Row B E s v m xs ent) (hin : ∀ x ∈ ent, x ∈ L) (hj : i.toNat = j) (h1 : j < m) {vs : List Value} (hvs : (xs.drop (j * s)).take s = vs) : Y1 P n e o (St w0 L) (.agg ⟨vs⟩) := by
  subst hj
  rcases hr.2 with ⟨_, h, _⟩ | ⟨g, cap, cur, fz, rfl, rfl, h3, h4, h5, h6, h7, h8⟩
  · omega
  · obtain ⟨k, hk⟩ := List.mem_iff_getElem?.1 (hin (g, .cells cur E fz) (by simp))
    have hle : (i.toNat + 1) * s ≤ m * s := Nat.mul_le_mul_right s h1
    have hle2 : m * s ≤ cap * s := Nat.mul_le_mul_right s h4
    rw [Nat.add_mul, Nat.one_mul] at hle
    have hy := y_loadN (P := P) (n := n) (e := e) (w0 := w0) (o := o) (off := adO (.slice (some ⟨g, 0, none⟩) m cap) + i.toNat * s) k ho ht hd hsz hx hk (by show 0 + i.toNat * s + s ≤ cur.size; omega)
    have e2 : ((cur.toList.drop (adO (.slice (some ⟨g, 0, none⟩) m cap) + i.toNat * s)).take s) = vs := by
      rw [← hvs, ← h7, show adO (.slice (some ⟨g, 0, none⟩) m cap) = 0 from rfl, Nat.zero_add, List.drop_take, List.take_take, Nat.min_eq_left (by omega)]
    rw [e2] at hy; exact hy
end
theorem flatW_at : ∀ (l : List (Nat × List UInt8)) (i : Nat), i < l.length → ((flatW l).drop (i * 2)).take 2 = [iv ((l.getD i (0, [])).1 : Int), str (l.getD i (0, [])).2]
  | [], i, h => absurd h (Nat.not_lt_zero _)
  | p :: r, 0, _ => rfl
  | p :: r, i + 1, h => by
    have : (i + 1) * 2 = i * 2 + 2 := by omega
    rw [flatW, this, List.drop_succ_cons, List.drop_succ_cons, flatW_at r i (by simpa using h)]
    simp
def landF (slot : Nat → List UInt8) (l : List (Nat × List UInt8)) (g : Nat → Bool) : Nat → (Nat → List UInt8)
  | 0 => slot
  | k + 1 => if g k = true then updF (landF slot l g k) (l.getD k (0, [])).1 (l.getD k (0, [])).2 else landF slot l g k
def sureF (z : Nat → List (List UInt8)) (sure : Nat → Nat) (k : Nat) : Nat → Nat := fun j => if j < k then (z j).length else sure j
theorem sureF_zero (z : Nat → List (List UInt8)) (sure : Nat → Nat) : sureF z sure 0 = sure := by funext j; simp [sureF]
theorem sureF_succ (z : Nat → List (List UInt8)) (sure : Nat → Nat) (k : Nat) : updF (sureF z sure k) k (z k).length = sureF z sure (k + 1) := by
  funext j
  by_cases h : j = k
  · subst h; rw [updF_at, sureF, if_pos (by omega)]
  · rw [updF_ne _ _ h, sureF, sureF]
    by_cases h2 : j < k
    · rw [if_pos h2, if_pos (by omega)]
    · rw [if_neg h2, if_neg (by omega)]
theorem put_ok {W0 : World} {K : Blocks} {b : Nat} {D : Dv} {w : World} {vz : Nat → Value} {vw : Value} {went rows : Blocks} (h : DSt W0 K b D w vz vw went rows) (hf : D.fuse < 0) (i : Nat) (s : List UInt8) (h1 : i < 2) (hs : s.length ≤ 500) (hw : D.wait.length ≤ 1000) :
    C Tryd.prog 36 ⟨[pv b 0, iv i, str s]⟩ w fun v w' => ∃ vw' went', v = .nilIface ∧ DSt W0 K b { D with wait := D.wait ++ [(i, fillN s 500)] } w' vz vw' went' rows := by
  refine C_enter (n := 38) Tryd.func36 rfl rfl rfl (fun w1 hs1 => ?_)
  have hs0 := (h.st.call0 hs1).perm List.perm_middle
  refine W_seq ?_
  refine W_region ?_
  refine L0 (wanted_none rfl) rfl (y_assign (v := Value.nilIface) rfl rfl) ?_
  refine Lnil ?_
  refine W_seq ?_
  refine W_block ?_
  refine W_seq ?_
  refine W_region ?_
  refine L0 (wanted_none rfl) rfl (y_move (v := Value.int _ _) rfl rfl) ?_
  refine L0 (wanted_none rfl) rfl (y_lt rfl rfl rfl) ?_
  refine L0 (wanted_none rfl) rfl (y_move (v := Value.bool _) rfl rfl) ?_
  refine Lkn (t := 10) (b0 := false) rfl (by first | exact decide_eq_false (by omega) | exact bnF (by omega) | (simp; omega)) (fun h2 => ?_)
  refine L0 (wanted_yesB rfl rfl rfl h2) rfl (y_move (v := Value.int _ _) rfl rfl) ?_
  refine L0 (wanted_yesB rfl rfl rfl h2) rfl (y_gt rfl rfl rfl) ?_
  refine L0 (wanted_none rfl) rfl (y_pickF rfl rfl h2 rfl) ?_
  refine L0 (wanted_none rfl) rfl (y_assign (v := Value.bool _) rfl rfl) ?_
  refine Lnil ?_
  refine Wkn (t := 7) (b0 := false) rfl (by first | exact decide_eq_false (by omega) | exact bnF (by omega) | (simp; omega)) (fun h3 => ?_)
  refine W_condF rfl h3 ?_
  refine W_seq ?_
  refine W_region ?_
  refine L0 (wanted_none rfl) rfl (y_move (v := Value.string ⟨⟨_⟩⟩) rfl rfl) ?_
  refine L0 (wanted_none rfl) rfl (y_len rfl Tryd.underlying9 rfl) ?_
  refine L0 (wanted_none rfl) rfl (y_gt rfl rfl rfl) ?_
  refine L0 (wanted_none rfl) rfl (y_assign (v := Value.bool _) rfl rfl) ?_
  refine Lnil ?_
  refine Wkn (t := 15) (b0 := false) rfl (by first | exact decide_eq_false (by omega) | exact bnF (by omega) | (simp; omega)) (fun h4 => ?_)
  refine W_condF rfl h4 ?_
  refine W_seq ?_
  refine W_region ?_
  refine L0 (wanted_none rfl) rfl (y_move (v := Value.pointer _) rfl rfl) ?_
  refine Lc (wanted_none rfl) (c_call rfl rfl rfl Tryd.func67 (by kernel_rfl) rfl (burn_neg b _ _ _ _ _ hf w1 (hs0.get 0 rfl)) rfl ?_)
  rintro _ w5 ⟨rfl, hc6⟩
  have hs7 := hs0.call0 hc6
  refine L0 (wanted_none rfl) rfl (y_not rfl rfl) ?_
  refine L0 (wanted_none rfl) rfl (y_assign (v := Value.bool _) rfl rfl) ?_
  refine Lnil ?_
  refine Wkn (t := 20) (b0 := false) rfl (by rfl) (fun h8 => ?_)
  refine W_condF rfl h8 ?_
  refine W_skip ?_
  refine W_seq ?_
  refine W_drawSt [(0, 0), (0, 1), (0, 5), (0, 6), (0, 2), (0, 3), (1, 4), (3, 7), (0, 8), (3, 9), (2, 10), (0, 11), (0, 12), (2, 13)] hs7 mixed (by kernel_rfl) (fun w9 hs10 => ?_)
  refine E0 (wanted_none rfl) rfl (y_move (v := Value.pointer _) rfl rfl) ?_
  refine E0 (wanted_none rfl) rfl (y_move (v := Value.pointer _) rfl rfl) ?_
  refine E0 (wanted_none rfl) rfl (y_move (v := Value.int _ _) rfl rfl) ?_
  refine E0 (wanted_none rfl) rfl (y_move (v := Value.string ⟨⟨_⟩⟩) rfl rfl) ?_
  refine E0 (wanted_none rfl) rfl (y_nilCheck rfl rfl) ?_
  refine E0 (wanted_none rfl) rfl (y_fieldAddr rfl Tryd.underlying104 rfl sz102 rfl) ?_
  refine E1 hs10 (wanted_none rfl) rfl (y_load 0 rfl Tryd.underlying102 rfl rfl rfl rfl) ?_
  refine E3 (wanted_none rfl) (c_call rfl rfl rfl Tryd.func69 (by kernel_rfl) rfl (fill_any s 500 (by decide) (by omega) w9) rfl ?_)
  rintro _ w11 ⟨rfl, hc12⟩
  have hs13 := hs10.call0 hc12
  refine ⟨fun _ => hs13, ?_⟩
  refine E0 (wanted_none rfl) rfl (y_buildSG (places := #[(0, 1), (1, 1)]) (cells := [iv i, str (fillN s 500)]) rfl Tryd.underlying137 zr137 (fun w => by kernel_rfl) (by kernel_rfl)) ?_
  refine E3 (wanted_none rfl) (c_buildSlice (cells := [iv i, str (fillN s 500)]) hs13 rfl rfl Tryd.underlying102 sz137 zr137 (by decide) (by kernel_rfl) (fun b14 w15 hbb14 hs16 => ?_))
  refine ⟨fun _ => hs16.drop (.inl hbb14), ?_⟩
  refine E2 (wanted_none rfl) (c_appendG (L0 := (b14, .cells ⟨[iv i, str (fillN s 500)]⟩ 137 (0, 0)) :: (b, .cells ⟨dcells vz D.sure D.slot vw D.fuse⟩ 104 (0, 0)) :: (K ++ rows)) (ent := went) hs16 (perm_ct (fun a => by simp only [ct_append, ct_cons]; omega)) rfl rfl Tryd.underlying102 sz137 zr137 by137 rfl rfl h.rw (Nat.le_refl _) (fun x hx => .inl (h.rw.new x hx)) rfl (Src.ofBlock (kk := 1) (hs16.get 0 rfl) rfl) (by simp [Value.oneCell']) (by omega) (by omega) (fun vN entN w17 hrow' hn19 hs18 => ?_))
  have hrow := hrow'
  have hnew_hrow := hn19
  have hN := hrow.new
  have hN1 := hrow.one
  have hs18 := (hs18.re (L' := (b14, .cells ⟨[iv i, str (fillN s 500)]⟩ 137 (0, 0)) :: (b, .cells ⟨dcells vz D.sure D.slot vw D.fuse⟩ 104 (0, 0)) :: (entN ++ (K ++ rows))) (fun a => by simp only [ct_append, ct_cons]; omega)).drop (.inl hbb14)
  refine E0 (wanted_none rfl) rfl (y_nilCheck rfl rfl) ?_
  refine E0 (wanted_none rfl) rfl (y_fieldAddr rfl Tryd.underlying104 rfl sz102 rfl) ?_
  refine E2 (wanted_none rfl) (c_store (i := 0) (v := vN) hs18 rfl rfl rfl rfl sz102 hN1 rfl (by (show 18 < 20; omega)) (Fz.zero _) (fun w20 hs21 => ?_))
  have hs21 := hs21.at0 (c' := ⟨dcells vz D.sure D.slot vN D.fuse⟩) rfl
  refine Enil ?_
  refine W_seq ?_
  refine W_region ?_
  refine L0 (wanted_none rfl) rfl (y_assign (v := Value.nilIface) rfl rfl) ?_
  refine Lnil ?_
  refine W_ret ?_
  refine fin1 (fn := Tryd.f36) rfl rfl ?_
  refine ⟨vN, entN, rfl, ?_⟩
  refine ⟨hs21.re (fun a => by simp only [ct_append, ct_cons]; omega), h.rz, ?_, h.newb, h.newr⟩
  rw [List.length_append, flatW_append]; exact hrow
end Go.Proofs.YtkolfgmpmnelmabDoor
