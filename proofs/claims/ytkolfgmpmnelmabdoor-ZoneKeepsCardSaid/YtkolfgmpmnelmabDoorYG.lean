/-
  Walks: an image that came in is laid down: ours, the reference's; the reference's Image, NewDevice.
-/
import Derived.Test.YtkolfgmpmnelmabDoorYF
namespace Go.Proofs.YtkolfgmpmnelmabDoor
open Go Vx Go.Proofs
set_option linter.unusedVariables false
set_option maxRecDepth 4000
set_option maxHeartbeats 1000000

/-- A slice of strings that came in. -/
def SlW (w : World) (v : Value) (l : List (List UInt8)) : Prop := Sl w v l.length (zstrs l) ∧ ∃ a cap, v = .slice a l.length cap ∧ l.length ≤ cap ∧ (a = none ∨ (∃ b off, a = some ⟨b, off, none⟩) ∨ cap = 0)
section
variable {P : Program} {n : Nat} {e : Env} {o : Oper} {x : Operand} {ty : TypeId}
theorem y_slHi3 {el s m cap : Nat} {a : Option Addr} {k : IntKind} {j : Int} {hi : Operand} (ho : o.op = .slice ty x none (some hi) none) (ht : P.underlying ty = some (.slice el)) (hs : (P.info? el).map (·.size) = some s) (hx : opv n e x = .slice a m cap) (ha : a = none ∨ (∃ b off, a = some ⟨b, off, none⟩) ∨ cap = 0) (hhi : opv n e hi = .int k j)
    (h : 0 ≤ j ∧ j ≤ cap) : Y0 P n e o (.slice a j.toNat cap) := by
  rcases ha with ha | ha | ha
  · exact y_slHi ho ht hs hx (.inl ha) hhi h
  · exact y_slHi ho ht hs hx (.inr ha) hhi h
  · subst ha
    intro w
    have h1 : 0 ≤ j ∧ j ≤ ((0 : Nat) : Int) := h
    simp only [execOp, ho, hx, hhi, Option.map_some, Option.map_none, Instr.sliceAt, Instr.slice, Instr.sliceBounds, Instr.sliceBound, asIntOf, Sem.run_bind, Sem.run_pure, Result.andThen_ok, run_underlying ht, Option.isSome_none, Bool.false_eq_true, if_false, if_pos h1, run_sizeOf' hs, Nat.sub_zero, Nat.zero_mul]
    cases a <;> simp
end
theorem Vx.Sl.headW {w : World} {a : Option Addr} {cap : Nat} {l : List (List UInt8)} (h : Sl w (.slice a l.length cap) l.length (zstrs l)) {n : Nat} (hn : n ≤ l.length) : Sl w (.slice a n cap) (l.take n).length (zstrs (l.take n)) := by
  have hl : (l.take n).length = n := by rw [List.length_take]; omega
  rw [hl]
  have e1 : adB (.slice a n cap) = adB (.slice a l.length cap) := by cases a <;> rfl
  have e2 : adO (.slice a n cap) = adO (.slice a l.length cap) := by cases a <;> rfl
  obtain ⟨a', cap', h1, h2⟩ := h.shape
  cases h1
  refine ⟨⟨a, cap, rfl, fun h0 => ?_⟩, fun j hj => ?_⟩
  · rw [e1, e2]; exact h2 (by omega)
  · rw [e1, e2, h.cell j (by omega)]
    show some (str (l.getD j [])) = some (str ((l.take n).getD j []))
    rw [getD_takeL hj]
theorem freshL {n b : Nat} {o : Obj} {L : Blocks} (hb : n ≤ b) (hL : ∀ x ∈ L, n ≤ x.1) : ∀ x ∈ ((b, o) :: L), n ≤ x.1 := fun x hx => by
  rcases List.mem_cons.1 hx with rfl | hx
  · exact hb
  · exact hL x hx
theorem fresh1 {n b : Nat} {o : Obj} {L : Blocks} (hb : n ≤ b) (hL : ∀ x ∈ L, n ≤ x.1) : ∀ x ∈ ((b, o) :: L), n ≤ x.1 := freshL hb hL
theorem freshA {n : Nat} {L M : Blocks} (hL : ∀ x ∈ L, n ≤ x.1) (hM : ∀ x ∈ M, n ≤ x.1) : ∀ x ∈ L ++ M, n ≤ x.1 := fun x hx => (List.mem_append.1 hx).elim (hL x) (hM x)
theorem lay_in {W0 : World} {K : Blocks} {b : Nat} {D : Dv} {w : World} {vz : Nat → Value} {vw : Value} {went rows : Blocks} (h : St W0 (K ++ ((b, .cells ⟨dcells vz D.sure D.slot vw D.fuse⟩ 104 (0, 0)) :: (went ++ rows))) w) (hnb : W0.heap.size ≤ b) (hnw : ∀ x ∈ went, W0.heap.size ≤ x.1) (hnr : ∀ x ∈ rows, W0.heap.size ≤ x.1)
    (vs : Nat → Value) (zi : Nat → List (List UInt8)) (si : Nat → List UInt8) (hin : ∀ j, j < 8 → ∀ w' L', St W0 (K ++ L') w' → (∀ x ∈ L', W0.heap.size ≤ x.1) → SlW w' (vs j) (zi j)) (hzl : ∀ j, j < 8 → (zi j).length ≤ 1000 ∧ ∀ k, ((zi j).getD k []).length ≤ 1000000) (hsl : ∀ j, (si j).length ≤ 1000000) :
    C Tryd.prog 44 ⟨[pv b 0, .agg ⟨icells vs si⟩]⟩ w fun v w' => ∃ vz' rows', v = .tuple #[] ∧ DSt W0 K b { z := lyZ zi, sure := sureF (lyZ zi) D.sure 8, slot := lyL si D.slot 2, wait := [], fuse := D.fuse } w' vz' (.slice none 0 0) [] rows' := by
  refine C_enter (n := 77) Tryd.func44 rfl rfl rfl (fun w1 hs1 => ?_)
  have hs0 := (h.call0 hs1).perm List.perm_middle
  refine W_seq ?_
  refine W_region ?_
  refine Lc (wanted_none rfl) (c_box hs0 rfl rfl rfl (fun b2 w3 hbb2 hs4 => ?_))
  have hs4 := hs4.perm (List.Perm.swap _ _ _)
  refine Lnil ?_
  refine W_seq ?_
  refine W_seq ?_
  refine W_region ?_
  refine L0 (wanted_none rfl) rfl (y_fieldAddr rfl Tryd.underlying59 rfl sz29 rfl) ?_
  refine L1 (wanted_none rfl) rfl hs4 ((y_loadN 1 rfl Tryd.underlying29 rfl sz29 rfl rfl (by show 0 + 8 ≤ 10; omega))) ?_
  refine L0 (wanted_none rfl) rfl (y_move (v := Value.int _ _) rfl rfl) ?_
  refine Lnil ?_
  refine W_block ?_
  refine W_loop (G := Nat × (Nat → Value) × Blocks) (fun g aL wl => ∃ e, aL = A 77 ((12, iv g.1) :: (11, .agg ⟨zs8 vs⟩) :: (0, pv b 0) :: (3, pv b2 0) :: e) ∧ g.1 ≤ 8 ∧ (∀ j, j < g.1 → RowIn g.2.2 (g.2.1 j) (lyZ zi j)) ∧ (∀ x ∈ g.2.2, W0.heap.size ≤ x.1) ∧ St W0 ((b, .cells ⟨dcells g.2.1 (sureF (lyZ zi) D.sure g.1) D.slot vw D.fuse⟩ 104 (0, 0)) :: (b2, .cells ⟨icells vs si⟩ 59 (0, 0)) :: (g.2.2 ++ (K ++ (went ++ rows)))) wl) (fun g => 8 - g.1) ((0, vz, [])) ?_ ?_
  · exact ⟨_, A_pins _ _ [12, 11, 0, 3], Nat.zero_le _, (fun j hj => absurd hj (Nat.not_lt_zero _)), (fun x hx => by cases hx), by (dsimp only); rw [sureF_zero]; exact hs4⟩
  rintro g _ w5 ⟨ehs6, rfl, hi, hR, hI, hs6⟩
  obtain ⟨i, vz2, rowsN⟩ := g
  dsimp only at *
  refine W_seq ?_
  refine W_region ?_
  refine L0 (wanted_none rfl) rfl (y_lt rfl rfl rfl) ?_
  refine Lnil ?_
  refine W_seq ?_
  refine Wsp (t := 13) rfl (fun h7 => ?_) (fun h7 => ?_)
  · have h7' := h7
    first | replace h7' := of_decide_eq_true h7' | replace h7' := bnT' h7' | skip
    refine W_condT rfl h7 ?_
    refine W_skip ?_
    refine W_seq ?_
    refine W_block ?_
    refine W_seq ?_
    obtain ⟨a, cap, hv, hle, ha⟩ := (hin i (by omega) _ _ h (freshL hnb (freshA hnw hnr))).2
    have hRi := hin i (by omega)
    rw [hv] at hRi
    have hz := hzl i (by omega)
    refine W_region ?_
    refine L0 (wanted_none rfl) rfl (y_move (v := Value.int _ _) rfl rfl) ?_
    refine L0 (wanted_none rfl) rfl (y_iarr rfl Tryd.underlying29 Tryd.underlying22 rfl sz22 rfl rfl (by omega) (by omega) (zs8_at (by omega) (by omega) hv)) ?_
    refine L0 (wanted_none rfl) rfl (y_assign (v := Value.int _ _) rfl rfl) ?_
    refine L0 (wanted_none rfl) rfl (y_assign (v := Value.slice _ _ _) rfl rfl) ?_
    refine Lnil ?_
    refine W_seq ?_
    refine W_region ?_
    refine L0 (wanted_none rfl) rfl (y_move (v := Value.pointer _) rfl rfl) ?_
    refine L0 (wanted_none rfl) rfl (y_move (v := Value.int _ _) rfl rfl) ?_
    refine L0 (wanted_none rfl) rfl (y_nilCheck rfl rfl) ?_
    refine L0 (wanted_none rfl) rfl (y_fieldAddr rfl Tryd.underlying104 rfl sz29 rfl) ?_
    refine L0 (wanted_none rfl) rfl (y_indexArr rfl Tryd.underlying29 sz22 rfl rfl (by omega) (by omega)) ?_
    refine Lc (wanted_none rfl) (c_store (i := 0) (v := .slice none 0 0) hs6 rfl rfl rfl rfl sz22 rfl rfl (by (show 0 + 0 + (i : Int).toNat * 1 < 20; omega)) (Fz.zero _) (fun w8 hs9 => ?_))
    have hs9 := hs9.at0 (dc_setz _ _ _ _ _ (by omega) (by omega) _)
    refine Lnil ?_
    refine W_seq ?_
    refine W_seq ?_
    refine W_region ?_
    refine L0 (wanted_none rfl) rfl (y_move (v := Value.slice _ _ _) rfl rfl) ?_
    refine L0 (wanted_none rfl) rfl (y_move (v := Value.slice _ _ _) rfl rfl) ?_
    refine L0 (wanted_none rfl) rfl (y_slen rfl Tryd.underlying22 rfl) ?_
    refine L0 (wanted_none rfl) rfl (y_min rfl rfl rfl) ?_
    refine L0 (wanted_none rfl) rfl (y_slHi3 rfl Tryd.underlying22 sz9 rfl ha rfl (by omega)) ?_
    refine L0 (wanted_none rfl) rfl (y_slen rfl Tryd.underlying22 rfl) ?_
    refine L0 (wanted_none rfl) rfl (y_move (v := Value.int _ _) rfl rfl) ?_
    refine Lnil ?_
    refine W_block ?_
    refine W_loop (G := Nat × Value × Blocks) (fun gg aL wl => ∃ e, aL = A 77 ((27, iv gg.1) :: (26, iv ((min ((zi i).length : Int) 16).toNat : Int)) :: (25, .slice a (min ((zi i).length : Int) 16).toNat cap) :: (4, iv i) :: (0, pv b 0) :: (12, iv i) :: (11, .agg ⟨zs8 vs⟩) :: (3, pv b2 0) :: e) ∧ gg.1 ≤ (min ((zi i).length : Int) 16).toNat ∧ Row W0.heap.size 9 1 gg.2.1 gg.1 ((((zi i).take gg.1).map fun s => fillN s 128).map str) gg.2.2 ∧ St W0 ((b, .cells ⟨dcells (updF vz2 i gg.2.1) (sureF (lyZ zi) D.sure i) D.slot vw D.fuse⟩ 104 (0, 0)) :: (b2, .cells ⟨icells vs si⟩ 59 (0, 0)) :: (gg.2.2 ++ (rowsN ++ (K ++ (went ++ rows))))) wl) (fun g => (min ((zi i).length : Int) 16).toNat - g.1) ((0, .slice none 0 0, [])) ?_ ?_
    · exact ⟨_, A_pins _ _ [27, 26, 25, 4, 0, 12, 11, 3], Nat.zero_le _, Row.nil _ _ _, hs9⟩
    rintro gg _ w10 ⟨ehs11, rfl, hj, hrow, hs11⟩
    obtain ⟨j, vv, ent⟩ := gg
    dsimp only at *
    have hRm := fun w2 L2 h2 hf2 => ((hRi w2 L2 h2 hf2).1).headW (n := (min ((zi i).length : Int) 16).toNat) (by omega)
    refine W_seq ?_
    refine W_region ?_
    refine L0 (wanted_none rfl) rfl (y_lt rfl rfl rfl) ?_
    refine Lnil ?_
    refine W_seq ?_
    refine Wsp (t := 28) rfl (fun h12 => ?_) (fun h12 => ?_)
    · have h12' := h12
      first | replace h12' := of_decide_eq_true h12' | replace h12' := bnT' h12' | skip
      refine W_condT rfl h12 ?_
      refine W_skip ?_
      refine W_seq ?_
      refine W_block ?_
      refine W_seq ?_
      refine W_region ?_
      refine L0 (wanted_none rfl) rfl (y_indexSlAt rfl Tryd.underlying22 sz9 rfl rfl (hRm w10 _ (hs11.re (L' := K ++ ((b, .cells ⟨dcells (updF vz2 i vv) (sureF (lyZ zi) D.sure i) D.slot vw D.fuse⟩ 104 (0, 0)) :: (b2, .cells ⟨icells vs si⟩ 59 (0, 0)) :: (ent ++ (rowsN ++ (went ++ rows))))) (fun a => by simp only [ct_append, ct_cons, ct_nil]; omega)) (freshL hnb (fresh1 hbb2 (freshA hrow.new (freshA hI (freshA hnw hnr)))))) (by omega) (by rw [List.length_take]; omega)) ?_
      refine L1 (wanted_none rfl) rfl hs11 ((y_loadAny j rfl Tryd.underlying9 rfl rfl (fun w2 h2 => hRm w2 _ (h2.re (L' := K ++ ((b, .cells ⟨dcells (updF vz2 i vv) (sureF (lyZ zi) D.sure i) D.slot vw D.fuse⟩ 104 (0, 0)) :: (b2, .cells ⟨icells vs si⟩ 59 (0, 0)) :: (ent ++ (rowsN ++ (went ++ rows))))) (fun a => by simp only [ct_append, ct_cons, ct_nil]; omega)) (freshL hnb (fresh1 hbb2 (freshA hrow.new (freshA hI (freshA hnw hnr)))))) rfl (by rw [List.length_take]; omega))) ?_
      refine L0 (wanted_none rfl) rfl (y_assign (v := Value.string ⟨⟨_⟩⟩) rfl rfl) ?_
      refine Lnil ?_
      refine W_drawSt [(0, 0), (0, 1), (0, 2), (0, 3), (0, 8), (0, 4), (0, 12), (0, 5), (0, 13), (0, 6), (1, 7), (3, 9), (3, 10), (2, 11), (0, 14), (2, 15)] hs11 mixed (by kernel_rfl) (fun w13 hs14 => ?_)
      refine E0 (wanted_none rfl) rfl (y_move (v := Value.pointer _) rfl rfl) ?_
      refine E0 (wanted_none rfl) rfl (y_move (v := Value.int _ _) rfl rfl) ?_
      refine E0 (wanted_none rfl) rfl (y_move (v := Value.pointer _) rfl rfl) ?_
      refine E0 (wanted_none rfl) rfl (y_move (v := Value.int _ _) rfl rfl) ?_
      refine E0 (wanted_none rfl) rfl (y_move (v := Value.string ⟨⟨_⟩⟩) rfl rfl) ?_
      refine E0 (wanted_none rfl) rfl (y_nilCheck rfl rfl) ?_
      refine E0 (wanted_none rfl) rfl (y_nilCheck rfl rfl) ?_
      refine E0 (wanted_none rfl) rfl (y_fieldAddr rfl Tryd.underlying104 rfl sz29 rfl) ?_
      refine E0 (wanted_none rfl) rfl (y_fieldAddr rfl Tryd.underlying104 rfl sz29 rfl) ?_
      refine E0 (wanted_none rfl) rfl (y_indexArr rfl Tryd.underlying29 sz22 rfl rfl (by omega) (by omega)) ?_
      refine E1 hs14 (wanted_none rfl) rfl (y_load 0 rfl Tryd.underlying22 rfl rfl rfl (dc_zv (by omega) (by omega) (updF_at _ _ _))) ?_
      refine E3 (wanted_none rfl) (c_call rfl rfl rfl Tryd.func69 (by kernel_rfl) rfl (fill_any _ 128 (by decide) (by rw [getD_takeL (by omega)]; exact hz.2 j) w13) rfl ?_)
      rintro _ w15 ⟨rfl, hc16⟩
      have hs17 := hs14.call0 hc16
      refine ⟨fun _ => hs17, ?_⟩
      refine E3 (wanted_none rfl) (c_bs1 (v0 := str _) hs17 rfl rfl Tryd.underlying22 sz9 zr9 rfl rfl  (fun b18 w19 hbb18 hs20 => ?_))
      refine ⟨fun _ => hs20.drop (.inl hbb18), ?_⟩
      refine E2 (wanted_none rfl) (c_appendG (L0 := (b18, .cells ⟨[str (fillN (((zi i).take (min ((zi i).length : Int) 16).toNat).getD j []) 128)]⟩ 9 (0, 0)) :: (b, .cells ⟨dcells (updF vz2 i vv) (sureF (lyZ zi) D.sure i) D.slot vw D.fuse⟩ 104 (0, 0)) :: (b2, .cells ⟨icells vs si⟩ 59 (0, 0)) :: (rowsN ++ (K ++ (went ++ rows)))) (ent := ent) hs20 (perm_ct (fun a => by simp only [ct_append, ct_cons]; omega)) rfl rfl Tryd.underlying22 sz9 zr9 by9 rfl rfl hrow (Nat.le_refl _) (fun x hx => .inl (hrow.new x hx)) rfl (Src.ofBlock (kk := 1) (hs20.get 0 rfl) rfl) (by simp [Value.oneCell']) (by omega) (by omega) (fun vN entN w21 hrow' hn23 hs22 => ?_))
      have hrow := hrow'
      have hnew_hrow := hn23
      have hN1 := hrow.one
      have hs22 := (hs22.re (L' := (b18, .cells ⟨[str (fillN (((zi i).take (min ((zi i).length : Int) 16).toNat).getD j []) 128)]⟩ 9 (0, 0)) :: (b, .cells ⟨dcells (updF vz2 i vv) (sureF (lyZ zi) D.sure i) D.slot vw D.fuse⟩ 104 (0, 0)) :: (b2, .cells ⟨icells vs si⟩ 59 (0, 0)) :: (entN ++ (rowsN ++ (K ++ (went ++ rows))))) (fun a => by simp only [ct_append, ct_cons]; omega)).drop (.inl hbb18)
      refine E0 (wanted_none rfl) rfl (y_indexArr rfl Tryd.underlying29 sz22 rfl rfl (by omega) (by omega)) ?_
      refine E2 (wanted_none rfl) (c_store (i := 0) (v := vN) hs22 rfl rfl rfl rfl sz22 hN1 rfl (by (show 0 + 0 + (i : Int).toNat * 1 < 20; omega)) (Fz.zero _) (fun w24 hs25 => ?_))
      have hs25 := (hs25.at0 (dc_setz _ _ _ _ _ (by omega) (by omega) _)).at0 (congrArg (fun f => (⟨dcells f (sureF (lyZ zi) D.sure i) D.slot vw D.fuse⟩ : Array Value)) (updF_updF vz2 i vv vN))
      refine Enil ?_
      refine W_region ?_
      refine L0 (wanted_none rfl) rfl (y_add64 rfl rfl rfl (by omega)) ?_
      refine L0 (wanted_none rfl) rfl (y_move (v := Value.int _ _) rfl rfl) ?_
      refine Lnil ?_
      exact ⟨(j + 1, vN, entN), by first | omega | (dsimp only; done) | (dsimp only; omega), _, A_c (iv_eq (by first | omega | (dsimp only; done) | (dsimp only; omega))) (A_c rfl (A_c rfl (A_c rfl (A_c rfl (A_c rfl (A_c rfl (A_c rfl (rfl)))))))), by first | omega | (dsimp only; done) | (dsimp only; omega), by (dsimp only); rw [fill_take (m := (min ((zi i).length : Int) 16).toNat) (by omega) (by omega), List.map_append]; exact hrow, hs25⟩
    · have h12' := h12
      first | replace h12' := of_decide_eq_false h12' | replace h12' := bnF' h12' | skip
      refine W_condF rfl h12 ?_
      refine W_exit ?_
      obtain rfl : j = (min ((zi i).length : Int) 16).toNat := by omega
      refine W_drawSt [(0, 0), (0, 1), (0, 2), (0, 3), (0, 4), (0, 9), (0, 5), (0, 10), (0, 6), (1, 7), (0, 8), (0, 11), (2, 12)] hs11 mixed (by kernel_rfl) (fun w26 hs27 => ?_)
      refine E0 (wanted_none rfl) rfl (y_move (v := Value.pointer _) rfl rfl) ?_
      refine E0 (wanted_none rfl) rfl (y_move (v := Value.int _ _) rfl rfl) ?_
      refine E0 (wanted_none rfl) rfl (y_move (v := Value.pointer _) rfl rfl) ?_
      refine E0 (wanted_none rfl) rfl (y_move (v := Value.int _ _) rfl rfl) ?_
      refine E0 (wanted_none rfl) rfl (y_nilCheck rfl rfl) ?_
      refine E0 (wanted_none rfl) rfl (y_nilCheck rfl rfl) ?_
      refine E0 (wanted_none rfl) rfl (y_fieldAddr rfl Tryd.underlying104 rfl sz29 rfl) ?_
      refine E0 (wanted_none rfl) rfl (y_fieldAddr rfl Tryd.underlying104 rfl sz101 rfl) ?_
      refine E0 (wanted_none rfl) rfl (y_indexArr rfl Tryd.underlying29 sz22 rfl rfl (by omega) (by omega)) ?_
      refine E1 hs27 (wanted_none rfl) rfl (y_load 0 rfl Tryd.underlying22 rfl rfl rfl (dc_zv (by omega) (by omega) (updF_at _ _ _))) ?_
      refine E0 (wanted_none rfl) rfl (y_slenRow rfl Tryd.underlying22 rfl hrow) ?_
      refine E0 (wanted_none rfl) rfl (y_indexArr rfl Tryd.underlying101 sz3 rfl rfl (by omega) (by omega)) ?_
      refine E2 (wanted_none rfl) (c_store (i := 0) (v := iv _) hs27 rfl rfl rfl rfl sz3 rfl rfl (by (show 0 + 8 + (i : Int).toNat * 1 < 20; omega)) (Fz.zero _) (fun w28 hs29 => ?_))
      have hs29 := hs29.at0 (dc_sets _ _ _ _ _ (by omega) (by omega) _)
      refine Enil ?_
      refine W_region ?_
      refine L0 (wanted_none rfl) rfl (y_add64 rfl rfl rfl (by omega)) ?_
      refine L0 (wanted_none rfl) rfl (y_move (v := Value.int _ _) rfl rfl) ?_
      refine Lnil ?_
      exact ⟨(i + 1, updF vz2 i vv, ent ++ rowsN), by first | omega | (dsimp only; done) | (dsimp only; omega), _, A_c (iv_eq (by first | omega | (dsimp only; done) | (dsimp only; omega))) (A_c rfl (A_c rfl (A_c rfl (rfl)))), by first | omega | (dsimp only; done) | (dsimp only; omega), lyR hR hrow (by omega), (fun x hx => (List.mem_append.1 hx).elim (hrow.new x) (hI x)), (hs29.at0 (congrArg (fun f => (⟨dcells (updF vz2 i vv) f D.slot vw D.fuse⟩ : Array Value)) (lyS zi D.sure i))).re (fun a => by simp only [ct_append, ct_cons]; omega)⟩
  · have h7' := h7
    first | replace h7' := of_decide_eq_false h7' | replace h7' := bnF' h7' | skip
    refine W_condF rfl h7 ?_
    refine W_exit ?_
    refine W_seq ?_
    refine W_seq ?_
    obtain rfl : i = 8 := by omega
    refine W_region ?_
    refine L0 (wanted_none rfl) rfl (y_fieldAddr rfl Tryd.underlying59 rfl sz57 rfl) ?_
    refine L1 (wanted_none rfl) rfl hs6 ((y_loadN 1 rfl Tryd.underlying57 rfl sz57 rfl rfl (by show 8 + 2 ≤ 10; omega))) ?_
    refine L0 (wanted_none rfl) rfl (y_move (v := Value.int _ _) rfl rfl) ?_
    refine Lnil ?_
    refine W_block ?_
    refine W_loop (G := Nat) (fun i aL wl => ∃ e, aL = A 77 ((62, iv i) :: (61, .agg ⟨[str (si 0), str (si 1)]⟩) :: (0, pv b 0) :: e) ∧ i ≤ 2 ∧ St W0 ((b, .cells ⟨dcells vz2 (sureF (lyZ zi) D.sure 8) (lyL si D.slot i) vw D.fuse⟩ 104 (0, 0)) :: (b2, .cells ⟨icells vs si⟩ 59 (0, 0)) :: (rowsN ++ (K ++ (went ++ rows)))) wl) (fun i => 2 - i) (0) ?_ ?_
    · exact ⟨_, A_pins _ _ [62, 61, 0], Nat.zero_le _, by rw [lyL_zero]; exact hs6⟩
    rintro i _ w30 ⟨ehs31, rfl, hi2, hs31⟩
    refine W_seq ?_
    refine W_region ?_
    refine L0 (wanted_none rfl) rfl (y_lt rfl rfl rfl) ?_
    refine Lnil ?_
    refine W_seq ?_
    refine Wsp (t := 63) rfl (fun h32 => ?_) (fun h32 => ?_)
    · have h32' := h32
      first | replace h32' := of_decide_eq_true h32' | replace h32' := bnT' h32' | skip
      refine W_condT rfl h32 ?_
      refine W_skip ?_
      refine W_seq ?_
      refine W_block ?_
      refine W_seq ?_
      refine W_region ?_
      refine L0 (wanted_none rfl) rfl (y_move (v := Value.int _ _) rfl rfl) ?_
      refine L0 (wanted_none rfl) rfl (y_iarr rfl Tryd.underlying57 Tryd.underlying9 rfl sz9 rfl rfl (by omega) (by omega) (ss2_at (by omega) (by omega))) ?_
      refine L0 (wanted_none rfl) rfl (y_assign (v := Value.int _ _) rfl rfl) ?_
      refine L0 (wanted_none rfl) rfl (y_assign (v := Value.string ⟨⟨_⟩⟩) rfl rfl) ?_
      refine Lnil ?_
      refine W_drawSt [(0, 0), (0, 1), (0, 2), (0, 4), (0, 5), (2, 3), (0, 6), (2, 7)] hs31 mixed (by kernel_rfl) (fun w33 hs34 => ?_)
      refine E0 (wanted_none rfl) rfl (y_move (v := Value.pointer _) rfl rfl) ?_
      refine E0 (wanted_none rfl) rfl (y_move (v := Value.int _ _) rfl rfl) ?_
      refine E0 (wanted_none rfl) rfl (y_move (v := Value.string ⟨⟨_⟩⟩) rfl rfl) ?_
      refine E0 (wanted_none rfl) rfl (y_nilCheck rfl rfl) ?_
      refine E0 (wanted_none rfl) rfl (y_fieldAddr rfl Tryd.underlying104 rfl sz57 rfl) ?_
      refine E2 (wanted_none rfl) (c_call rfl rfl rfl Tryd.func69 (by kernel_rfl) rfl (fill_any _ 500 (by decide) (hsl _) w33) rfl ?_)
      rintro _ w35 ⟨rfl, hc36⟩
      have hs37 := hs34.call0 hc36
      refine E0 (wanted_none rfl) rfl (y_indexArr rfl Tryd.underlying57 sz9 rfl rfl (by omega) (by omega)) ?_
      refine E2 (wanted_none rfl) (c_store (i := 0) (v := Value.string ⟨⟨_⟩⟩) hs37 rfl rfl rfl rfl sz9 rfl rfl (by (show 0 + 16 + (i : Int).toNat * 1 < 20; omega)) (Fz.zero _) (fun w38 hs39 => ?_))
      have hs39 := hs39.at0 (dc_setl _ _ _ _ _ (by omega) (by omega) _)
      refine Enil ?_
      refine W_region ?_
      refine L0 (wanted_none rfl) rfl (y_add64 rfl rfl rfl (by omega)) ?_
      refine L0 (wanted_none rfl) rfl (y_move (v := Value.int _ _) rfl rfl) ?_
      refine Lnil ?_
      exact ⟨i + 1, by first | omega | (dsimp only; done) | (dsimp only; omega), _, A_c (iv_eq (by first | omega | (dsimp only; done) | (dsimp only; omega))) (A_c rfl (A_c rfl (rfl))), by omega, hs39.at0 (congrArg (fun f => (⟨dcells vz2 (sureF (lyZ zi) D.sure 8) f vw D.fuse⟩ : Array Value)) (lyL_succ si D.slot i))⟩
    · have h32' := h32
      first | replace h32' := of_decide_eq_false h32' | replace h32' := bnF' h32' | skip
      refine W_condF rfl h32 ?_
      refine W_exit ?_
      obtain rfl : i = 2 := by omega
      refine W_region ?_
      refine L0 (wanted_none rfl) rfl (y_move (v := Value.pointer _) rfl rfl) ?_
      refine L0 (wanted_none rfl) rfl (y_nilCheck rfl rfl) ?_
      refine L0 (wanted_none rfl) rfl (y_fieldAddr rfl Tryd.underlying104 rfl sz102 rfl) ?_
      refine Lc (wanted_none rfl) (c_store (i := 0) (v := .slice none 0 0) hs31 rfl rfl rfl rfl sz102 rfl rfl (by (show 18 < 20; omega)) (Fz.zero _) (fun w40 hs41 => ?_))
      have hs41 := hs41.at0 (c' := ⟨dcells vz2 (sureF (lyZ zi) D.sure 8) (lyL si D.slot 2) (.slice none 0 0) D.fuse⟩) rfl
      refine Lnil ?_
      refine fin0 (fn := Tryd.f44) rfl ?_
      refine ⟨vz2, rowsN, rfl, ?_, hR, Row.nil _ _ _, hnb, hI⟩
      exact ((hs41.re (L' := (b2, .cells ⟨icells vs si⟩ 59 (0, 0)) :: ((went ++ rows) ++ (K ++ ((b, .cells ⟨dcells vz2 (sureF (lyZ zi) D.sure 8) (lyL si D.slot 2) (.slice none 0 0) D.fuse⟩ 104 (0, 0)) :: ([] ++ rowsN))))) (fun a => by simp only [ct_append, ct_cons, ct_nil]; omega)).drop (.inl hbb2)).dropL (fun x hx => (List.mem_append.1 hx).elim (hnw x) (hnr x))

end Go.Proofs.YtkolfgmpmnelmabDoor
