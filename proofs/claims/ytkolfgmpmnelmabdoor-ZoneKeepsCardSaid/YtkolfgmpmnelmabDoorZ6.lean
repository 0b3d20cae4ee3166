/-
  Walks: slices.Clone, (*zone.Device).Image, Lay of nothing, zone.New.
-/
import Derived.Test.YtkolfgmpmnelmabDoorZ5
import Derived.Lib.SliceRun
namespace Go.Proofs.YtkolfgmpmnelmabDoor
open Go Vx Go.Proofs
set_option linter.unusedVariables false
set_option maxRecDepth 4000
set_option maxHeartbeats 400000

section
variable {P : Program} {n : Nat} {e : Env} {o : Oper} {x y : Operand} {ty ty' : TypeId}
theorem y_eqSlNil {el m cap : Nat} {a : Option Addr} (ho : o.op = .binOp .eql ty x y ty') (ht : P.underlying ty = some (.slice el)) (hx : opv n e x = .slice a m cap) (hy : opv n e y = .slice none 0 0) : Y0 P n e o (.bool a.isNone) := fun w => by
  have hg : (eqGuard .eql ty x y (.slice a m cap) (.slice none 0 0)).run P w = .ok () w := rfl
  simp only [execOp, ho, hx, hy, Sem.run_bind, hg, Result.andThen_ok, Lib.run_eql_slice_nil w ty el a m cap 0 0 ht, Sem.run_pure]
end
theorem row0 {B E b : Nat} (hB : B ≤ b) : Row B E 1 (.slice (some ⟨b, 0, none⟩) 0 0) 0 [] [(b, .cells ⟨[]⟩ E (0, 0))] := Row.of_block (xs := []) hB (by decide)
theorem RowIn.one {rows : Blocks} {v : Value} {l : List (List UInt8)} (h : RowIn rows v l) : v.oneCell' = true := by
  rcases h with ⟨rfl, _⟩ | ⟨g, cap, cur, fz, rfl, _⟩ <;> rfl
theorem clone_some (g cap : Nat) (l : List (List UInt8)) (hl : l.length ≤ 1000) (w : World) (hS : Sl w (.slice (some ⟨g, 0, none⟩) l.length cap) l.length (zstrs l)) : C Tryd.prog 96 ⟨[.slice (some ⟨g, 0, none⟩) l.length cap]⟩ w fun v w' => ∃ ent, RowIn ent v l ∧ St w ent w' ∧ ∀ x ∈ ent, w.heap.size ≤ x.1 := by
  refine C_enter (n := 8) Tryd.func96 rfl rfl rfl (fun w1 hs1 => ?_)
  refine W_seq ?_
  refine W_region ?_
  refine L0 (wanted_none rfl) rfl (y_assign (v := Value.slice _ _ _) rfl rfl) ?_
  refine Lnil ?_
  refine W_seq ?_
  refine W_seq ?_
  refine W_region ?_
  refine L0 (wanted_none rfl) rfl (y_move (v := Value.slice _ _ _) rfl rfl) ?_
  refine L0 (wanted_none rfl) rfl (y_eqSlNil rfl Tryd.underlying22 rfl rfl) ?_
  refine Lnil ?_
  refine Wkn (t := 4) (b0 := false) rfl (by rfl) (fun h2 => ?_)
  refine W_condF rfl h2 ?_
  refine W_skip ?_
  refine W_seq ?_
  refine W_region ?_
  refine Lc (wanted_none rfl) (c_buildSlice0 hs1 rfl rfl Tryd.underlying22 sz9 (fun b3 w4 hbb3 hs5 => ?_))
  refine L0 (wanted_none rfl) rfl (y_move (v := Value.slice _ _ _) rfl rfl) ?_
  refine Lc (wanted_none rfl) (c_appendG (L0 := []) (ent := [(b3, .cells ⟨[]⟩ 9 (0, 0))]) hs5 (List.Perm.refl _) rfl rfl Tryd.underlying22 sz9 zr9 by9 rfl rfl (row0 hbb3) (Nat.le_refl _) (fun x hx => .inl ((row0 hbb3).new x hx)) rfl ((hS.keep hs5 (by intro k hk; simp [keys] at hk; omega)).srcs) (by intro u hu; obtain ⟨x, _, rfl⟩ := List.mem_map.1 hu; rfl) (by omega) (by omega) (fun vN entN w6 hrow' hn8 hs7 => ?_))
  have hrow := hrow'
  have hnew_hrow := hn8
  refine L0 (wanted_none rfl) rfl (y_assign (v := vN) rfl rfl) ?_
  refine Lnil ?_
  refine W_ret ?_
  refine fin1 (fn := Tryd.f96) rfl rfl ?_
  refine ⟨entN, RowIn.ofRow (B := w.heap.size) (m := 0 + l.length) (by rw [List.nil_append] at hrow; exact hrow), hs7, hrow.new⟩
theorem clone_any {rows : Blocks} {v : Value} {l : List (List UInt8)} (hl : l.length ≤ 1000) {W0 w : World} {L : Blocks} (h : RowIn rows v l) (hs : St W0 L w) (hin : ∀ x ∈ rows, x ∈ L) : C Tryd.prog 96 ⟨[v]⟩ w fun v' w' => ∃ ent, RowIn ent v' l ∧ St w ent w' ∧ ∀ x ∈ ent, w.heap.size ≤ x.1 := by
  have hS := h.sl hs hin
  rcases h with ⟨rfl, rfl⟩ | ⟨g, cap, cur, fz, rfl, h2⟩
  · clear hs hS hin
    refine C_enter (n := 8) Tryd.func96 rfl rfl rfl (fun w1 hs1 => ?_)
    refine W_seq ?_
    refine W_region ?_
    refine L0 (wanted_none rfl) rfl (y_assign (v := Value.slice _ _ _) rfl rfl) ?_
    refine Lnil ?_
    refine W_seq ?_
    refine W_seq ?_
    refine W_region ?_
    refine L0 (wanted_none rfl) rfl (y_move (v := Value.slice _ _ _) rfl rfl) ?_
    refine L0 (wanted_none rfl) rfl (y_eqSlNil rfl Tryd.underlying22 rfl rfl) ?_
    refine Lnil ?_
    refine Wkn (t := 4) (b0 := true) rfl (by rfl) (fun h2 => ?_)
    refine W_condT rfl h2 ?_
    refine W_seq ?_
    refine W_region ?_
    refine L0 (wanted_none rfl) rfl (y_assign (v := Value.slice _ _ _) rfl rfl) ?_
    refine Lnil ?_
    refine W_ret ?_
    refine fin1 (fn := Tryd.f96) rfl rfl ?_
    exact ⟨[], RowIn.nil _, hs1, fun x hx => by cases hx⟩
  · exact clone_some g cap l hl w hS
/-! Image -/
theorem Vx.finC {P : Program} {fn : Func} {R : Value → World → Prop} {n : Nat} {e : Env} {w : World} {p : Nat} {t T : TypeId} {b : Nat} {c : Array Value} {fz : Nat × Nat} {d : TypeDesc} (h : fn.results = #[.cell p t]) (hp : opv n e (.tmp p) = pv b 0) (hb : w.heap[b]? = some (.cells c T fz)) (ht : P.underlying t = some d) (hd : isAggB d = true) (hs : (P.info? t).map (·.size) = some c.size) (hR : R (.agg c) w) : fin P fn R (A n e) w := by
  refine ⟨rfl, .agg c, ?_, hR⟩
  have hp' : (A n e).tmps.getD p undef = pv b 0 := by rw [← hp, ← A_eval]; rfl
  rw [Array.getD_eq_getD_getElem?] at hp'
  simp only [results, h]
  have h2 := run_loadVarN (P := P) (t := t) ht hd hs hb (Nat.le_of_eq (Nat.zero_add _))
  have h3 : (⟨(c.toList.drop 0).take c.size⟩ : Array Value) = c := by
    rw [List.drop_zero, List.take_of_length_le (by simp)]
  rw [h3] at h2
  simp [hp', asAddr, h2]
def icells (vs : Nat → Value) (slot : Nat → List UInt8) : List Value := [vs 0, vs 1, vs 2, vs 3, vs 4, vs 5, vs 6, vs 7, str (slot 0), str (slot 1)]
theorem ic_setz (vs : Nat → Value) (slot : Nat → List UInt8) {i : Int} (h0 : 0 ≤ i) (h1 : i < 8) (v : Value) : (⟨icells vs slot⟩ : Array Value).setIfInBounds (0 + 0 + i.toNat * 1) v = ⟨icells (updF vs i.toNat v) slot⟩ := by
  rcases lt8 h0 h1 with rfl | rfl | rfl | rfl | rfl | rfl | rfl | rfl <;> rfl
theorem ic_z (vs : Nat → Value) (slot : Nat → List UInt8) {i : Int} (h0 : 0 ≤ i) (h1 : i < 8) : (⟨icells vs slot⟩ : Array Value)[0 + 0 + i.toNat * 1]? = some (vs i.toNat) := by
  rcases lt8 h0 h1 with rfl | rfl | rfl | rfl | rfl | rfl | rfl | rfl <;> rfl
theorem ic_zv {vs : Nat → Value} {slot : Nat → List UInt8} {i : Int} (h0 : 0 ≤ i) (h1 : i < 8) {v : Value} (hv : vs i.toNat = v) : (⟨icells vs slot⟩ : Array Value)[0 + 0 + i.toNat * 1]? = some v := hv ▸ ic_z vs slot h0 h1
def zs8 (vs : Nat → Value) : List Value := [vs 0, vs 1, vs 2, vs 3, vs 4, vs 5, vs 6, vs 7]
theorem zs8_at {vs : Nat → Value} {i : Int} (h0 : 0 ≤ i) (h1 : i < 8) {v : Value} (hv : vs i.toNat = v) : (zs8 vs)[i.toNat * 1]? = some v := by
  subst hv
  rcases lt8 h0 h1 with rfl | rfl | rfl | rfl | rfl | rfl | rfl | rfl <;> rfl
def imZ (D : Dv) (k j : Nat) : List (List UInt8) := if j < k then (D.z j).take (D.sure j) else []
theorem imR {rows : Blocks} {vs : Nat → Value} {D : Dv} {k : Nat} {v : Value} (h : ∀ j, j < 8 → RowIn rows (vs j) (imZ D k j)) (hv : RowIn rows v ((D.z k).take (D.sure k))) : ∀ j, j < 8 → RowIn rows (updF vs k v j) (imZ D (k + 1) j) := fun j hj => by
  by_cases e : j = k
  · subst e; rw [updF_at, imZ, if_pos (by omega)]; exact hv
  · rw [updF_ne _ _ e]
    have := h j hj
    rw [imZ] at this ⊢
    by_cases h2 : j < k
    · rw [if_pos h2] at this; rw [if_pos (by omega)]; exact this
    · rw [if_neg h2] at this; rw [if_neg (by omega)]; exact this
theorem ic_one {rows : Blocks} {vs : Nat → Value} {z : Nat → List (List UInt8)} {slot : Nat → List UInt8} (h : ∀ j, j < 8 → RowIn rows (vs j) (z j)) : ∀ v ∈ icells vs slot, v.oneCell' = true := by
  intro v hv
  simp only [icells, List.mem_cons, List.not_mem_nil, or_false] at hv
  rcases hv with rfl | rfl | rfl | rfl | rfl | rfl | rfl | rfl | rfl | rfl
  · exact (h 0 (by omega)).one
  · exact (h 1 (by omega)).one
  · exact (h 2 (by omega)).one
  · exact (h 3 (by omega)).one
  · exact (h 4 (by omega)).one
  · exact (h 5 (by omega)).one
  · exact (h 6 (by omega)).one
  · exact (h 7 (by omega)).one
  · rfl
  · rfl
theorem image_ok {W0 : World} {K : Blocks} {b : Nat} {D : Dv} {w : World} {vz : Nat → Value} {vw : Value} {went rows : Blocks} (h : DSt W0 K b D w vz vw went rows) (hz16 : ∀ j, j < 8 → D.sure j ≤ (D.z j).length ∧ (D.z j).length ≤ 16) :
    C Tryd.prog 47 ⟨[pv b 0]⟩ w fun v w' => ∃ vs im, v = .agg ⟨icells vs D.slot⟩ ∧ DSt W0 (im ++ K) b D w' vz vw went rows ∧ (∀ j, j < 8 → RowIn im (vs j) (imZ D 8 j)) ∧ ∀ x ∈ im, W0.heap.size ≤ x.1 := by
  refine C_enter (n := 33) Tryd.func47 rfl rfl rfl (fun w1 hs1 => ?_)
  have hs0 := (h.st.call0 hs1).perm List.perm_middle
  refine W_seq ?_
  refine W_region ?_
  refine Lc (wanted_none rfl) (c_alloc hs0 rfl rfl zr59 (fun b2 w3 hbb2 hs4 => ?_))
  refine Lnil ?_
  refine W_seq ?_
  refine W_region ?_
  refine L0 (wanted_none rfl) rfl (y_move (v := Value.pointer _) rfl rfl) ?_
  refine L0 (wanted_none rfl) rfl (y_nilCheck rfl rfl) ?_
  refine L0 (wanted_none rfl) rfl (y_fieldAddr rfl Tryd.underlying104 rfl sz57 rfl) ?_
  refine L1 (wanted_none rfl) rfl hs4 ((y_loadN 1 rfl Tryd.underlying57 rfl sz57 rfl rfl (by show 16 + 2 ≤ 20; omega))) ?_
  refine L0 (wanted_none rfl) rfl (y_buildSG (places := #[(0, 8), (8, 2)]) (cells := icells (fun _ => .slice none 0 0) D.slot) rfl Tryd.underlying59 zr59 (fun w => by kernel_rfl) (by kernel_rfl)) ?_
  refine Lc (wanted_none rfl) (c_alloc hs4 rfl rfl zr59 (fun b5 w6 hbb5 hs7 => ?_))
  refine Lc (wanted_none rfl) (c_storeN (i := 0) hs7 rfl rfl rfl rfl sz59 (by rfl) (by intro v hv; simp only [icells, List.mem_cons, List.not_mem_nil, or_false] at hv; rcases hv with rfl | rfl | rfl | rfl | rfl | rfl | rfl | rfl | rfl | rfl <;> rfl) rfl (by decide) (Fz.zero _) (fun w8 hs9 => ?_))
  refine Lnil ?_
  refine W_seq ?_
  refine W_seq ?_
  refine W_region ?_
  refine L0 (wanted_none rfl) rfl (y_move (v := Value.pointer _) rfl rfl) ?_
  refine L0 (wanted_none rfl) rfl (y_nilCheck rfl rfl) ?_
  refine L0 (wanted_none rfl) rfl (y_fieldAddr rfl Tryd.underlying104 rfl sz29 rfl) ?_
  refine L1 (wanted_none rfl) rfl hs9 ((y_loadN 2 rfl Tryd.underlying29 rfl sz29 rfl rfl (by show 0 + 8 ≤ 20; omega))) ?_
  refine L0 (wanted_none rfl) rfl (y_move (v := Value.int _ _) rfl rfl) ?_
  refine Lnil ?_
  refine W_block ?_
  refine W_loop (G := Nat × (Nat → Value) × Blocks) (fun g aL wl => ∃ e, aL = A 33 ((15, iv g.1) :: (14, .agg ⟨zs8 vz⟩) :: (0, pv b 0) :: (3, pv b5 0) :: (2, pv b2 0) :: e) ∧ g.1 ≤ 8 ∧ (∀ j, j < 8 → RowIn g.2.2 (g.2.1 j) (imZ D g.1 j)) ∧ (∀ x ∈ g.2.2, W0.heap.size ≤ x.1) ∧ St W0 ((b5, .cells ⟨icells g.2.1 D.slot⟩ 59 (0, 0)) :: (b2, .cells ⟨icells (fun _ => .slice none 0 0) (fun _ => [])⟩ 59 (0, 0)) :: (b, .cells ⟨dcells vz D.sure D.slot vw D.fuse⟩ 104 (0, 0)) :: (g.2.2 ++ (K ++ (went ++ rows)))) wl) (fun g => 8 - g.1) ((0, (fun _ => .slice none 0 0), [])) ?_ ?_
  · exact ⟨_, A_pins _ _ [15, 14, 0, 3, 2], Nat.zero_le _, (fun j _ => .inl ⟨rfl, rfl⟩), (fun x hx => by cases hx), hs9⟩
  rintro g _ w10 ⟨ehs11, rfl, hi, hR, hI, hs11⟩
  obtain ⟨i, vs, im⟩ := g
  dsimp only at *
  refine W_seq ?_
  refine W_region ?_
  refine L0 (wanted_none rfl) rfl (y_lt rfl rfl rfl) ?_
  refine Lnil ?_
  refine W_seq ?_
  refine Wsp (t := 16) rfl (fun h12 => ?_) (fun h12 => ?_)
  · have h12' := h12
    first | replace h12' := of_decide_eq_true h12' | replace h12' := bnT' h12' | skip
    refine W_condT rfl h12 ?_
    refine W_skip ?_
    refine W_seq ?_
    refine W_block ?_
    refine W_seq ?_
    have hRi := h.rz i (by omega)
    obtain ⟨a, cap, hv, ha, hle, _⟩ := hRi.shape
    rw [hv] at hRi
    have hz := hz16 i (by omega)
    refine W_region ?_
    refine L0 (wanted_none rfl) rfl (y_move (v := Value.int _ _) rfl rfl) ?_
    refine L0 (wanted_none rfl) rfl (y_iarr rfl Tryd.underlying29 Tryd.underlying22 rfl sz22 rfl rfl (by omega) (by omega) (zs8_at (by omega) (by omega) hv)) ?_
    refine L0 (wanted_none rfl) rfl (y_assign (v := Value.int _ _) rfl rfl) ?_
    refine L0 (wanted_none rfl) rfl (y_assign (v := Value.slice _ _ _) rfl rfl) ?_
    refine Lnil ?_
    refine W_region ?_
    refine L0 (wanted_none rfl) rfl (y_move (v := Value.int _ _) rfl rfl) ?_
    refine L0 (wanted_none rfl) rfl (y_move (v := Value.slice _ _ _) rfl rfl) ?_
    refine L0 (wanted_none rfl) rfl (y_move (v := Value.pointer _) rfl rfl) ?_
    refine L0 (wanted_none rfl) rfl (y_move (v := Value.int _ _) rfl rfl) ?_
    refine L0 (wanted_none rfl) rfl (y_nilCheck rfl rfl) ?_
    refine L0 (wanted_none rfl) rfl (y_fieldAddr rfl Tryd.underlying104 rfl sz101 rfl) ?_
    refine L0 (wanted_none rfl) rfl (y_indexArr rfl Tryd.underlying101 sz3 rfl rfl (by omega) (by omega)) ?_
    refine L1 (wanted_none rfl) rfl hs11 (y_load 2 rfl Tryd.underlying3 rfl rfl rfl (dc_sv (k := D.sure i) (by omega) (by omega) rfl)) ?_
    refine L0 (wanted_none rfl) rfl (y_slHi rfl Tryd.underlying22 sz9 rfl ha rfl (by have := hz16 i (by omega); omega)) ?_
    refine Lc (wanted_none rfl) (c_call rfl rfl rfl Tryd.func96 (by kernel_rfl) rfl (clone_any (by rw [List.length_take]; omega) (hRi.take hz.1) hs11 (fun x hx => by simp [hx])) rfl ?_)
    rintro vN w13 ⟨entN, hrN, hc14, hN⟩
    have hs15 := (hs11.call_new hc14 (fun k hk => by obtain ⟨x, hx, rfl⟩ := List.mem_map.1 hk; exact hN x hx)).re (L' := (b5, .cells ⟨icells vs D.slot⟩ 59 (0, 0)) :: (b2, .cells ⟨icells (fun _ => .slice none 0 0) (fun _ => [])⟩ 59 (0, 0)) :: (b, .cells ⟨dcells vz D.sure D.slot vw D.fuse⟩ 104 (0, 0)) :: ((entN ++ im) ++ (K ++ (went ++ rows)))) (fun a => by simp only [ct_append, ct_cons]; omega)
    have hNW : ∀ x ∈ entN, W0.heap.size ≤ x.1 := fun x hx => Nat.le_trans hs11.size (hN x hx)
    refine L0 (wanted_none rfl) rfl (y_fieldAddr rfl Tryd.underlying59 rfl sz29 rfl) ?_
    refine L0 (wanted_none rfl) rfl (y_indexArr rfl Tryd.underlying29 sz22 rfl rfl (by omega) (by omega)) ?_
    refine Lc (wanted_none rfl) (c_store (i := 0) (v := vN) hs15 rfl rfl rfl rfl sz22 hrN.one rfl (by (show 0 + 0 + (i : Int).toNat * 1 < 10; omega)) (Fz.zero _) (fun w16 hs17 => ?_))
    have hs17 := hs17.at0 (ic_setz _ _ (by omega) (by omega) _)
    refine Lnil ?_
    refine W_region ?_
    refine L0 (wanted_none rfl) rfl (y_add64 rfl rfl rfl (by omega)) ?_
    refine L0 (wanted_none rfl) rfl (y_move (v := Value.int _ _) rfl rfl) ?_
    refine Lnil ?_
    exact ⟨(i + 1, updF vs i vN, entN ++ im), by first | omega | (dsimp only; done) | (dsimp only; omega), _, A_c (iv_eq (by first | omega | (dsimp only; done) | (dsimp only; omega))) (A_c rfl (A_c rfl (A_c rfl (A_c rfl (rfl))))), by first | omega | (dsimp only; done) | (dsimp only; omega), imR (fun j hj => (hR j hj).mono (fun x hx => List.mem_append_right _ hx)) (hrN.mono (fun x hx => List.mem_append_left _ hx)), (fun x hx => (List.mem_append.1 hx).elim (hNW x) (hI x)), hs17⟩
  · have h12' := h12
    first | replace h12' := of_decide_eq_false h12' | replace h12' := bnF' h12' | skip
    refine W_condF rfl h12 ?_
    refine W_exit ?_
    refine W_seq ?_
    obtain rfl : i = 8 := by omega
    refine W_region ?_
    refine L1 (wanted_none rfl) rfl hs11 ((y_loadN 0 rfl Tryd.underlying59 rfl sz59 rfl rfl (by show 0 + 10 ≤ 10; omega))) ?_
    refine Lc (wanted_none rfl) (c_storeN (i := 1) hs11 rfl rfl rfl rfl sz59 (by rfl) (by intro v hv; exact ic_one hR v hv) rfl (by (show 0 + 10 ≤ 10; omega)) (Fz.zero _) (fun w18 hs19 => ?_))
    refine Lnil ?_
    refine W_ret ?_
    refine finC (fn := Tryd.f47) rfl rfl (hs19.get 1 rfl) Tryd.underlying59 rfl sz59 ⟨vs, im, rfl, ⟨?_, h.rz, h.rw, h.newb, h.newr⟩, hR, hI⟩
    exact ((hs19.drop (.inl hbb5)).drop (.inl hbb2)).re (fun a => by simp only [ct_append, ct_cons]; omega)
end Go.Proofs.YtkolfgmpmnelmabDoor
