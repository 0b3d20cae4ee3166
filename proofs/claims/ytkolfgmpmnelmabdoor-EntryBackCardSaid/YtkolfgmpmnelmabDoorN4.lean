/-
  Walk: entry.Print; the library's Itoa, Atoi; what a row's list says of it.
-/
import Derived.Test.YtkolfgmpmnelmabDoorN3
import Derived.Lib.AppendIntMem
import Derived.Lib.AtoiErrMem
namespace Go.Proofs.YtkolfgmpmnelmabDoor.Ent
open Go Vx Go.Proofs
set_option linter.unusedVariables false
set_option maxRecDepth 8000
set_option maxHeartbeats 4000000
theorem var_keep {P : Program} {w w' : World} {L : Blocks} {n : String} {cs : Array Value} (h : St w L w') (hL : ∀ x ∈ L, w.heap.size ≤ x.1) (hv : w.var? P n = some cs) : w'.var? P n = some cs := by
  unfold World.var? at hv ⊢
  cases hg : P.globalNamed n with
  | none => rw [hg] at hv; simp at hv
  | some g =>
    rw [hg] at hv
    simp only [Option.bind_some] at hv ⊢
    have hlt : g < w.heap.size := by
      rcases Nat.lt_or_ge g w.heap.size with h1 | h1
      · exact h1
      · rw [Array.getElem?_eq_none h1] at hv; cases hv
    rw [h.fr g hlt (fun hm => by obtain ⟨x, hx, e⟩ := List.mem_map.1 hm; have := hL x hx; omega)]
    exact hv
/-- What the row's list says: the table of powers, and the two errors. -/
structure EntAt (w : World) : Prop where
  pow : Lib.TabIs Tryd.prog w "internal/strconv.uint64pow10" .u64 Lib.pow10Tab
  syn : ∃ tp p, w.var? Tryd.prog "strconv.ErrSyntax" = some #[.iface tp p]
  rng : ∃ tp p, w.var? Tryd.prog "strconv.ErrRange" = some #[.iface tp p]
theorem EntAt.keep {w w' : World} {L : Blocks} (h : EntAt w) (hs : St w L w') (hL : ∀ x ∈ L, w.heap.size ≤ x.1) : EntAt w' := by
  obtain ⟨a, b, c⟩ := h.syn
  obtain ⟨a', b', c'⟩ := h.rng
  exact ⟨var_keep hs hL h.pow, ⟨a, b, var_keep hs hL c⟩, ⟨a', b', var_keep hs hL c'⟩⟩
theorem EntAt.keep0 {w w' : World} (h : EntAt w) (hs : St w [] w') : EntAt w' := h.keep hs (fun _ hx => by cases hx)
theorem itoa_any (n : Int) (h0 : -9223372036854775808 ≤ n) (h1 : n ≤ 9223372036854775807) (w : World) (hE : EntAt w) : C Tryd.prog 108 ⟨[iv n]⟩ w fun v w' => v = str (Lib.itoa n) ∧ St w [] w' :=
  Calls.mono (Tryd.strconv_Itoa n h0 h1 w hE.pow) fun e w' ⟨he, k, os, hw⟩ => ⟨_, he, rfl, ofBelow (hw ▸ Lib.below_grow _ _ (Nat.le_refl _) k os)⟩
theorem atoi_any (s : List UInt8) (hl : s.length ≤ 281474976710656) (w : World) (hE : EntAt w) : C Tryd.prog 107 ⟨[str s]⟩ w fun v w' => (∃ e, v = .tuple #[iv (numV s), e] ∧ ((∃ n, num? s = some n ∧ numV s = n ∧ e = .nilIface) ∨ (num? s = none ∧ ∃ tp p, e = .iface tp p))) ∧ St w [] w' := by
  cases ha : Lib.atoiAll s
  case ok v =>
    refine Calls.mono (Tryd.strconv_Atoi_ok ⟨⟨s⟩⟩ (by show s.length ≤ _; omega) v ha w) fun e w' ⟨he, hw⟩ => ⟨_, he, ⟨.nilIface, by simp only [numV, ha], .inl ⟨v, by simp only [num?, ha], by simp only [numV, ha], rfl⟩⟩, ?_⟩
    rcases hw with rfl | ⟨t, rfl⟩
    · exact St.init _
    · exact ofBelow (Lib.bytesWorld_below _ _ _)
  case range =>
    obtain ⟨tp, p, hv⟩ := hE.rng
    refine Calls.mono (Tryd.strconv_Atoi_range_var ⟨⟨s⟩⟩ hl ha tp p w hv) fun e w' ⟨N, he, _, _, hb⟩ => ⟨_, he, ⟨_, by simp only [numV, ha]; rfl, .inr ⟨by simp only [num?, ha], _, _, rfl⟩⟩, ofBelow hb⟩
  obtain ⟨tp, p, hv⟩ := hE.syn
  refine Calls.mono (Tryd.strconv_Atoi_syntax_var ⟨⟨s⟩⟩ hl (fun v e => nomatch ha.symm.trans e) (fun e => nomatch ha.symm.trans e) tp p w hv) fun e w' ⟨N, he, _, _, hb⟩ => ⟨_, he, ⟨_, by simp only [numV, ha]; rfl, .inr ⟨by simp only [num?, ha], _, _, rfl⟩⟩, ofBelow hb⟩
theorem str_eq {a b : List UInt8} (h : a = b) : Value.string ⟨⟨a⟩⟩ = Value.string ⟨⟨b⟩⟩ := by rw [h]
/-- The cells' part of a line. -/
def cellsT (cs : List Int) : List UInt8 := cs.flatMap fun k => 32 :: Lib.itoa k
theorem cellsT_snoc {cs : List Int} {k : Nat} (h : k < cs.length) : cellsT (cs.take (k + 1)) = cellsT (cs.take k) ++ ([32] ++ Lib.itoa (cs.getD k 0)) := by
  rw [take_snoc h, cellsT, cellsT, List.flatMap_append]; simp
/-- .. behind a text, cell by cell. -/
def accT (s : List UInt8) (cs : List Int) : Nat → List UInt8
  | 0 => s
  | k + 1 => accT s cs k ++ ([32] ++ Lib.itoa (cs.getD k 0))
theorem accT_eq (s : List UInt8) {cs : List Int} : ∀ {k : Nat}, k ≤ cs.length → accT s cs k = s ++ cellsT (cs.take k)
  | 0, _ => by simp [accT, cellsT]
  | k + 1, h => by rw [accT, accT_eq s (by omega), cellsT_snoc (by omega), List.append_assoc]
theorem accT_succ (s : List UInt8) (cs : List Int) (k : Nat) : accT s cs k ++ ([32] ++ Lib.itoa (cs.getD k 0)) = accT s cs (k + 1) := rfl
theorem lb_eq (f : Fl) : lb f = ((f.nm ++ [32]) ++ Lib.itoa f.sz) ++ cellsT f.cs := by simp [lb, nums, cellsT]
theorem printed_take {l : List Fl} {i : Nat} (hi : i < l.length) : printed (l.take (i + 1)) = printed (l.take i) ++ (lb (l.getD i default) ++ [10]) := by
  rw [List.take_add_one, List.getElem?_eq_getElem hi, Option.toList_some, printed_append, List.getD_eq_getElem?_getD, List.getElem?_eq_getElem hi]
  simp [printed]
theorem itoa_len {n : Int} (h0 : 0 ≤ n) (h1 : n < 10000) : (Lib.itoa n).length ≤ 4 := by rw [itoa_small h0]; exact dec_len (by omega)
theorem cellsT_len {cs : List Int} {k : Nat} (h : ∀ x ∈ cs, 3 ≤ x ∧ x < 24) : (cellsT (cs.take k)).length ≤ 3 * cs.length := by
  have h1 := cells_len (cs.take k) (fun x hx => h x (List.mem_of_mem_take hx))
  have h2 := List.length_take_le' k cs
  rw [cellsT]; omega
theorem RightP.csLen {l : List Fl} (h : RightP l) {f : Fl} (hf : f ∈ l) : f.cs.length ≤ 25 := by
  have h1 := h.need f hf
  have h2 := h.size f hf
  rw [needI] at h1; omega
theorem getDFl_mem {l : List Fl} {i : Nat} (h : i < l.length) : l.getD i default ∈ l := by
  rw [List.getD_eq_getElem?_getD, List.getElem?_eq_getElem h]; exact List.getElem_mem h
theorem print_any (l : List Fl) (v0 : Value) (vc : Nat → Value) (w : World) (hF : FlsAt w v0 l vc) (hE : EntAt w) : C Tryd.prog 59 ⟨[v0]⟩ w fun v w' => ((RightP l ∧ v = .tuple #[str (printed l), .nilIface]) ∨ (¬RightP l ∧ v = .tuple #[str [], .iface 35 (iv 1)])) ∧ St w [] w' := by
  refine C_enter (n := 45) Tryd.func59 rfl rfl rfl (fun w1 hs1 => ?_)
  refine W_seq ?_
  refine W_region ?_
  refine L0 (wanted_none rfl) rfl (y_assign (v := Value.string ⟨⟨_⟩⟩) rfl rfl) ?_
  refine L0 (wanted_none rfl) rfl (y_assign (v := Value.nilIface) rfl rfl) ?_
  refine Lnil ?_
  refine W_seq ?_
  refine W_seq ?_
  refine W_region ?_
  refine L0 (wanted_none rfl) rfl (y_move (v := v0) rfl rfl) ?_
  refine Lc (wanted_none rfl) (c_call rfl rfl rfl Tryd.func60 (by kernel_rfl) rfl (right_any l v0 vc w1 (hF.keep0 hs1)) rfl ?_)
  rintro vf w2 ⟨⟨bo, rfl, hbo⟩, hc3⟩
  have hs4 := hs1.call0 hc3
  refine L0 (wanted_none rfl) rfl (y_not rfl rfl) ?_
  refine Lnil ?_
  refine Wsp (t := 11) rfl (fun h5 => ?_) (fun h5 => ?_)
  · have h5' := h5
    first | replace h5' := of_decide_eq_true h5' | replace h5' := bnT' h5' | skip
    refine W_condT rfl h5 ?_
    refine W_seq ?_
    refine W_region ?_
    refine L0 (wanted_none rfl) rfl (y_mkif rfl Tryd.underlying35 rfl rfl) ?_
    refine L0 (wanted_none rfl) rfl (y_assign (v := Value.string ⟨⟨_⟩⟩) rfl rfl) ?_
    refine L0 (wanted_none rfl) rfl (y_assign (v := Value.iface _ _) rfl rfl) ?_
    refine Lnil ?_
    refine W_ret ?_
    refine fin2 (fn := Tryd.f59) rfl rfl rfl ?_
    first | exact ⟨.inr ⟨fun h => by have h7 := hbo.2 h; simp_all, rfl⟩, hs4⟩ | (have ek : l.take i = l := List.take_of_length_le (by omega); rw [ek]; exact ⟨.inl ⟨hR, rfl⟩, hs4⟩)
  · have h5' := h5
    first | replace h5' := of_decide_eq_false h5' | replace h5' := bnF' h5' | skip
    refine W_condF rfl h5 ?_
    refine W_skip ?_
    refine W_seq ?_
    have hR : RightP l := hbo.1 (by simpa using ‹(!bo) = false›)
    have hfew := hR.few
    refine W_region ?_
    refine L0 (wanted_none rfl) rfl (y_assign (v := Value.string ⟨⟨_⟩⟩) rfl rfl) ?_
    refine Lnil ?_
    refine W_seq ?_
    refine W_seq ?_
    refine W_region ?_
    refine L0 (wanted_none rfl) rfl (y_move (v := v0) rfl rfl) ?_
    refine L0 (wanted_none rfl) rfl (y_slenOps (v := v0) rfl Tryd.underlying87 rfl hF.shape) ?_
    refine L0 (wanted_none rfl) rfl (y_move (v := Value.int _ _) rfl rfl) ?_
    refine Lnil ?_
    refine W_block ?_
    refine W_loop (G := Nat) (fun i aL wl => ∃ e, aL = A 45 ((15, iv i) :: (14, iv l.length) :: (13, v0) :: (0, v0) :: (4, str (printed (l.take i))) :: e) ∧ i ≤ l.length ∧ St w [] wl) (fun i => l.length - i) (0) ?_ ?_
    · exact ⟨_, A_pins _ _ [15, 14, 13, 0, 4], Nat.zero_le _, hs4⟩
    rintro i _ w6 ⟨ehs7, rfl, hi, hs7⟩
    refine W_seq ?_
    refine W_region ?_
    refine L0 (wanted_none rfl) rfl (y_lt rfl rfl rfl) ?_
    refine Lnil ?_
    refine W_seq ?_
    refine Wsp (t := 16) rfl (fun h8 => ?_) (fun h8 => ?_)
    · have h8' := h8
      first | replace h8' := of_decide_eq_true h8' | replace h8' := bnT' h8' | skip
      refine W_condT rfl h8 ?_
      refine W_skip ?_
      refine W_seq ?_
      refine W_block ?_
      refine W_seq ?_
      have hOc := hF.cell i (by omega)
      have hKe := hF.cells i (by omega)
      have hOb := hF.lt (by omega)
      obtain ⟨f, hf⟩ : ∃ f, f = l.getD i default := ⟨_, rfl⟩
      obtain ⟨vi, hvi⟩ : ∃ vi, vi = vc i := ⟨_, rfl⟩
      rw [← hf, ← hvi] at hOc hKe
      have hOc : ∀ q u, (flCells f vi)[q]? = some u → w.cell? ⟨adB v0, adO v0 + (i : Int).toNat * 3 + q, none⟩ = some u := hOc
      have hfm : f ∈ l := by rw [hf]; exact getDFl_mem (by omega)
      have hfl := hR.fl hfm
      have hfs := hfl.size
      have hfn := hfl.name.len
      have hfc := hR.csLen hfm
      have hpl := (hR.take i).len240
      have hil := itoa_len hfs.1 (by omega)
      refine W_region ?_
      refine L0 (wanted_none rfl) rfl (y_indexOps (v := v0) rfl Tryd.underlying87 sz97 rfl rfl hF.shape (by omega) (by omega)) ?_
      refine L1 (wanted_none rfl) rfl hs7 ((y_loadNOld (vs := flCells f vi) rfl Tryd.underlying97 rfl sz97 rfl hOc rfl (by decide) (old_notin hOb (fun x hx => by cases hx)))) ?_
      refine Lc (wanted_none rfl) (c_alloc hs7 rfl rfl zr97 (fun b9 w10 hbb9 hs11 => ?_))
      refine Lc (wanted_none rfl) (c_storeN (i := 0) hs11 rfl rfl rfl rfl sz97 (by rfl) (by intro u hu; simp only [flCells, List.mem_cons, List.not_mem_nil, or_false] at hu; rcases hu with rfl | rfl | rfl <;> first | rfl | exact hKe.oneE) rfl (by decide) (Fz.zero _) (fun w12 hs13 => ?_))
      have hs13 := hs13.at0E (c' := ⟨flCells f vi⟩) rfl
      refine Lnil ?_
      refine W_seq ?_
      refine W_drawSt [(0, 0), (0, 1), (0, 4), (1, 2), (1, 5), (0, 3), (3, 6), (0, 7), (0, 8), (0, 9)] hs13 mixed (by kernel_rfl) (fun w14 hs15 => ?_)
      refine E0 (wanted_none rfl) rfl (y_move (v := Value.string ⟨⟨_⟩⟩) rfl rfl) ?_
      refine E0 (wanted_none rfl) rfl (y_fieldAddr rfl Tryd.underlying97 rfl sz9 rfl) ?_
      refine E0 (wanted_none rfl) rfl (y_fieldAddr rfl Tryd.underlying97 rfl sz3 rfl) ?_
      refine E1 hs15 (wanted_none rfl) rfl (y_load 0 rfl Tryd.underlying9 rfl rfl rfl rfl) ?_
      refine E1 hs15 (wanted_none rfl) rfl (y_load 0 rfl Tryd.underlying3 rfl rfl rfl rfl) ?_
      refine E0 (wanted_none rfl) rfl (y_scat rfl rfl rfl (by first | omega | (simp; omega) | (simp only [List.length_append, List.length_cons, List.length_nil]; omega))) ?_
      refine E3 (wanted_none rfl) (c_call rfl rfl rfl Tryd.func108 (by kernel_rfl) rfl (itoa_any f.sz (by omega) (by omega) w14 (hE.keep hs15 (fr1 hbb9))) rfl ?_)
      rintro _ w16 ⟨rfl, hc17⟩
      have hs18 := hs15.call0 hc17
      refine ⟨fun _ => hs18, ?_⟩
      refine E0 (wanted_none rfl) rfl (y_scat rfl rfl rfl (by first | omega | (simp; omega) | (simp only [List.length_append, List.length_cons, List.length_nil]; omega))) ?_
      refine E0 (wanted_none rfl) rfl (y_scat rfl rfl rfl (by first | omega | (simp; omega) | (simp only [List.length_append, List.length_cons, List.length_nil]; omega))) ?_
      refine E0 (wanted_none rfl) rfl (y_assign (v := Value.string ⟨⟨_⟩⟩) rfl rfl) ?_
      refine Enil ?_
      refine W_seq ?_
      refine W_seq ?_
      refine W_region ?_
      refine L0 (wanted_none rfl) rfl (y_fieldAddr rfl Tryd.underlying97 rfl sz23 rfl) ?_
      refine L1 (wanted_none rfl) rfl hs18 ((y_load 0 rfl Tryd.underlying23 rfl rfl rfl (v := vi) rfl)) ?_
      refine L0 (wanted_none rfl) rfl (y_slenSl rfl Tryd.underlying23 rfl hKe) ?_
      refine L0 (wanted_none rfl) rfl (y_move (v := Value.int _ _) rfl rfl) ?_
      refine Lnil ?_
      refine W_block ?_
      refine W_loop (G := Nat) (fun k aL wl => ∃ e, aL = A 45 ((31, iv k) :: (30, iv f.cs.length) :: (29, vi) :: (15, iv i) :: (14, iv l.length) :: (13, v0) :: (0, v0) :: (4, str (accT (printed (l.take i) ++ ((f.nm ++ [32]) ++ Lib.itoa f.sz)) f.cs k)) :: e) ∧ k ≤ f.cs.length ∧ St w [(b9, .cells ⟨flCells f vi⟩ 97 (0, 0))] wl) (fun k => f.cs.length - k) (0) ?_ ?_
      · exact ⟨_, A_pins _ _ [31, 30, 29, 15, 14, 13, 0, 4], Nat.zero_le _, hs18⟩
      rintro k _ w19 ⟨ehs20, rfl, hk, hs20⟩
      refine W_seq ?_
      refine W_region ?_
      refine L0 (wanted_none rfl) rfl (y_lt rfl rfl rfl) ?_
      refine Lnil ?_
      refine W_seq ?_
      refine Wsp (t := 32) rfl (fun h21 => ?_) (fun h21 => ?_)
      · have h21' := h21
        first | replace h21' := of_decide_eq_true h21' | replace h21' := bnT' h21' | skip
        refine W_condT rfl h21 ?_
        refine W_skip ?_
        refine W_seq ?_
        refine W_block ?_
        refine W_seq ?_
        have hkr := hfl.cell (f.cs.getD k 0) (getD_mem (by omega))
        have hkl := itoa_len (n := f.cs.getD k 0) (by omega) (by omega)
        have hcl := cellsT_len (k := k) hfl.cell
        have hal : (accT (printed (l.take i) ++ ((f.nm ++ [32]) ++ Lib.itoa f.sz)) f.cs k).length ≤ 1000 := by
          rw [accT_eq _ (by omega)]; simp only [List.length_append, List.length_cons, List.length_nil]; omega
        refine W_region ?_
        refine L0 (wanted_none rfl) rfl (y_indexSlAt rfl Tryd.underlying23 sz3 rfl rfl hKe (by omega) (by omega)) ?_
        refine L1 (wanted_none rfl) rfl hs20 (y_loadSl k rfl Tryd.underlying3 rfl rfl hKe (by omega) (by omega) (fun x hx => (by obtain ⟨y, hy, rfl⟩ := List.mem_map.1 hx; exact fr1 hbb9 y hy))) ?_
        refine L0 (wanted_none rfl) rfl (y_assign (v := Value.int _ _) rfl rfl) ?_
        refine Lnil ?_
        refine W_region ?_
        refine L0 (wanted_none rfl) rfl (y_move (v := Value.string ⟨⟨_⟩⟩) rfl rfl) ?_
        refine L0 (wanted_none rfl) rfl (y_move (v := Value.int _ _) rfl rfl) ?_
        refine Lc (wanted_none rfl) (c_call rfl rfl rfl Tryd.func108 (by kernel_rfl) rfl (itoa_any (f.cs.getD k 0) (by omega) (by omega) w19 (hE.keep hs20 (fr1 hbb9))) rfl ?_)
        rintro _ w22 ⟨rfl, hc23⟩
        have hs24 := hs20.call0 hc23
        refine L0 (wanted_none rfl) rfl (y_scat rfl rfl rfl (by first | omega | (simp; omega) | (simp only [List.length_append, List.length_cons, List.length_nil]; omega))) ?_
        refine L0 (wanted_none rfl) rfl (y_scat rfl rfl rfl (by first | omega | (simp; omega) | (simp only [List.length_append, List.length_cons, List.length_nil]; omega))) ?_
        refine L0 (wanted_none rfl) rfl (y_assign (v := Value.string ⟨⟨_⟩⟩) rfl rfl) ?_
        refine Lnil ?_
        refine W_region ?_
        refine L0 (wanted_none rfl) rfl (y_add64 rfl rfl rfl (by omega)) ?_
        refine L0 (wanted_none rfl) rfl (y_move (v := Value.int _ _) rfl rfl) ?_
        refine Lnil ?_
        exact ⟨k + 1, by first | omega | (dsimp only; done) | (dsimp only; omega), _, A_c (iv_eq (by first | omega | (dsimp only; done) | (dsimp only; omega))) (A_c rfl (A_c rfl (A_c rfl (A_c rfl (A_c rfl (A_c rfl (A_c (str_eq (accT_succ _ _ _)) (rfl)))))))), by omega, hs24⟩
      · have h21' := h21
        first | replace h21' := of_decide_eq_false h21' | replace h21' := bnF' h21' | skip
        refine W_condF rfl h21 ?_
        refine W_exit ?_
        have hcl := cellsT_len (k := k) hfl.cell
        have hal : (accT (printed (l.take i) ++ ((f.nm ++ [32]) ++ Lib.itoa f.sz)) f.cs k).length ≤ 1000 := by
          rw [accT_eq _ (by omega)]; simp only [List.length_append, List.length_cons, List.length_nil]; omega
        refine W_region ?_
        refine L0 (wanted_none rfl) rfl (y_move (v := Value.string ⟨⟨_⟩⟩) rfl rfl) ?_
        refine L0 (wanted_none rfl) rfl (y_scat rfl rfl rfl (by first | omega | (simp; omega) | (simp only [List.length_append, List.length_cons, List.length_nil]; omega))) ?_
        refine L0 (wanted_none rfl) rfl (y_assign (v := Value.string ⟨⟨_⟩⟩) rfl rfl) ?_
        refine Lnil ?_
        refine W_region ?_
        refine L0 (wanted_none rfl) rfl (y_add64 rfl rfl rfl (by omega)) ?_
        refine L0 (wanted_none rfl) rfl (y_move (v := Value.int _ _) rfl rfl) ?_
        refine Lnil ?_
        have ek : f.cs.take k = f.cs := List.take_of_length_le (by omega)
        have hst : accT (printed (l.take i) ++ ((f.nm ++ [32]) ++ Lib.itoa f.sz)) f.cs k ++ [10] = printed (l.take (i + 1)) := by
          rw [accT_eq _ (by omega), ek, printed_take (by omega), ← hf, lb_eq]; simp only [List.append_assoc]
        exact ⟨i + 1, by first | omega | (dsimp only; done) | (dsimp only; omega), _, A_c (iv_eq (by first | omega | (dsimp only; done) | (dsimp only; omega))) (A_c rfl (A_c rfl (A_c rfl (A_c (str_eq hst) (rfl))))), by omega, hs20.drop (.inl hbb9)⟩
    · have h8' := h8
      first | replace h8' := of_decide_eq_false h8' | replace h8' := bnF' h8' | skip
      refine W_condF rfl h8 ?_
      refine W_exit ?_
      refine W_seq ?_
      refine W_region ?_
      refine L0 (wanted_none rfl) rfl (y_move (v := Value.string ⟨⟨_⟩⟩) rfl rfl) ?_
      refine L0 (wanted_none rfl) rfl (y_assign (v := Value.string ⟨⟨_⟩⟩) rfl rfl) ?_
      refine L0 (wanted_none rfl) rfl (y_assign (v := Value.nilIface) rfl rfl) ?_
      refine Lnil ?_
      refine W_ret ?_
      refine fin2 (fn := Tryd.f59) rfl rfl rfl ?_
      first | exact ⟨.inr ⟨fun h => by have h7 := hbo.2 h; simp_all, rfl⟩, hs7⟩ | (have ek : l.take i = l := List.take_of_length_le (by omega); rw [ek]; exact ⟨.inl ⟨hR, rfl⟩, hs7⟩)
end Go.Proofs.YtkolfgmpmnelmabDoor.Ent
