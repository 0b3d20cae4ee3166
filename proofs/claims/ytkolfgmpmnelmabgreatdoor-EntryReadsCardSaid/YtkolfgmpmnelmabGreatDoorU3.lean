/-
  Walk: the document's Print.
-/
import Derived.Test.YtkolfgmpmnelmabGreatDoorU2
import Derived.Test.YtkolfgmpmnelmabGreatDoorSj
import Derived.Test.YtkolfgmpmnelmabGreatDoorNA
namespace Go.Proofs.YtkolfgmpmnelmabGreatDoor.Ent
open Go Vx Go.Proofs Go.RowKit
set_option linter.unusedVariables false
set_option maxRecDepth 8000
set_option maxHeartbeats 4000000
/-- A line's parts, of so many cells. -/
def texts (f : Fl) (k : Nat) : List (List UInt8) := f.nm :: (f.sz :: f.cs.take k).map Lib.itoa
theorem texts_succ {f : Fl} {k : Nat} (h : k < f.cs.length) : texts f (k + 1) = texts f k ++ [Lib.itoa (f.cs.getD k 0)] := by
  rw [texts, texts, take_snoc h]; simp
theorem texts_len {f : Fl} {k : Nat} (h : k ≤ f.cs.length) : (texts f k).length = k + 2 := by
  simp [texts]; omega
theorem texts_join (f : Fl) : Lib.join (texts f f.cs.length) [32] = lb f := by rw [texts, List.take_length, join_lb]
theorem join_any (ts : List (List UInt8)) {B m : Nat} {v : Value} {ent L : Blocks} {w0 w : World} (hr : Row B 9 1 v m (ts.map str) ent) (hs : St w0 L w) (hin : ∀ x ∈ ent, x ∈ L) (hm : m = ts.length) (h0 : 0 < m) (hn : m ≤ 10000) (hlen : (Lib.join ts [32]).length ≤ 100000) :
    C Tryz.prog 22 ⟨[v, str [32]]⟩ w fun v w' => v = str (Lib.join ts [32]) ∧ St w [] w' := by
  have hsl := hr.sl hs hin []
  rcases hr.2 with ⟨_, h1, _⟩ | ⟨g, cap, cur, fz, rfl, rfl, h3, h4, h5, h6, h7, h8⟩
  · omega
  · have e1 : (ts.map fun t => (⟨⟨t⟩⟩ : ByteArray)).map (·.data.toList) = ts := by
      conv => rhs; rw [← List.map_id ts]
      rw [List.map_map]; rfl
    have e2 : (ts.map fun t => (⟨⟨t⟩⟩ : ByteArray)).length = m := by simp [hm]
    have h := Tryz.strings_Join g 0 cap (ts.map fun t => (⟨⟨t⟩⟩ : ByteArray)) ⟨⟨[32]⟩⟩ w (fun j x hx => by
      have hj : j < ts.length := by
        have := (List.getElem?_eq_some_iff.1 hx).1; simpa using this
      have h9 := hsl.cell j (by omega)
      rw [List.getElem?_map, List.getElem?_eq_getElem hj] at hx
      simp only [Option.map_some, Option.some.injEq] at hx
      subst hx
      rw [List.getD_eq_getElem?_getD, List.getElem?_eq_getElem hj] at h9
      exact h9) (lt_of_has (hs.has (g, .cells cur 9 fz) (hin _ (by simp)))) (by rw [e2]; omega) (by rw [e2]; exact h4) (by rw [e1]; show (Lib.join ts [32]).length ≤ _; omega)
    rw [e1, e2] at h
    exact Calls.mono h fun e w' ⟨he, hb⟩ => ⟨_, he, rfl, ofBelow hb⟩
theorem rjoin_any (f : Fl) (hf : FlP f) (hc : f.cs.length ≤ 1000) {B m : Nat} {v : Value} {ent L : Blocks} {w0 w : World} (hr : Row B 9 1 v m ((texts f f.cs.length).map str) ent) (hs : St w0 L w) (hin : ∀ x ∈ ent, x ∈ L) (hm : m = f.cs.length + 2) : C Tryz.prog 22 ⟨[v, str [32]]⟩ w fun v w' => v = str (lb f) ∧ St w [] w' := by
  have h := join_any (texts f f.cs.length) hr hs hin (by rw [texts_len (Nat.le_refl _)]; exact hm) (by omega) (by omega) (by rw [texts_join]; have := lb_len hf; omega)
  rwa [texts_join] at h
theorem rprint_any (l : List Fl) (v0 : Value) (vc : Nat → Value) (hL : FewL l) (w : World) (hF : FlsAt w v0 l vc) (hE : EntAt w) : C Tryz.prog 5 ⟨[v0]⟩ w fun v w' => (∃ t e, v = .tuple #[str t, iv e] ∧ (RightP l → t = printed l ∧ e = 0) ∧ (¬ RightP l → t = [] ∧ e = 1)) ∧ St w [] w' := by
  refine C_enter (n := 45) Tryz.func5 rfl rfl rfl (fun w1 hs1 => ?_)
  refine W_seq ?_
  refine W_region ?_
  refine L0 (wanted_none rfl) rfl (y_assign (v := Value.string ⟨⟨_⟩⟩) rfl rfl) ?_
  refine L0 (wanted_none rfl) rfl (y_assign (v := Value.int _ _) rfl rfl) ?_
  refine Lnil ?_
  refine W_seq ?_
  refine W_seq ?_
  refine W_region ?_
  refine L0 (wanted_none rfl) rfl (y_move (v := v0) rfl rfl) ?_
  refine Lc (wanted_none rfl) (c_call rfl rfl rfl Tryz.func9 (by kernel_rfl) rfl (rright_any l v0 vc hL w1 (hF.keep0 hs1)) rfl ?_)
  rintro vf w2 ⟨⟨bo, rfl, hbo⟩, hc3⟩
  have hs4 := hs1.call0 hc3
  refine L0 (wanted_none rfl) rfl (y_not rfl rfl) ?_
  refine Lnil ?_
  refine Wsp (t := 12) rfl (fun h5 => ?_) (fun h5 => ?_)
  · have h5' := h5
    first | replace h5' := of_decide_eq_true h5' | replace h5' := bnT' h5' | skip
    refine W_condT rfl h5 ?_
    refine W_seq ?_
    refine W_region ?_
    refine L0 (wanted_none rfl) rfl (y_assign (v := Value.string ⟨⟨_⟩⟩) rfl rfl) ?_
    refine L0 (wanted_none rfl) rfl (y_assign (v := Value.int _ _) rfl rfl) ?_
    refine Lnil ?_
    refine W_ret ?_
    refine fin2 (fn := Tryz.f5) rfl rfl rfl ?_
    first | exact ⟨⟨_, _, rfl, fun h => by have h7 := hbo.2 h; simp_all, fun _ => ⟨rfl, rfl⟩⟩, hs4⟩ | (have ek : l.take i = l := List.take_of_length_le (by omega); rw [ek]; exact ⟨⟨_, _, rfl, fun _ => ⟨rfl, rfl⟩, fun h => absurd hR h⟩, hs4⟩)
  · have h5' := h5
    first | replace h5' := of_decide_eq_false h5' | replace h5' := bnF' h5' | skip
    refine W_condF rfl h5 ?_
    refine W_skip ?_
    refine W_seq ?_
    have hR : RightP l := hbo.1 (by simpa using ‹(!bo) = false›)
    have hfew := hR.few
    refine W_region ?_
    refine L0 (wanted_none rfl) rfl (y_assign (v := Value.string ⟨⟨_⟩⟩) rfl rfl) ?_
    refine Lnil ?_
    refine W_seq ?_
    refine W_seq ?_
    refine W_region ?_
    refine L0 (wanted_none rfl) rfl (y_move (v := v0) rfl rfl) ?_
    refine L0 (wanted_none rfl) rfl (y_slenOps (v := v0) rfl Tryz.underlying22 rfl hF.shape) ?_
    refine L0 (wanted_none rfl) rfl (y_move (v := Value.int _ _) rfl rfl) ?_
    refine Lnil ?_
    refine W_block ?_
    refine W_loop (G := Nat) (fun i aL wl => ∃ e, aL = A 45 ((15, iv i) :: (14, iv l.length) :: (13, v0) :: (0, v0) :: (4, str (printed (l.take i))) :: e) ∧ i ≤ l.length ∧ St w [] wl) (fun i => l.length - i) (0) ?_ ?_
    · exact ⟨_, A_pins _ _ [15, 14, 13, 0, 4], Nat.zero_le _, hs4⟩
    rintro i _ w6 ⟨ehs7, rfl, hi, hs7⟩
    refine W_seq ?_
    refine W_region ?_
    refine L0 (wanted_none rfl) rfl (y_lt rfl rfl rfl) ?_
    refine Lnil ?_
    refine W_seq ?_
    refine Wsp (t := 16) rfl (fun h8 => ?_) (fun h8 => ?_)
    · have h8' := h8
      first | replace h8' := of_decide_eq_true h8' | replace h8' := bnT' h8' | skip
      refine W_condT rfl h8 ?_
      refine W_skip ?_
      refine W_seq ?_
      refine W_block ?_
      refine W_seq ?_
      have hOc := hF.cell i (by omega)
      have hKe := hF.cells i (by omega)
      have hOb := hF.lt (by omega)
      obtain ⟨f, hf⟩ : ∃ f, f = l.getD i default := ⟨_, rfl⟩
      obtain ⟨vi, hvi⟩ : ∃ vi, vi = vc i := ⟨_, rfl⟩
      rw [← hf, ← hvi] at hOc hKe
      have hOc : ∀ q u, (flCells f vi)[q]? = some u → w.cell? ⟨adB v0, adO v0 + (i : Int).toNat * 3 + q, none⟩ = some u := hOc
      have hfm : f ∈ l := by rw [hf]; exact getDFl_mem (by omega)
      have hfl := hR.fl hfm
      have hfs := hfl.size
      have hfn := hfl.name.len
      have hfc := hR.csLen hfm
      have hpl := (hR.take i).len240
      have hil := itoa_len hfs.1 (by omega)
      refine W_region ?_
      refine L0 (wanted_none rfl) rfl (y_indexOps (v := v0) rfl Tryz.underlying22 sz44 rfl rfl hF.shape (by omega) (by omega)) ?_
      refine L1 (wanted_none rfl) rfl hs7 ((y_loadNOld (vs := flCells f vi) rfl Tryz.underlying44 rfl sz44 rfl hOc rfl (by decide) (old_notin hOb (fun x hx => by cases hx)))) ?_
      refine Lc (wanted_none rfl) (c_alloc hs7 rfl rfl zr44 (fun b9 w10 hbb9 hs11 => ?_))
      refine Lc (wanted_none rfl) (c_storeN (i := 0) hs11 rfl rfl rfl rfl sz44 (by rfl) (by intro u hu; simp only [flCells, List.mem_cons, List.not_mem_nil, or_false] at hu; rcases hu with rfl | rfl | rfl <;> first | rfl | exact hKe.oneE) rfl (by decide) (Fz.zero _) (fun w12 hs13 => ?_))
      have hs13 := hs13.at0E (c' := ⟨flCells f vi⟩) rfl
      refine Lnil ?_
      refine W_seq ?_
      refine W_drawSt [(0, 0), (0, 2), (1, 1), (1, 3), (3, 4), (3, 5), (0, 6)] hs13 mixed (by kernel_rfl) (fun w14 hs15 => ?_)
      refine E0 (wanted_none rfl) rfl (y_fieldAddr rfl Tryz.underlying44 rfl sz9 rfl) ?_
      refine E0 (wanted_none rfl) rfl (y_fieldAddr rfl Tryz.underlying44 rfl sz3 rfl) ?_
      refine E1 hs15 (wanted_none rfl) rfl (y_load 0 rfl Tryz.underlying9 rfl rfl rfl rfl) ?_
      refine E1 hs15 (wanted_none rfl) rfl (y_load 0 rfl Tryz.underlying3 rfl rfl rfl rfl) ?_
      refine E3 (wanted_none rfl) (c_call rfl rfl rfl Tryz.func21 (by kernel_rfl) rfl (itoa_any f.sz (by omega) (by omega) w14 (hE.keep hs15 (fr1 hbb9))) rfl ?_)
      rintro _ w16 ⟨rfl, hc17⟩
      have hs18 := hs15.call0 hc17
      refine ⟨fun _ => hs18, ?_⟩
      refine E3 (wanted_none rfl) (c_bs2 (v0 := str _) (v1 := str _) hs18 rfl rfl Tryz.underlying46 sz9 zr9 rfl rfl rfl rfl  (fun b19 w20 hbb19 hs21 => ?_))
      refine ⟨fun _ => hs21.drop (.inl hbb19), ?_⟩
      refine E0 (wanted_none rfl) rfl (y_assign (v := Value.slice _ _ _) rfl rfl) ?_
      refine Enil ?_
      refine W_seq ?_
      refine W_seq ?_
      refine W_region ?_
      refine L0 (wanted_none rfl) rfl (y_fieldAddr rfl Tryz.underlying44 rfl sz35 rfl) ?_
      refine L1 (wanted_none rfl) rfl hs21 ((y_load 1 rfl Tryz.underlying35 rfl rfl rfl (v := vi) rfl)) ?_
      refine L0 (wanted_none rfl) rfl (y_slenSl rfl Tryz.underlying35 rfl hKe) ?_
      refine L0 (wanted_none rfl) rfl (y_move (v := Value.int _ _) rfl rfl) ?_
      refine Lnil ?_
      refine W_block ?_
      have hrow0 : Row w.heap.size 9 1 (.slice (some ⟨b19, 0, none⟩) 2 2) 2 ((texts f 0).map str) [(b19, .cells ⟨[str f.nm, str (Lib.itoa f.sz)]⟩ 9 (0, 0))] := Row.of_block (xs := [str f.nm, str (Lib.itoa f.sz)]) hbb19 (by simp)
      refine W_loop (G := Nat × Value × Blocks) (fun g aL wl => ∃ e, aL = A 45 ((28, iv g.1) :: (27, iv f.cs.length) :: (26, vi) :: (15, iv i) :: (14, iv l.length) :: (13, v0) :: (0, v0) :: (4, str (printed (l.take i))) :: (7, g.2.1) :: e) ∧ g.1 ≤ f.cs.length ∧ Row w.heap.size 9 1 g.2.1 (g.1 + 2) ((texts f g.1).map str) g.2.2 ∧ St w ((b9, .cells ⟨flCells f vi⟩ 44 (0, 0)) :: g.2.2) wl) (fun g => f.cs.length - g.1) ((0, .slice (some ⟨b19, 0, none⟩) 2 2, [(b19, .cells ⟨[str f.nm, str (Lib.itoa f.sz)]⟩ 9 (0, 0))])) ?_ ?_
      · exact ⟨_, A_pins _ _ [28, 27, 26, 15, 14, 13, 0, 4, 7], Nat.zero_le _, hrow0, (show St w ((b9, .cells ⟨flCells f vi⟩ 44 (0, 0)) :: [(b19, .cells ⟨[str f.nm, str (Lib.itoa f.sz)]⟩ 9 (0, 0))]) w20 from hs21.perm (List.Perm.swap _ _ _))⟩
      rintro g _ w22 ⟨ehs23, rfl, hk, hrow, hs23⟩
      obtain ⟨k, vW, ent⟩ := g
      dsimp only at *
      refine W_seq ?_
      refine W_region ?_
      refine L0 (wanted_none rfl) rfl (y_lt rfl rfl rfl) ?_
      refine Lnil ?_
      refine W_seq ?_
      refine Wsp (t := 29) rfl (fun h24 => ?_) (fun h24 => ?_)
      · have h24' := h24
        first | replace h24' := of_decide_eq_true h24' | replace h24' := bnT' h24' | skip
        refine W_condT rfl h24 ?_
        refine W_skip ?_
        refine W_seq ?_
        refine W_block ?_
        refine W_seq ?_
        have hkr := hfl.cell (f.cs.getD k 0) (getD_mem (by omega))
        refine W_region ?_
        refine L0 (wanted_none rfl) rfl (y_indexSlAt rfl Tryz.underlying35 sz3 rfl rfl hKe (by omega) (by omega)) ?_
        refine L1 (wanted_none rfl) rfl hs23 (y_loadSl k rfl Tryz.underlying3 rfl rfl hKe (by omega) (by omega) (fun x hx => (by obtain ⟨y, hy, rfl⟩ := List.mem_map.1 hx; exact freshLE hbb9 hrow.new y hy))) ?_
        refine L0 (wanted_none rfl) rfl (y_assign (v := Value.int _ _) rfl rfl) ?_
        refine Lnil ?_
        refine W_region ?_
        refine L0 (wanted_none rfl) rfl (y_move (v := vW) rfl rfl) ?_
        refine L0 (wanted_none rfl) rfl (y_move (v := Value.int _ _) rfl rfl) ?_
        refine Lc (wanted_none rfl) (c_call rfl rfl rfl Tryz.func21 (by kernel_rfl) rfl (itoa_any (f.cs.getD k 0) (by omega) (by omega) w22 (hE.keep hs23 (freshLE hbb9 hrow.new))) rfl ?_)
        rintro _ w25 ⟨rfl, hc26⟩
        have hs27 := hs23.call0 hc26
        refine Lc (wanted_none rfl) (c_bs1 (v0 := str _) hs27 rfl rfl Tryz.underlying46 sz9 zr9 rfl rfl  (fun b28 w29 hbb28 hs30 => ?_))
        refine Lc (wanted_none rfl) (c_appendG (L0 := [(b28, .cells ⟨[str (Lib.itoa (f.cs.getD k 0))]⟩ 9 (0, 0)), (b9, .cells ⟨flCells f vi⟩ 44 (0, 0))]) (ent := ent) hs30 (List.Perm.refl _) rfl rfl Tryz.underlying46 sz9 zr9 by9 rfl rfl hrow (Nat.le_refl _) (fun x hx => .inl (hrow.new x hx)) rfl (Src.ofBlock (kk := 1) (hs30.get 0 rfl) rfl) (by simp [Value.oneCell']) (by omega) (by omega) (fun vP entP w31 hrow2' hn33 hs32 => ?_))
        have hrow2 := hrow2'
        have hnew_hrow2 := hn33
        replace hs32 := St.drop (L := (b9, .cells ⟨flCells f vi⟩ 44 (0, 0)) :: entP) hs32 (.inl hbb28)
        refine L0 (wanted_none rfl) rfl (y_assign (v := vP) rfl rfl) ?_
        refine Lnil ?_
        refine W_region ?_
        refine L0 (wanted_none rfl) rfl (y_add64 rfl rfl rfl (by omega)) ?_
        refine L0 (wanted_none rfl) rfl (y_move (v := Value.int _ _) rfl rfl) ?_
        refine Lnil ?_
        exact ⟨(k + 1, vP, entP), by first | omega | (dsimp only; done) | (dsimp only; omega), _, A_c (iv_eq (by first | omega | (dsimp only; done) | (dsimp only; omega))) (A_c rfl (A_c rfl (A_c rfl (A_c rfl (A_c rfl (A_c rfl (A_c rfl (A_c rfl (rfl))))))))), by omega, (by rw [texts_succ (by omega), List.map_append]; exact hrow2), hs32⟩
      · have h24' := h24
        first | replace h24' := of_decide_eq_false h24' | replace h24' := bnF' h24' | skip
        refine W_condF rfl h24 ?_
        refine W_exit ?_
        have hrow := hrow
        obtain rfl : k = f.cs.length := by omega
        have hll := lb_len hfl
        refine W_region ?_
        refine L0 (wanted_none rfl) rfl (y_move (v := Value.string ⟨⟨_⟩⟩) rfl rfl) ?_
        refine L0 (wanted_none rfl) rfl (y_move (v := vW) rfl rfl) ?_
        refine Lc (wanted_none rfl) (c_call rfl rfl rfl Tryz.func22 (by kernel_rfl) rfl (rjoin_any f hfl (by omega) hrow hs23 (fun x hx => List.mem_cons_of_mem _ hx) rfl) rfl ?_)
        rintro _ w34 ⟨rfl, hc35⟩
        have hs36 := hs23.call0 hc35
        refine L0 (wanted_none rfl) rfl (y_scat rfl rfl rfl (by first | omega | (simp; omega) | (simp only [List.length_append, List.length_cons, List.length_nil]; omega))) ?_
        refine L0 (wanted_none rfl) rfl (y_scat rfl rfl rfl (by first | omega | (simp; omega) | (simp only [List.length_append, List.length_cons, List.length_nil]; omega))) ?_
        refine L0 (wanted_none rfl) rfl (y_assign (v := Value.string ⟨⟨_⟩⟩) rfl rfl) ?_
        refine Lnil ?_
        refine W_region ?_
        refine L0 (wanted_none rfl) rfl (y_add64 rfl rfl rfl (by omega)) ?_
        refine L0 (wanted_none rfl) rfl (y_move (v := Value.int _ _) rfl rfl) ?_
        refine Lnil ?_
        have hst : printed (l.take i) ++ (lb f ++ [10]) = printed (l.take (i + 1)) := by rw [printed_take (by omega), ← hf]
        exact ⟨i + 1, by first | omega | (dsimp only; done) | (dsimp only; omega), _, A_c (iv_eq (by first | omega | (dsimp only; done) | (dsimp only; omega))) (A_c rfl (A_c rfl (A_c rfl (A_c (str_eq hst) (rfl))))), by omega, (hs36.drop (.inl hbb9)).drops (fun x hx => .inl (hrow.new x hx))⟩
    · have h8' := h8
      first | replace h8' := of_decide_eq_false h8' | replace h8' := bnF' h8' | skip
      refine W_condF rfl h8 ?_
      refine W_exit ?_
      refine W_seq ?_
      refine W_region ?_
      refine L0 (wanted_none rfl) rfl (y_move (v := Value.string ⟨⟨_⟩⟩) rfl rfl) ?_
      refine L0 (wanted_none rfl) rfl (y_assign (v := Value.string ⟨⟨_⟩⟩) rfl rfl) ?_
      refine L0 (wanted_none rfl) rfl (y_assign (v := Value.int _ _) rfl rfl) ?_
      refine Lnil ?_
      refine W_ret ?_
      refine fin2 (fn := Tryz.f5) rfl rfl rfl ?_
      first | exact ⟨⟨_, _, rfl, fun h => by have h7 := hbo.2 h; simp_all, fun _ => ⟨rfl, rfl⟩⟩, hs7⟩ | (have ek : l.take i = l := List.take_of_length_le (by omega); rw [ek]; exact ⟨⟨_, _, rfl, fun _ => ⟨rfl, rfl⟩, fun h => absurd hR h⟩, hs7⟩)
end Go.Proofs.YtkolfgmpmnelmabGreatDoor.Ent
