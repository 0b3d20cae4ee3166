/-
  Walk: law.ZoneKeeps.
-/
import Derived.Test.YtkolfgmpmnelmabDoorYJ
import Derived.Test.YtkolfgmpmnelmabDoorYC
namespace Go.Proofs.YtkolfgmpmnelmabDoor
open Go Vx Go.Proofs
set_option linter.unusedVariables false
set_option maxRecDepth 8000
set_option maxHeartbeats 8000000

structure OpV where
  what : Int
  at_ : Int
  s : List UInt8
  keeps : List Int
  slots : List Bool
  deriving Inhabited
def opCells (o : OpV) (vk vl : Value) : List Value := [iv o.what, iv o.at_, str o.s, vk, vl]
/-- Deeds that came in. -/
structure OpsAt (w : World) (v : Value) (l : List OpV) (vk vl : Nat → Value) : Prop where
  shape : ∃ a cap, v = .slice a l.length cap ∧ (0 < l.length → a = some ⟨adB v, adO v, none⟩)
  cell : ∀ j, j < l.length → ∀ q u, (opCells (l.getD j default) (vk j) (vl j))[q]? = some u → w.cell? ⟨adB v, adO v + j * 5 + q, none⟩ = some u
  keeps : ∀ j, j < l.length → Sl w (vk j) (l.getD j default).keeps.length (fun k => iv ((l.getD j default).keeps.getD k 0))
  slots : ∀ j, j < l.length → Sl w (vl j) (l.getD j default).slots.length (fun k => .bool ((l.getD j default).slots.getD k false))
  top : ∀ j, j < l.length → (l.getD j default).at_ ≤ 9223372036854775807
theorem Vx.Sl.one {w : World} {v : Value} {m : Nat} {f : Nat → Value} (h : Sl w v m f) : v.oneCell' = true := by
  obtain ⟨a, cap, h1, _⟩ := h.shape
  rw [h1]; rfl
theorem SlW.keepK {w w' : World} {K L' : Blocks} {v : Value} {l : List (List UInt8)} (hS : SlW w v l) (h : St w (K ++ L') w') (hK : ∀ x ∈ K, w.heap.size ≤ x.1) (hL : ∀ x ∈ L', w.heap.size ≤ x.1) : SlW w' v l := ⟨keepH hS.1 h hK hL, hS.2⟩
section
variable {P : Program} {n : Nat} {e : Env} {o : Oper} {x y : Operand} {ty : TypeId} {w0 : World} {L : Blocks} {d : TypeDesc}
theorem y_indexOps {v : Value} {m s el : Nat} {k : IntKind} {i : Int} (ho : o.op = .indexAddr ty x y) (ht : P.underlying ty = some (.slice el)) (hs : (P.info? el).map (·.size) = some s) (hx : opv n e x = v) (hy : opv n e y = .int k i) (h : ∃ a cap, v = .slice a m cap ∧ (0 < m → a = some ⟨adB v, adO v, none⟩)) (h0 : 0 ≤ i) (h1 : i < m) : Y0 P n e o (pv (adB v) (adO v + i.toNat * s)) := by
  obtain ⟨a, cap, h2, h3⟩ := h
  rw [h2, h3 (by omega)] at hx
  exact y_indexSl ho ht hs hx hy h0 h1
theorem y_loadNOld {s b off : Nat} {vs : List Value} (ho : o.op = .load ty x) (ht : P.underlying ty = some d) (hd : isAggB d = true) (hsz : (P.info? ty).map (·.size) = some s) (hx : opv n e x = pv b off) (hc : ∀ q u, vs[q]? = some u → w0.cell? ⟨b, off + q, none⟩ = some u) (hl : vs.length = s) (h0 : 0 < s) (hb : b ∉ keys L) : Y1 P n e o (St w0 L) (.agg ⟨vs⟩) := fun w hs => by
  have hlt : b < w0.heap.size := by
    have h1 := hc 0 vs[0] (List.getElem?_eq_getElem (by omega))
    rcases Nat.lt_or_ge b w0.heap.size with h | h
    · exact h
    · simp [World.cell?, Array.getElem?_eq_none h] at h1
  have h1 : (loadCells ⟨b, off, none⟩ s).run P w = .ok ⟨vs⟩ w := by
    have := run_loadCells_list (P := P) w ⟨b, off, none⟩ vs (fun j u hj => by
      rw [add_lit, ← hc j u hj]
      exact World.cell?_of_block (a := ⟨b, off + j, none⟩) (hs.fr b hlt hb))
    rw [hl] at this; exact this
  have h2 : (loadVar ty ⟨b, off, none⟩).run P w = .ok (.agg ⟨vs⟩) w := by simp [loadVar, run_isAgg ht, hd, run_sizeOf' hsz, h1]
  simp only [execOp, ho, hx, Instr.loadAt, Instr.sureAddr, Sem.run_bind, Sem.run_pure, Result.andThen_ok, h2]
end
theorem Vx.St.only {w0 w : World} {x : Nat × Obj} {L : Blocks} (h : St w0 (x :: L) w) (hL : ∀ y ∈ L, w0.heap.size ≤ y.1) : St w0 [x] w := (h.perm (List.perm_append_singleton x L).symm).dropL (M := L) hL
theorem fr1 {n b : Nat} {o : Obj} (hb : n ≤ b) : ∀ x ∈ [(b, o)], n ≤ x.1 := freshL hb (fun x hx => by cases hx)
theorem fr2 {n b c : Nat} {o p : Obj} (hb : n ≤ b) (hc : n ≤ c) : ∀ x ∈ [(b, o), (c, p)], n ≤ x.1 := freshL hb (fr1 hc)
theorem fr3 {n b c d : Nat} {o p q : Obj} (hb : n ≤ b) (hc : n ≤ c) (hd : n ≤ d) : ∀ x ∈ [(b, o), (c, p), (d, q)], n ≤ x.1 := freshL hb (fr2 hc hd)
theorem Both.freshX {W0 : World} {X : Blocks} {b c : Nat} {D E : Dv} {m : Mem} {w : World} (h : Both W0 X b c D E m w) (hX : ∀ x ∈ X, W0.heap.size ≤ x.1) : ∀ x ∈ X ++ (oursB b D m ++ refsB c E m), W0.heap.size ≤ x.1 := freshA hX (freshA h.freshO h.freshR)
theorem Both.freshY {W0 : World} {X Y : Blocks} {b c : Nat} {D E : Dv} {m : Mem} {w : World} (h : Both W0 X b c D E m w) (hY : ∀ x ∈ Y, W0.heap.size ≤ x.1) : ∀ x ∈ Y ++ (oursB b D m ++ refsB c E m), W0.heap.size ≤ x.1 := freshA hY (freshA h.freshO h.freshR)
theorem y_slenOps {P : Program} {n : Nat} {e : Env} {o : Oper} {x : Operand} {ty el : TypeId} {v : Value} {m : Nat} (ho : o.op = .call { callee := .builtin .len, args := #[x], argTypes := #[ty] }) (ht : P.underlying ty = some (.slice el)) (hx : opv n e x = v) (h : ∃ a cap, v = .slice a m cap ∧ (0 < m → a = some ⟨adB v, adO v, none⟩)) : Y0 P n e o (iv m) := by
  obtain ⟨a, cap, h1, _⟩ := h
  rw [h1] at hx; exact y_slen ho ht hx
theorem old_notin {n b : Nat} {L : Blocks} (hb : b < n) (hL : ∀ x ∈ L, n ≤ x.1) : b ∉ keys L := fun hm => by
  obtain ⟨x, hx, rfl⟩ := List.mem_map.1 hm
  have := hL x hx; omega
theorem si_le {zi : Nat → List (List UInt8)} {si : Nat → List UInt8} (h : Narrow zi si) (h2 : ∀ j, 2 ≤ j → si j = []) (j : Nat) : (si j).length ≤ 1000000 := by
  by_cases e0 : j = 0
  · subst e0; have := h.s.1; omega
  by_cases e1 : j = 1
  · subst e1; have := h.s.2; omega
  rw [h2 j (by omega)]; decide
theorem si_le2 {zi : Nat → List (List UInt8)} {si : Nat → List UInt8} (h : Narrow zi si) (h2 : ∀ j, 2 ≤ j → si j = []) (j : Nat) : (si j).length ≤ 100000 := by
  by_cases e0 : j = 0
  · subst e0; have := h.s.1; omega
  by_cases e1 : j = 1
  · subst e1; have := h.s.2; omega
  rw [h2 j (by omega)]; decide
theorem zi_le2 {zi : Nat → List (List UInt8)} {si : Nat → List UInt8} (h : Narrow zi si) (j : Nat) (hj : j < 8) : (zi j).length ≤ 1000 ∧ ∀ k, ((zi j).getD k []).length ≤ 100000 := by
  obtain ⟨h1, h2⟩ := h.z j hj
  refine ⟨by omega, fun k => ?_⟩
  rcases Nat.lt_or_ge k (zi j).length with h3 | h3
  · have := h2 k h3; omega
  · rw [List.getD_eq_getElem?_getD, List.getElem?_eq_none h3]; decide
theorem zi_le {zi : Nat → List (List UInt8)} {si : Nat → List UInt8} (h : Narrow zi si) (j : Nat) (hj : j < 8) : (zi j).length ≤ 1000 ∧ ∀ k, ((zi j).getD k []).length ≤ 1000000 :=
  ⟨(zi_le2 h j hj).1, fun k => by have := (zi_le2 h j hj).2 k; omega⟩
def atq (a : Int) (q : Nat) : Int := [a, 0, 7, 8, -1].getD q 0
theorem at5 (a : Int) {q : Nat} (h : q < 5) : (⟨[iv a, iv 0, iv 7, iv 8, iv (-1)]⟩ : Array Value)[0 + (q : Int).toNat * 1]? = some (iv (atq a q)) := by
  have h : q = 0 ∨ q = 1 ∨ q = 2 ∨ q = 3 ∨ q = 4 := by omega
  rcases h with rfl | rfl | rfl | rfl | rfl <;> rfl
theorem atN_le {D : Dv} {k : Nat} (h : DInv D k) (i : Int) : atN D i ≤ 16 := by
  rw [atN]
  split
  · omega
  · exact (h.z i.toNat (by omega)).2
theorem keeps_any (l : List OpV) (v0 : Value) (vk vl vs : Nat → Value) (zi : Nat → List (List UInt8)) (si : Nat → List UInt8) (w : World) (hO : OpsAt w v0 l vk vl) (hIm : ∀ j, j < 8 → SlW w (vs j) (zi j)) (hsi : ∀ j, 2 ≤ j → si j = []) (he : ErrAt w) :
    C Tryd.prog 6 ⟨[v0, .agg ⟨icells vs si⟩]⟩ w fun v w' => v = .bool true ∧ St w [] w' := by
  have hel := he.lt
  have hEr : ∀ {L : Blocks} {w' : World}, St w L w' → (∀ x ∈ L, w.heap.size ≤ x.1) → ErrAt w' := fun hs hf => he.keep hs (fun hm => by obtain ⟨x, hx, e⟩ := List.mem_map.1 hm; have h7 := hf x hx; omega)
  refine C_enter (n := 237) Tryd.func6 rfl rfl rfl (fun w1 hs1 => ?_)
  refine W_seq ?_
  refine W_region ?_
  refine Lc (wanted_none rfl) (c_box hs1 rfl rfl rfl (fun b2 w3 hbb2 hs4 => ?_))
  have hs4 := hs4.at0 (c' := ⟨icells vs si⟩) rfl
  refine L0 (wanted_none rfl) rfl (y_assign (v := Value.bool _) rfl rfl) ?_
  refine Lnil ?_
  refine W_seq ?_
  refine W_seq ?_
  refine W_region ?_
  refine L0 (wanted_none rfl) rfl (y_move (v := v0) rfl rfl) ?_
  refine L0 (wanted_none rfl) rfl (y_slenOps (v := v0) rfl Tryd.underlying56 rfl hO.shape) ?_
  refine L0 (wanted_none rfl) rfl (y_gt rfl rfl rfl) ?_
  refine L0 (wanted_none rfl) rfl (y_move (v := Value.bool _) rfl rfl) ?_
  refine Lsp (t := 24) rfl (fun h5 => ?_) (fun h5 => ?_)
  · have h5' := h5
    first | replace h5' := of_decide_eq_true h5' | replace h5' := bnT' h5' | skip
    refine Lno (wanted_noB rfl rfl rfl h5 (by decide)) rfl ?_
    refine Lno (wanted_noB rfl rfl rfl h5 (by decide)) rfl ?_
    refine L0 (wanted_none rfl) rfl (y_pickT rfl rfl h5 rfl) ?_
    refine Lnil ?_
    refine W_condT rfl rfl ?_
    refine W_seq ?_
    refine W_region ?_
    refine L0 (wanted_none rfl) rfl (y_assign (v := Value.bool _) rfl rfl) ?_
    refine Lnil ?_
    refine W_ret ?_
    refine fin1 (fn := Tryd.f6) rfl rfl ?_
    first | exact ⟨rfl, hs4.drop (.inl hbb2)⟩ | exact ⟨rfl, hs4.drops (fun x hx => .inl (freshL hbNOBLOCK (hB.freshX (fr1 hbb2)) x hx))⟩ | exact ⟨rfl, hs4.drops (fun x hx => .inl (hB.freshX (fr1 hbb2) x hx))⟩
  · have h5' := h5
    first | replace h5' := of_decide_eq_false h5' | replace h5' := bnF' h5' | skip
    refine L1 (wanted_yesB rfl rfl rfl h5) rfl hs4 ((y_loadN 0 rfl Tryd.underlying59 rfl sz59 rfl rfl (by show 0 + 10 ≤ 10; omega))) ?_
    refine Lc (wanted_yesB rfl rfl rfl h5) (c_call rfl rfl rfl Tryd.func31 (by kernel_rfl) rfl (wide_any vs zi si w3 (fun j hj => ((hIm j hj).1).keep hs4 (by intro k hk; simp [keys] at hk; omega))) rfl ?_)
    rintro vf w6 ⟨⟨bo, rfl, hnar⟩, hc7⟩
    have hs8 := hs4.call0 hc7
    refine L0 (wanted_none rfl) rfl (y_pickF rfl rfl h5 rfl) ?_
    refine Lnil ?_
    refine Wsp (t := 27) rfl (fun h9 => ?_) (fun h9 => ?_)
    · have h9' := h9
      refine W_condT rfl h9 ?_
      refine W_seq ?_
      refine W_region ?_
      refine L0 (wanted_none rfl) rfl (y_assign (v := Value.bool _) rfl rfl) ?_
      refine Lnil ?_
      refine W_ret ?_
      refine fin1 (fn := Tryd.f6) rfl rfl ?_
      first | exact ⟨rfl, hs8.drop (.inl hbb2)⟩ | exact ⟨rfl, hs8.drops (fun x hx => .inl (freshL hbNOBLOCK (hB.freshX (fr1 hbb2)) x hx))⟩ | exact ⟨rfl, hs8.drops (fun x hx => .inl (hB.freshX (fr1 hbb2) x hx))⟩
    · have h9' := h9
      refine W_condF rfl h9 ?_
      refine W_skip ?_
      refine W_seq ?_
      have hN : Narrow zi si := hnar (by cases bo <;> simp_all)
      have hsl : ∀ j, (si j).length ≤ 1000000 := si_le hN hsi
      have hsl2 : ∀ j, (si j).length ≤ 100000 := si_le2 hN hsi
      have hzl : ∀ j, j < 8 → (zi j).length ≤ 1000 ∧ ∀ k, ((zi j).getD k []).length ≤ 1000000 := zi_le hN
      have hzl2 : ∀ j, j < 8 → (zi j).length ≤ 1000 ∧ ∀ k, ((zi j).getD k []).length ≤ 100000 := zi_le2 hN
      refine W_region ?_
      refine Lc (wanted_none rfl) (c_call rfl rfl rfl Tryd.func32 (by kernel_rfl) rfl (rnew_ok (K := [(b2, .cells ⟨icells vs si⟩ 59 (0, 0))]) hs8) rfl ?_)
      rintro vq w10 ⟨c, rfl, hR0⟩
      have hs12 := hR0.st
      refine Lc (wanted_none rfl) (c_call rfl rfl rfl Tryd.func13 (by kernel_rfl) rfl (new_ok (K := (b2, .cells ⟨icells vs si⟩ 59 (0, 0)) :: ((c, .cells ⟨rcells (fun _ => .slice none 0 0) newD.sure newD.slot (.slice none 0 0) (.slice none 0 0) newD.fuse⟩ 135 (0, 0)) :: ([] ++ ([] ++ [])))) hs12) rfl ?_)
      rintro vq w13 ⟨b, vz0, rows0, rfl, hD0⟩
      obtain ⟨m0, hBS⟩ : ∃ m0, Both w [(b2, .cells ⟨icells vs si⟩ 59 (0, 0))] b c newD newD m0 w13 := ⟨⟨vz0, .slice none 0 0, [], rows0, fun _ => .slice none 0 0, .slice none 0 0, .slice none 0 0, [], [], []⟩, hD0.st.re (fun a => by simp only [List.cons_append, List.nil_append, ct_append, ct_cons, ct_nil]; omega), hD0.rz, hD0.rw, hD0.newb, hD0.newr, hR0.rz, hR0.rA, hR0.rW, hR0.newb, hR0.newr⟩
      have hs15 := hBS.st
      refine L0 (wanted_none rfl) rfl (y_assign (v := Value.pointer _) rfl rfl) ?_
      refine L0 (wanted_none rfl) rfl (y_assign (v := Value.pointer _) rfl rfl) ?_
      refine Lnil ?_
      refine W_seq ?_
      refine W_seq ?_
      refine W_region ?_
      refine L0 (wanted_none rfl) rfl (y_assign (v := Value.int _ _) rfl rfl) ?_
      refine Lnil ?_
      refine W_block ?_
      refine W_loop (G := Nat × Dv × Mem) (fun g aL wl => ∃ e, aL = A 237 ((7, iv g.1) :: (0, v0) :: (3, pv b2 0) :: (5, pv c 0) :: (6, pv b 0) :: e) ∧ g.1 ≤ l.length ∧ DInv g.2.1 g.1 ∧ Both w [(b2, .cells ⟨icells vs si⟩ 59 (0, 0))] b c g.2.1 g.2.1 g.2.2 wl) (fun g => l.length - g.1) ((0, newD, m0)) ?_ ?_
      · exact ⟨_, A_pins _ _ [7, 0, 3, 5, 6], Nat.zero_le _, newD_inv, hBS⟩
      rintro g _ w16 ⟨ehs17, rfl, hi, hDi, hB⟩
      obtain ⟨i, D, m⟩ := g
      dsimp only at *
      have hs17 := hB.st
      refine W_seq ?_
      refine W_seq ?_
      refine W_region ?_
      refine L0 (wanted_none rfl) rfl (y_move (v := Value.int _ _) rfl rfl) ?_
      refine L0 (wanted_none rfl) rfl (y_move (v := v0) rfl rfl) ?_
      refine L0 (wanted_none rfl) rfl (y_slenOps (v := v0) rfl Tryd.underlying56 rfl hO.shape) ?_
      refine L0 (wanted_none rfl) rfl (y_lt rfl rfl rfl) ?_
      refine Lnil ?_
      refine Wsp (t := 33) rfl (fun h18 => ?_) (fun h18 => ?_)
      · have h18' := h18
        first | replace h18' := of_decide_eq_true h18' | replace h18' := bnT' h18' | skip
        refine W_condT rfl h18 ?_
        refine W_skip ?_
        refine W_seq ?_
        refine W_block ?_
        refine W_seq ?_
        have hOc := hO.cell i (by omega)
        have hKe := hO.keeps i (by omega)
        have hLa := hO.slots i (by omega)
        have hwf := hO.top i (by omega)
        obtain ⟨o, ho⟩ : ∃ o, o = l.getD i default := ⟨_, rfl⟩
        rw [← ho] at hOc hKe hLa hwf
        have hOb : adB v0 < w.heap.size := by
          rcases Nat.lt_or_ge (adB v0) w.heap.size with h7 | h7
          · exact h7
          · have h8 := hOc 0 _ rfl
            simp [World.cell?, Array.getElem?_eq_none h7] at h8
        have hOc : ∀ q u, (opCells o (vk i) (vl i))[q]? = some u → w.cell? ⟨adB v0, adO v0 + (i : Int).toNat * 5 + q, none⟩ = some u := hOc
        refine W_region ?_
        refine L0 (wanted_none rfl) rfl (y_move (v := v0) rfl rfl) ?_
        refine L0 (wanted_none rfl) rfl (y_move (v := Value.int _ _) rfl rfl) ?_
        refine L0 (wanted_none rfl) rfl (y_indexOps (v := v0) rfl Tryd.underlying56 sz65 rfl rfl hO.shape (by omega) (by omega)) ?_
        refine L1 (wanted_none rfl) rfl hs17 ((y_loadNOld (vs := opCells o (vk i) (vl i)) rfl Tryd.underlying65 rfl sz65 rfl hOc rfl (by decide) (old_notin hOb (hB.freshX (fr1 hbb2))))) ?_
        refine Lc (wanted_none rfl) (c_alloc hs17 rfl rfl zr65 (fun b19 w20 hbb19 hs21 => ?_))
        refine Lc (wanted_none rfl) (c_storeN (i := 0) hs21 rfl rfl rfl rfl sz65 (by rfl) (by intro u hu; simp only [opCells, List.mem_cons, List.not_mem_nil, or_false] at hu; rcases hu with rfl | rfl | rfl | rfl | rfl <;> first | rfl | exact hKe.one | exact hLa.one) rfl (by decide) (Fz.zero _) (fun w22 hs23 => ?_))
        have hs23 := hs23.at0 (c' := ⟨opCells o (vk i) (vl i)⟩) rfl
        refine Lnil ?_
        refine W_seq ?_
        refine W_seq ?_
        have hBB := hB.drewn (X' := [(b19, .cells ⟨opCells o (vk i) (vl i)⟩ 65 (0, 0)), (b2, .cells ⟨icells vs si⟩ 59 (0, 0))]) hs23
        have hII : DInv D (i + 1) := hDi.mono (by omega)
        refine W_region ?_
        refine L0 (wanted_none rfl) rfl (y_fieldAddr rfl Tryd.underlying65 rfl sz9 rfl) ?_
        refine L1 (wanted_none rfl) rfl hs23 (y_load 0 rfl Tryd.underlying9 rfl rfl rfl rfl) ?_
        refine L0 (wanted_none rfl) rfl (y_len rfl Tryd.underlying9 rfl) ?_
        refine L0 (wanted_none rfl) rfl (y_gt rfl rfl rfl) ?_
        refine L0 (wanted_none rfl) rfl (y_move (v := Value.bool _) rfl rfl) ?_
        refine Lsp (t := 44) rfl (fun h24 => ?_) (fun h24 => ?_)
        · have h24' := h24
          first | replace h24' := of_decide_eq_true h24' | replace h24' := bnT' h24' | skip
          refine Lno (wanted_noB rfl rfl rfl h24 (by decide)) rfl ?_
          refine Lno (wanted_noB rfl rfl rfl h24 (by decide)) rfl ?_
          refine Lno (wanted_noB rfl rfl rfl h24 (by decide)) rfl ?_
          refine Lno (wanted_noB rfl rfl rfl h24 (by decide)) rfl ?_
          refine L0 (wanted_none rfl) rfl (y_pickT rfl rfl h24 rfl) ?_
          refine L0 (wanted_none rfl) rfl (y_move (v := Value.bool _) rfl rfl) ?_
          refine Lno (wanted_noB rfl rfl rfl rfl (by decide)) rfl ?_
          refine Lno (wanted_noB rfl rfl rfl rfl (by decide)) rfl ?_
          refine Lno (wanted_noB rfl rfl rfl rfl (by decide)) rfl ?_
          refine Lno (wanted_noB rfl rfl rfl rfl (by decide)) rfl ?_
          refine L0 (wanted_none rfl) rfl (y_pickT rfl rfl (rfl : true = true) rfl) ?_
          refine Lnil ?_
          refine W_condT rfl rfl ?_
          refine W_seq ?_
          refine W_region ?_
          refine L0 (wanted_none rfl) rfl (y_assign (v := Value.bool _) rfl rfl) ?_
          refine Lnil ?_
          refine W_ret ?_
          refine fin1 (fn := Tryd.f6) rfl rfl ?_
          first | exact ⟨rfl, hs23.drop (.inl hbb2)⟩ | exact ⟨rfl, hs23.drops (fun x hx => .inl (freshL hbb19 (hB.freshX (fr1 hbb2)) x hx))⟩ | exact ⟨rfl, hs23.drops (fun x hx => .inl (hB.freshX (fr1 hbb2) x hx))⟩
        · have h24' := h24
          first | replace h24' := of_decide_eq_false h24' | replace h24' := bnF' h24' | skip
          refine L0 (wanted_yesB rfl rfl rfl h24) rfl (y_fieldAddr rfl Tryd.underlying65 rfl sz23 rfl) ?_
          refine L1 (wanted_yesB rfl rfl rfl h24) rfl hs23 ((y_load 0 rfl Tryd.underlying23 rfl rfl rfl (v := vk i) rfl)) ?_
          refine L0 (wanted_yesB rfl rfl rfl h24) rfl (y_slenSl rfl Tryd.underlying23 rfl hKe) ?_
          refine L0 (wanted_yesB rfl rfl rfl h24) rfl (y_gt rfl rfl rfl) ?_
          refine L0 (wanted_none rfl) rfl (y_pickF rfl rfl h24 rfl) ?_
          refine L0 (wanted_none rfl) rfl (y_move (v := Value.bool _) rfl rfl) ?_
          refine Lsp (t := 50) rfl (fun h25 => ?_) (fun h25 => ?_)
          · have h25' := h25
            first | replace h25' := of_decide_eq_true h25' | replace h25' := bnT' h25' | skip
            refine Lno (wanted_noB rfl rfl rfl h25 (by decide)) rfl ?_
            refine Lno (wanted_noB rfl rfl rfl h25 (by decide)) rfl ?_
            refine Lno (wanted_noB rfl rfl rfl h25 (by decide)) rfl ?_
            refine Lno (wanted_noB rfl rfl rfl h25 (by decide)) rfl ?_
            refine L0 (wanted_none rfl) rfl (y_pickT rfl rfl h25 rfl) ?_
            refine Lnil ?_
            refine W_condT rfl rfl ?_
            refine W_seq ?_
            refine W_region ?_
            refine L0 (wanted_none rfl) rfl (y_assign (v := Value.bool _) rfl rfl) ?_
            refine Lnil ?_
            refine W_ret ?_
            refine fin1 (fn := Tryd.f6) rfl rfl ?_
            first | exact ⟨rfl, hs23.drop (.inl hbb2)⟩ | exact ⟨rfl, hs23.drops (fun x hx => .inl (freshL hbb19 (hB.freshX (fr1 hbb2)) x hx))⟩ | exact ⟨rfl, hs23.drops (fun x hx => .inl (hB.freshX (fr1 hbb2) x hx))⟩
          · have h25' := h25
            first | replace h25' := of_decide_eq_false h25' | replace h25' := bnF' h25' | skip
            refine L0 (wanted_yesB rfl rfl rfl h25) rfl (y_fieldAddr rfl Tryd.underlying65 rfl sz63 rfl) ?_
            refine L1 (wanted_yesB rfl rfl rfl h25) rfl hs23 ((y_load 0 rfl Tryd.underlying63 rfl rfl rfl (v := vl i) rfl)) ?_
            refine L0 (wanted_yesB rfl rfl rfl h25) rfl (y_slenSl rfl Tryd.underlying63 rfl hLa) ?_
            refine L0 (wanted_yesB rfl rfl rfl h25) rfl (y_gt rfl rfl rfl) ?_
            refine L0 (wanted_none rfl) rfl (y_pickF rfl rfl h25 rfl) ?_
            refine Lnil ?_
            refine Wsp (t := 55) rfl (fun h26 => ?_) (fun h26 => ?_)
            · have h26' := h26
              first | replace h26' := of_decide_eq_true h26' | replace h26' := bnT' h26' | skip
              refine W_condT rfl h26 ?_
              refine W_seq ?_
              refine W_region ?_
              refine L0 (wanted_none rfl) rfl (y_assign (v := Value.bool _) rfl rfl) ?_
              refine Lnil ?_
              refine W_ret ?_
              refine fin1 (fn := Tryd.f6) rfl rfl ?_
              first | exact ⟨rfl, hs23.drop (.inl hbb2)⟩ | exact ⟨rfl, hs23.drops (fun x hx => .inl (freshL hbb19 (hB.freshX (fr1 hbb2)) x hx))⟩ | exact ⟨rfl, hs23.drops (fun x hx => .inl (hB.freshX (fr1 hbb2) x hx))⟩
            · have h26' := h26
              first | replace h26' := of_decide_eq_false h26' | replace h26' := bnF' h26' | skip
              refine W_condF rfl h26 ?_
              refine W_skip ?_
              refine W_seq ?_
              refine W_seq ?_
              refine W_region ?_
              refine L0 (wanted_none rfl) rfl (y_fieldAddr rfl Tryd.underlying65 rfl sz3 rfl) ?_
              refine L1 (wanted_none rfl) rfl hs23 (y_load 0 rfl Tryd.underlying3 rfl rfl rfl rfl) ?_
              refine Lnil ?_
              refine W_block ?_
              refine W_seq ?_
              refine W_region ?_
              refine L0 (wanted_none rfl) rfl (y_eq rfl rfl rfl) ?_
              refine L0 (wanted_none rfl) rfl (y_assign (v := Value.bool _) rfl rfl) ?_
              refine Lnil ?_
              refine Wsp (t := 58) rfl (fun h27 => ?_) (fun h27 => ?_)
              · have h27' := h27
                first | replace h27' := of_decide_eq_true h27' | replace h27' := bnT' h27' | skip
                refine W_condT rfl h27 ?_
                refine W_seq ?_
                refine W_region ?_
                refine L0 (wanted_none rfl) rfl (y_move (v := Value.pointer _) rfl rfl) ?_
                refine L0 (wanted_none rfl) rfl (y_fieldAddr rfl Tryd.underlying65 rfl sz3 rfl) ?_
                refine L1 (wanted_none rfl) rfl hs23 (y_load 0 rfl Tryd.underlying3 rfl rfl rfl rfl) ?_
                refine L0 (wanted_none rfl) rfl (y_fieldAddr rfl Tryd.underlying65 rfl sz9 rfl) ?_
                refine L1 (wanted_none rfl) rfl hs23 (y_load 0 rfl Tryd.underlying9 rfl rfl rfl rfl) ?_
                refine Lc (wanted_none rfl) (c_call rfl rfl rfl Tryd.func33 (by kernel_rfl) rfl (rapp_all (hBB.drewn (X' := [(b19, .cells ⟨opCells o (vk i) (vl i)⟩ 65 (0, 0)), (b2, .cells ⟨icells vs si⟩ 59 (0, 0))]) hs23).refs hII o.at_ o.s (by omega)) rfl ?_)
                rintro vq w28 ⟨uz, rowz, rfl, hR⟩
                have hBH := (hBB.drewn (X' := [(b19, .cells ⟨opCells o (vk i) (vl i)⟩ 65 (0, 0)), (b2, .cells ⟨icells vs si⟩ 59 (0, 0))]) hs23).toRefs hR
                have hs30 := hBH.st
                refine L0 (wanted_none rfl) rfl (y_move (v := Value.tuple ⟨_⟩) rfl rfl) ?_
                refine L0 (wanted_none rfl) rfl (y_extract rfl rfl rfl) ?_
                refine L0 (wanted_none rfl) rfl (y_extract rfl rfl rfl) ?_
                refine L0 (wanted_none rfl) rfl (y_assign (v := Value.int _ _) rfl rfl) ?_
                refine L0 (wanted_none rfl) rfl (y_assign (v := Value.int _ _) rfl rfl) ?_
                refine Lnil ?_
                refine W_seq ?_
                refine W_region ?_
                refine L0 (wanted_none rfl) rfl (y_move (v := Value.pointer _) rfl rfl) ?_
                refine L0 (wanted_none rfl) rfl (y_fieldAddr rfl Tryd.underlying65 rfl sz3 rfl) ?_
                refine L1 (wanted_none rfl) rfl hs30 (y_load 0 rfl Tryd.underlying3 rfl rfl rfl rfl) ?_
                refine L0 (wanted_none rfl) rfl (y_fieldAddr rfl Tryd.underlying65 rfl sz9 rfl) ?_
                refine L1 (wanted_none rfl) rfl hs30 (y_load 0 rfl Tryd.underlying9 rfl rfl rfl rfl) ?_
                refine Lc (wanted_none rfl) (c_call rfl rfl rfl Tryd.func15 (by kernel_rfl) rfl (app_all (hBH.drewn (X' := [(b19, .cells ⟨opCells o (vk i) (vl i)⟩ 65 (0, 0)), (b2, .cells ⟨icells vs si⟩ 59 (0, 0))]) hs30).ours hII o.at_ o.s (by omega)) rfl ?_)
                rintro vq w31 ⟨e1, uz2, rowz2, rfl, hbe, hO1⟩
                have hBB := (hBH.drewn (X' := [(b19, .cells ⟨opCells o (vk i) (vl i)⟩ 65 (0, 0)), (b2, .cells ⟨icells vs si⟩ 59 (0, 0))]) hs30).toOurs hO1
                have hII := hII.app o.at_ o.s
                have hs33 := hBB.st
                refine L0 (wanted_none rfl) rfl (y_move (v := Value.tuple ⟨_⟩) rfl rfl) ?_
                refine L0 (wanted_none rfl) rfl (y_extract rfl rfl rfl) ?_
                refine L0 (wanted_none rfl) rfl (y_extract rfl rfl rfl) ?_
                refine L0 (wanted_none rfl) rfl (y_assign (v := Value.int _ _) rfl rfl) ?_
                refine L0 (wanted_none rfl) rfl (y_assign (v := _) rfl rfl) ?_
                refine Lnil ?_
                refine W_seq ?_
                refine W_region ?_
                refine L0 (wanted_none rfl) rfl (y_move (v := _) rfl rfl) ?_
                refine L0 (wanted_none rfl) rfl (y_move (v := Value.int _ _) rfl rfl) ?_
                refine Lc (wanted_none rfl) (c_call rfl rfl rfl Tryd.func29 (by kernel_rfl) rfl (bare_of hbe w31 (hEr hs33 (hBB.freshX (fr2 hbb19 hbb2)))) rfl ?_)
                rintro vb w34 ⟨rfl, hc35⟩
                have hs36 := hs33.call0 hc35
                refine L0 (wanted_none rfl) rfl (y_not rfl rfl) ?_
                refine L0 (wanted_none rfl) rfl (y_move (v := Value.bool _) rfl rfl) ?_
                refine Lkn (t := 82) (b0 := false) rfl (by rfl) (fun h37 => ?_)
                refine L0 (wanted_yesB rfl rfl rfl h37) rfl (y_move (v := Value.int _ _) rfl rfl) ?_
                refine L0 (wanted_yesB rfl rfl rfl h37) rfl (y_move (v := Value.int _ _) rfl rfl) ?_
                refine L0 (wanted_yesB rfl rfl rfl h37) rfl (y_ne rfl rfl rfl) ?_
                refine L0 (wanted_none rfl) rfl (y_pickF rfl rfl h37 rfl) ?_
                refine Lnil ?_
                refine Wkn (t := 86) (b0 := false) rfl (by exact bnF rfl) (fun h38 => ?_)
                refine W_condF rfl h38 ?_
                refine W_skip ?_
                refine W_seq ?_
                refine W_seq ?_
                obtain ⟨D1, m1, hB1, hI1⟩ : ∃ D1 m1, Both w [(b19, .cells ⟨opCells o (vk i) (vl i)⟩ 65 (0, 0)), (b2, .cells ⟨icells vs si⟩ 59 (0, 0))] b c D1 D1 m1 w34 ∧ DInv D1 (i + 1) := ⟨_, _, hBB.drewn (X' := [(b19, .cells ⟨opCells o (vk i) (vl i)⟩ 65 (0, 0)), (b2, .cells ⟨icells vs si⟩ 59 (0, 0))]) hs36, hII⟩
                have hs36 := hB1.st
                refine W_region ?_
                refine L0 (wanted_none rfl) rfl (y_move (v := Value.pointer _) rfl rfl) ?_
                refine Lc (wanted_none rfl) (c_call rfl rfl rfl Tryd.func47 (by kernel_rfl) rfl (image_ok hB1.ours hI1.z) rfl ?_)
                rintro vq w39 ⟨vs1, im1, rfl, hO1, hR1, hF1⟩
                have hs41 := hO1.st.re (L' := im1 ++ ((b19, .cells ⟨opCells o (vk i) (vl i)⟩ 65 (0, 0)) :: (b2, .cells ⟨icells vs si⟩ 59 (0, 0)) :: (oursB b D1 m1 ++ refsB c D1 m1))) (fun a => by simp only [List.cons_append, List.nil_append, ct_append, ct_cons, ct_nil]; omega)
                refine L0 (wanted_none rfl) rfl (y_move (v := Value.pointer _) rfl rfl) ?_
                refine Lc (wanted_none rfl) (c_call rfl rfl rfl Tryd.func48 (by kernel_rfl) rfl (rimage_ok (hB1.drewn (X' := im1 ++ [(b19, .cells ⟨opCells o (vk i) (vl i)⟩ 65 (0, 0)), (b2, .cells ⟨icells vs si⟩ 59 (0, 0))]) (hs41.re (fun a => by simp only [List.cons_append, List.nil_append, ct_append, ct_cons, ct_nil]; omega))).refs hI1.z) rfl ?_)
                rintro vq w42 ⟨vs2, im2, rfl, hO2, hR2, hF2⟩
                have hs44 := hO2.st.re (L' := im2 ++ (im1 ++ ((b19, .cells ⟨opCells o (vk i) (vl i)⟩ 65 (0, 0)) :: (b2, .cells ⟨icells vs si⟩ 59 (0, 0)) :: (oursB b D1 m1 ++ refsB c D1 m1)))) (fun a => by simp only [List.cons_append, List.nil_append, ct_append, ct_cons, ct_nil]; omega)
                refine Lc (wanted_none rfl) (c_call rfl rfl rfl Tryd.func46 (by kernel_rfl) rfl (sameImage_any vs1 vs2 D1.slot (imZ D1 8) w42 (fun j hj => by rw [imZ, if_pos hj, List.length_take]; have := (hI1.z j hj).2; omega) (fun j hj => (hR1 j hj).sl hs44 (fun x hx => by simp [hx])) (fun j hj => (hR2 j hj).sl hs44 (fun x hx => by simp [hx]))) rfl ?_)
                rintro vq w45 ⟨rfl, hc46⟩
                have hs47 := ((hs44.call0 hc46).dropL hF2).dropL hF1
                refine L0 (wanted_none rfl) rfl (y_not rfl rfl) ?_
                refine Lnil ?_
                refine Wkn (t := 160) (b0 := false) rfl (by rfl) (fun h48 => ?_)
                refine W_condF rfl h48 ?_
                refine W_skip ?_
                refine W_seq ?_
                refine W_region ?_
                refine L0 (wanted_none rfl) rfl (y_fieldAddr rfl Tryd.underlying65 rfl sz3 rfl) ?_
                refine L1 (wanted_none rfl) rfl hs47 (y_load 0 rfl Tryd.underlying3 rfl rfl rfl rfl) ?_
                refine Lc (wanted_none rfl) (c_buildSlice (cells := [iv o.at_, iv 0, iv 7, iv 8, iv (-1)]) hs47 rfl rfl Tryd.underlying23 sz3 zr3 (by decide) (by kernel_rfl) (fun b49 w50 hbb49 hs51 => ?_))
                refine L0 (wanted_none rfl) rfl (y_slen rfl Tryd.underlying23 rfl) ?_
                refine L0 (wanted_none rfl) rfl (y_move (v := Value.int _ _) rfl rfl) ?_
                refine Lnil ?_
                refine W_block ?_
                refine W_loop (G := Nat) (fun q aL wl => ∃ e, aL = A 237 ((165, iv q) :: (164, iv 5) :: (163, .slice (some ⟨b49, 0, none⟩) 5 5) :: (7, iv i) :: (0, v0) :: (3, pv b2 0) :: (5, pv c 0) :: (6, pv b 0) :: e) ∧ q ≤ 5 ∧ Both w ((b49, .cells ⟨[iv o.at_, iv 0, iv 7, iv 8, iv (-1)]⟩ 3 (0, 0)) :: [(b19, .cells ⟨opCells o (vk i) (vl i)⟩ 65 (0, 0)), (b2, .cells ⟨icells vs si⟩ 59 (0, 0))]) b c D1 D1 m1 wl) (fun q => 5 - q) (0) ?_ ?_
                · exact ⟨_, A_pins _ _ [165, 164, 163, 7, 0, 3, 5, 6], Nat.zero_le _, hB1.drewn hs51⟩
                rintro q _ w52 ⟨ehs53, rfl, hq, hBq⟩
                have hs53 := hBq.st
                refine W_seq ?_
                refine W_region ?_
                refine L0 (wanted_none rfl) rfl (y_lt rfl rfl rfl) ?_
                refine Lnil ?_
                refine W_seq ?_
                refine Wsp (t := 166) rfl (fun h54 => ?_) (fun h54 => ?_)
                · have h54' := h54
                  first | replace h54' := of_decide_eq_true h54' | replace h54' := bnT' h54' | skip
                  refine W_condT rfl h54 ?_
                  refine W_skip ?_
                  refine W_seq ?_
                  refine W_block ?_
                  refine W_seq ?_
                  have hat := atN_le hI1 (atq o.at_ q)
                  refine W_region ?_
                  refine L0 (wanted_none rfl) rfl (y_indexSl rfl Tryd.underlying23 sz3 rfl rfl (by omega) (by omega)) ?_
                  refine L1 (wanted_none rfl) rfl hs53 (y_load 0 rfl Tryd.underlying3 rfl rfl rfl (at5 _ (by omega))) ?_
                  refine L0 (wanted_none rfl) rfl (y_assign (v := Value.int _ _) rfl rfl) ?_
                  refine Lnil ?_
                  refine W_seq ?_
                  refine W_region ?_
                  refine L0 (wanted_none rfl) rfl (y_move (v := Value.pointer _) rfl rfl) ?_
                  refine L0 (wanted_none rfl) rfl (y_move (v := Value.int _ _) rfl rfl) ?_
                  refine Lc (wanted_none rfl) (c_call rfl rfl rfl Tryd.func49 (by kernel_rfl) rfl (have_all (hBq.drewn hs53).refs (atq o.at_ q)) rfl ?_)
                  rintro vq w55 ⟨rfl, hc56⟩
                  have hs57 := hs53.call0 hc56
                  refine L0 (wanted_none rfl) rfl (y_move (v := Value.tuple ⟨_⟩) rfl rfl) ?_
                  refine L0 (wanted_none rfl) rfl (y_extract rfl rfl rfl) ?_
                  refine L0 (wanted_none rfl) rfl (y_extract rfl rfl rfl) ?_
                  refine L0 (wanted_none rfl) rfl (y_assign (v := Value.int _ _) rfl rfl) ?_
                  refine L0 (wanted_none rfl) rfl (y_assign (v := Value.int _ _) rfl rfl) ?_
                  refine Lnil ?_
                  refine W_seq ?_
                  refine W_region ?_
                  refine L0 (wanted_none rfl) rfl (y_move (v := Value.pointer _) rfl rfl) ?_
                  refine L0 (wanted_none rfl) rfl (y_move (v := Value.int _ _) rfl rfl) ?_
                  refine Lc (wanted_none rfl) (c_call rfl rfl rfl Tryd.func18 (by kernel_rfl) rfl (at_all (hBq.drewn hs57).ours (atq o.at_ q)) rfl ?_)
                  rintro vq w58 ⟨⟨e1, rfl, hbe1⟩, hc59⟩
                  have hs60 := hs57.call0 hc59
                  refine L0 (wanted_none rfl) rfl (y_move (v := Value.tuple ⟨_⟩) rfl rfl) ?_
                  refine L0 (wanted_none rfl) rfl (y_extract rfl rfl rfl) ?_
                  refine L0 (wanted_none rfl) rfl (y_extract rfl rfl rfl) ?_
                  refine L0 (wanted_none rfl) rfl (y_assign (v := Value.int _ _) rfl rfl) ?_
                  refine L0 (wanted_none rfl) rfl (y_assign (v := _) rfl rfl) ?_
                  refine Lnil ?_
                  refine W_seq ?_
                  refine W_seq ?_
                  refine W_region ?_
                  refine L0 (wanted_none rfl) rfl (y_move (v := _) rfl rfl) ?_
                  refine L0 (wanted_none rfl) rfl (y_move (v := Value.int _ _) rfl rfl) ?_
                  refine Lc (wanted_none rfl) (c_call rfl rfl rfl Tryd.func29 (by kernel_rfl) rfl (bare_of hbe1 w58 (hEr hs60 (hBq.freshX (fr3 hbb49 hbb19 hbb2)))) rfl ?_)
                  rintro vb w61 ⟨rfl, hc62⟩
                  have hs63 := hs60.call0 hc62
                  refine L0 (wanted_none rfl) rfl (y_not rfl rfl) ?_
                  refine L0 (wanted_none rfl) rfl (y_move (v := Value.bool _) rfl rfl) ?_
                  refine Lkn (t := 185) (b0 := false) rfl (by rfl) (fun h64 => ?_)
                  refine L0 (wanted_yesB rfl rfl rfl h64) rfl (y_move (v := Value.int _ _) rfl rfl) ?_
                  refine L0 (wanted_yesB rfl rfl rfl h64) rfl (y_move (v := Value.int _ _) rfl rfl) ?_
                  refine L0 (wanted_yesB rfl rfl rfl h64) rfl (y_ne rfl rfl rfl) ?_
                  refine L0 (wanted_none rfl) rfl (y_pickF rfl rfl h64 rfl) ?_
                  refine Lnil ?_
                  refine Wkn (t := 189) (b0 := false) rfl (by exact bnF rfl) (fun h65 => ?_)
                  refine W_condF rfl h65 ?_
                  refine W_skip ?_
                  refine W_seq ?_
                  refine W_region ?_
                  refine L0 (wanted_none rfl) rfl (y_move (v := Value.pointer _) rfl rfl) ?_
                  refine L0 (wanted_none rfl) rfl (y_move (v := Value.int _ _) rfl rfl) ?_
                  refine L0 (wanted_none rfl) rfl (y_move (v := Value.int _ _) rfl rfl) ?_
                  refine L0 (wanted_none rfl) rfl (y_sub64 rfl rfl rfl (by omega)) ?_
                  refine Lc (wanted_none rfl) (c_call rfl rfl rfl Tryd.func50 (by kernel_rfl) rfl (rread_all (hBq.drewn hs63).refs hI1 (atq o.at_ q) _) rfl ?_)
                  rintro vq w66 ⟨rfl, hc67⟩
                  have hs68 := hs63.call0 hc67
                  refine L0 (wanted_none rfl) rfl (y_move (v := Value.tuple ⟨_⟩) rfl rfl) ?_
                  refine L0 (wanted_none rfl) rfl (y_extract rfl rfl rfl) ?_
                  refine L0 (wanted_none rfl) rfl (y_extract rfl rfl rfl) ?_
                  refine L0 (wanted_none rfl) rfl (y_assign (v := Value.string ⟨⟨_⟩⟩) rfl rfl) ?_
                  refine L0 (wanted_none rfl) rfl (y_assign (v := Value.int _ _) rfl rfl) ?_
                  refine Lnil ?_
                  refine W_seq ?_
                  refine W_region ?_
                  refine L0 (wanted_none rfl) rfl (y_move (v := Value.pointer _) rfl rfl) ?_
                  refine L0 (wanted_none rfl) rfl (y_move (v := Value.int _ _) rfl rfl) ?_
                  refine L0 (wanted_none rfl) rfl (y_move (v := Value.int _ _) rfl rfl) ?_
                  refine L0 (wanted_none rfl) rfl (y_sub64 rfl rfl rfl (by omega)) ?_
                  refine Lc (wanted_none rfl) (c_call rfl rfl rfl Tryd.func19 (by kernel_rfl) rfl (read_all (hBq.drewn hs68).ours (atq o.at_ q) _) rfl ?_)
                  rintro vq w69 ⟨⟨e2, rfl, hbe2⟩, hc70⟩
                  have hs71 := hs68.call0 hc70
                  refine L0 (wanted_none rfl) rfl (y_move (v := Value.tuple ⟨_⟩) rfl rfl) ?_
                  refine L0 (wanted_none rfl) rfl (y_extract rfl rfl rfl) ?_
                  refine L0 (wanted_none rfl) rfl (y_extract rfl rfl rfl) ?_
                  refine L0 (wanted_none rfl) rfl (y_assign (v := Value.string ⟨⟨_⟩⟩) rfl rfl) ?_
                  refine L0 (wanted_none rfl) rfl (y_assign (v := _) rfl rfl) ?_
                  refine Lnil ?_
                  refine W_seq ?_
                  refine W_seq ?_
                  refine W_region ?_
                  refine L0 (wanted_none rfl) rfl (y_move (v := _) rfl rfl) ?_
                  refine L0 (wanted_none rfl) rfl (y_move (v := Value.int _ _) rfl rfl) ?_
                  refine Lc (wanted_none rfl) (c_call rfl rfl rfl Tryd.func29 (by kernel_rfl) rfl (bare_of hbe2 w69 (hEr hs71 (hBq.freshX (fr3 hbb49 hbb19 hbb2)))) rfl ?_)
                  rintro vb w72 ⟨rfl, hc73⟩
                  have hs74 := hs71.call0 hc73
                  refine L0 (wanted_none rfl) rfl (y_not rfl rfl) ?_
                  refine L0 (wanted_none rfl) rfl (y_move (v := Value.bool _) rfl rfl) ?_
                  refine Lkn (t := 210) (b0 := false) rfl (by rfl) (fun h75 => ?_)
                  refine L0 (wanted_yesB rfl rfl rfl h75) rfl (y_move (v := Value.string ⟨⟨_⟩⟩) rfl rfl) ?_
                  refine L0 (wanted_yesB rfl rfl rfl h75) rfl (y_move (v := Value.string ⟨⟨_⟩⟩) rfl rfl) ?_
                  refine L0 (wanted_yesB rfl rfl rfl h75) rfl (y_sne rfl rfl rfl) ?_
                  refine L0 (wanted_none rfl) rfl (y_pickF rfl rfl h75 rfl) ?_
                  refine Lnil ?_
                  refine Wkn (t := 214) (b0 := false) rfl (by exact bnF rfl) (fun h76 => ?_)
                  refine W_condF rfl h76 ?_
                  refine W_skip ?_
                  refine W_seq ?_
                  refine W_region ?_
                  refine L0 (wanted_none rfl) rfl (y_move (v := Value.pointer _) rfl rfl) ?_
                  refine L0 (wanted_none rfl) rfl (y_move (v := Value.int _ _) rfl rfl) ?_
                  refine Lc (wanted_none rfl) (c_call rfl rfl rfl Tryd.func51 (by kernel_rfl) rfl (rget_all (hBq.drewn hs74).refs hI1 (by omega) (atq o.at_ q)) rfl ?_)
                  rintro vq w77 ⟨rfl, hc78⟩
                  have hs79 := hs74.call0 hc78
                  refine L0 (wanted_none rfl) rfl (y_move (v := Value.tuple ⟨_⟩) rfl rfl) ?_
                  refine L0 (wanted_none rfl) rfl (y_extract rfl rfl rfl) ?_
                  refine L0 (wanted_none rfl) rfl (y_extract rfl rfl rfl) ?_
                  refine L0 (wanted_none rfl) rfl (y_assign (v := Value.string ⟨⟨_⟩⟩) rfl rfl) ?_
                  refine L0 (wanted_none rfl) rfl (y_assign (v := Value.int _ _) rfl rfl) ?_
                  refine Lnil ?_
                  refine W_seq ?_
                  refine W_region ?_
                  refine L0 (wanted_none rfl) rfl (y_move (v := Value.pointer _) rfl rfl) ?_
                  refine L0 (wanted_none rfl) rfl (y_move (v := Value.int _ _) rfl rfl) ?_
                  refine Lc (wanted_none rfl) (c_call rfl rfl rfl Tryd.func52 (by kernel_rfl) rfl (get_all (hBq.drewn hs79).ours hI1 (by omega) (atq o.at_ q)) rfl ?_)
                  rintro vq w80 ⟨⟨e3, rfl, hbe3⟩, hc81⟩
                  have hs82 := hs79.call0 hc81
                  refine L0 (wanted_none rfl) rfl (y_move (v := Value.tuple ⟨_⟩) rfl rfl) ?_
                  refine L0 (wanted_none rfl) rfl (y_extract rfl rfl rfl) ?_
                  refine L0 (wanted_none rfl) rfl (y_extract rfl rfl rfl) ?_
                  refine L0 (wanted_none rfl) rfl (y_assign (v := Value.string ⟨⟨_⟩⟩) rfl rfl) ?_
                  refine L0 (wanted_none rfl) rfl (y_assign (v := _) rfl rfl) ?_
                  refine Lnil ?_
                  refine W_seq ?_
                  refine W_region ?_
                  refine L0 (wanted_none rfl) rfl (y_move (v := _) rfl rfl) ?_
                  refine L0 (wanted_none rfl) rfl (y_move (v := Value.int _ _) rfl rfl) ?_
                  refine Lc (wanted_none rfl) (c_call rfl rfl rfl Tryd.func29 (by kernel_rfl) rfl (bare_of hbe3 w80 (hEr hs82 (hBq.freshX (fr3 hbb49 hbb19 hbb2)))) rfl ?_)
                  rintro vb w83 ⟨rfl, hc84⟩
                  have hs85 := hs82.call0 hc84
                  refine L0 (wanted_none rfl) rfl (y_not rfl rfl) ?_
                  refine L0 (wanted_none rfl) rfl (y_move (v := Value.bool _) rfl rfl) ?_
                  refine Lkn (t := 231) (b0 := false) rfl (by rfl) (fun h86 => ?_)
                  refine L0 (wanted_yesB rfl rfl rfl h86) rfl (y_move (v := Value.string ⟨⟨_⟩⟩) rfl rfl) ?_
                  refine L0 (wanted_yesB rfl rfl rfl h86) rfl (y_move (v := Value.string ⟨⟨_⟩⟩) rfl rfl) ?_
                  refine L0 (wanted_yesB rfl rfl rfl h86) rfl (y_sne rfl rfl rfl) ?_
                  refine L0 (wanted_none rfl) rfl (y_pickF rfl rfl h86 rfl) ?_
                  refine Lnil ?_
                  refine Wkn (t := 235) (b0 := false) rfl (by exact bnF rfl) (fun h87 => ?_)
                  refine W_condF rfl h87 ?_
                  refine W_skip ?_
                  refine W_region ?_
                  refine L0 (wanted_none rfl) rfl (y_add64 rfl rfl rfl (by omega)) ?_
                  refine L0 (wanted_none rfl) rfl (y_move (v := Value.int _ _) rfl rfl) ?_
                  refine Lnil ?_
                  exact ⟨q + 1, by first | omega | (dsimp only; done) | (dsimp only; omega), _, A_c (iv_eq (by first | omega | (dsimp only; done) | (dsimp only; omega))) (A_c rfl (A_c rfl (A_c rfl (A_c rfl (A_c rfl (A_c rfl (A_c rfl (rfl)))))))), by omega, hBq.drewn hs85⟩
                · have h54' := h54
                  first | replace h54' := of_decide_eq_false h54' | replace h54' := bnF' h54' | skip
                  refine W_condF rfl h54 ?_
                  refine W_exit ?_
                  refine W_region ?_
                  refine L0 (wanted_none rfl) rfl (y_move (v := Value.int _ _) rfl rfl) ?_
                  refine L0 (wanted_none rfl) rfl (y_add64 rfl rfl rfl (by omega)) ?_
                  refine L0 (wanted_none rfl) rfl (y_assign (v := Value.int _ _) rfl rfl) ?_
                  refine Lnil ?_
                  exact ⟨(i + 1, D1, m1), by first | omega | (dsimp only; done) | (dsimp only; omega), _, A_c (iv_eq (by first | omega | (dsimp only; done) | (dsimp only; omega))) (A_c rfl (A_c rfl (A_c rfl (A_c rfl (rfl))))), by first | omega | (dsimp only; done) | (dsimp only; omega), hI1, hB1.drewn (X' := [(b2, .cells ⟨icells vs si⟩ 59 (0, 0))]) ((hs53.drop (.inl hbb49)).drop (.inl hbb19))⟩
              · have h27' := h27
                first | replace h27' := of_decide_eq_false h27' | replace h27' := bnF' h27' | skip
                refine W_condF rfl h27 ?_
                refine W_seq ?_
                refine W_region ?_
                refine L0 (wanted_none rfl) rfl (y_eq rfl rfl rfl) ?_
                refine L0 (wanted_none rfl) rfl (y_assign (v := Value.bool _) rfl rfl) ?_
                refine Lnil ?_
                refine Wsp (t := 87) rfl (fun h88 => ?_) (fun h88 => ?_)
                · have h88' := h88
                  first | replace h88' := of_decide_eq_true h88' | replace h88' := bnT' h88' | skip
                  refine W_condT rfl h88 ?_
                  refine W_seq ?_
                  refine W_drawS [(0, 0), (0, 1), (0, 4), (0, 5), (1, 2), (1, 6), (3, 3), (3, 7), (3, 8), (0, 9)] (fun w2 => St w [(b19, .cells ⟨opCells o (vk i) (vl i)⟩ 65 (0, 0))] w2 ∧ True) hs23 mixed (by kernel_rfl) (fun w89 hs90 => ?_)
                  refine E0 (wanted_none rfl) rfl (y_move (v := Value.pointer _) rfl rfl) ?_
                  refine E0 (wanted_none rfl) rfl (y_fieldAddr rfl Tryd.underlying65 rfl sz3 rfl) ?_
                  refine E0 (wanted_none rfl) rfl (y_move (v := Value.pointer _) rfl rfl) ?_
                  refine E0 (wanted_none rfl) rfl (y_fieldAddr rfl Tryd.underlying65 rfl sz3 rfl) ?_
                  refine E1 ⟨hs90.only (hBB.freshY (fr1 hbb2)), trivial⟩ (wanted_none rfl) rfl (fun w2 hSS => by obtain ⟨h2, _⟩ := hSS; exact (y_load 0 rfl Tryd.underlying3 rfl rfl rfl rfl) w2 h2) ?_
                  refine E1 ⟨hs90.only (hBB.freshY (fr1 hbb2)), trivial⟩ (wanted_none rfl) rfl (fun w2 hSS => by obtain ⟨h2, _⟩ := hSS; exact (y_load 0 rfl Tryd.underlying3 rfl rfl rfl rfl) w2 h2) ?_
                  refine E3 (wanted_none rfl) (c_call rfl rfl rfl Tryd.func34 (by kernel_rfl) rfl (reset_all (hBB.drewn (X' := [(b19, .cells ⟨opCells o (vk i) (vl i)⟩ 65 (0, 0)), (b2, .cells ⟨icells vs si⟩ 59 (0, 0))]) hs90).ours hII o.at_) rfl ?_)
                  rintro ve w91 ⟨uz, hbe, hR⟩
                  have hBH := (hBB.drewn (X' := [(b19, .cells ⟨opCells o (vk i) (vl i)⟩ 65 (0, 0)), (b2, .cells ⟨icells vs si⟩ 59 (0, 0))]) hs90).toOurs hR
                  have hs93 := hBH.st
                  refine ⟨fun _ => ⟨hs93.only (hBH.freshY (fr1 hbb2)), trivial⟩, ?_⟩
                  refine E3 (wanted_none rfl) (c_call rfl rfl rfl Tryd.func35 (by kernel_rfl) rfl (rreset_all (hBH.drewn (X' := [(b19, .cells ⟨opCells o (vk i) (vl i)⟩ 65 (0, 0)), (b2, .cells ⟨icells vs si⟩ 59 (0, 0))]) hs93).refs hII o.at_) rfl ?_)
                  rintro vq w94 ⟨uz2, rfl, hO1⟩
                  have hBB := (hBH.drewn (X' := [(b19, .cells ⟨opCells o (vk i) (vl i)⟩ 65 (0, 0)), (b2, .cells ⟨icells vs si⟩ 59 (0, 0))]) hs93).toRefs hO1
                  have hII := hII.rst o.at_
                  have hs96 := hBB.st
                  refine ⟨fun _ => ⟨hs96.only (hBB.freshY (fr1 hbb2)), trivial⟩, ?_⟩
                  refine E3 (wanted_none rfl) (c_call rfl rfl rfl Tryd.func29 (by kernel_rfl) rfl (bare_of hbe w94 (hEr hs96 (hBB.freshX (fr2 hbb19 hbb2)))) rfl ?_)
                  rintro vb w97 ⟨rfl, hc98⟩
                  have hs99 := hs96.call0 hc98
                  refine ⟨fun _ => ⟨hs99.only (hBB.freshY (fr1 hbb2)), trivial⟩, ?_⟩
                  refine E0 (wanted_none rfl) rfl (y_not rfl rfl) ?_
                  refine Enil ?_
                  refine Wkn (t := 98) (b0 := false) rfl (by rfl) (fun h100 => ?_)
                  refine W_condF rfl h100 ?_
                  refine W_skip ?_
                  refine W_seq ?_
                  refine W_seq ?_
                  obtain ⟨D1, m1, hB1, hI1⟩ : ∃ D1 m1, Both w [(b19, .cells ⟨opCells o (vk i) (vl i)⟩ 65 (0, 0)), (b2, .cells ⟨icells vs si⟩ 59 (0, 0))] b c D1 D1 m1 w97 ∧ DInv D1 (i + 1) := ⟨_, _, hBB.drewn (X' := [(b19, .cells ⟨opCells o (vk i) (vl i)⟩ 65 (0, 0)), (b2, .cells ⟨icells vs si⟩ 59 (0, 0))]) hs99, hII⟩
                  have hs99 := hB1.st
                  refine W_region ?_
                  refine L0 (wanted_none rfl) rfl (y_move (v := Value.pointer _) rfl rfl) ?_
                  refine Lc (wanted_none rfl) (c_call rfl rfl rfl Tryd.func47 (by kernel_rfl) rfl (image_ok hB1.ours hI1.z) rfl ?_)
                  rintro vq w101 ⟨vs1, im1, rfl, hO1, hR1, hF1⟩
                  have hs103 := hO1.st.re (L' := im1 ++ ((b19, .cells ⟨opCells o (vk i) (vl i)⟩ 65 (0, 0)) :: (b2, .cells ⟨icells vs si⟩ 59 (0, 0)) :: (oursB b D1 m1 ++ refsB c D1 m1))) (fun a => by simp only [List.cons_append, List.nil_append, ct_append, ct_cons, ct_nil]; omega)
                  refine L0 (wanted_none rfl) rfl (y_move (v := Value.pointer _) rfl rfl) ?_
                  refine Lc (wanted_none rfl) (c_call rfl rfl rfl Tryd.func48 (by kernel_rfl) rfl (rimage_ok (hB1.drewn (X' := im1 ++ [(b19, .cells ⟨opCells o (vk i) (vl i)⟩ 65 (0, 0)), (b2, .cells ⟨icells vs si⟩ 59 (0, 0))]) (hs103.re (fun a => by simp only [List.cons_append, List.nil_append, ct_append, ct_cons, ct_nil]; omega))).refs hI1.z) rfl ?_)
                  rintro vq w104 ⟨vs2, im2, rfl, hO2, hR2, hF2⟩
                  have hs106 := hO2.st.re (L' := im2 ++ (im1 ++ ((b19, .cells ⟨opCells o (vk i) (vl i)⟩ 65 (0, 0)) :: (b2, .cells ⟨icells vs si⟩ 59 (0, 0)) :: (oursB b D1 m1 ++ refsB c D1 m1)))) (fun a => by simp only [List.cons_append, List.nil_append, ct_append, ct_cons, ct_nil]; omega)
                  refine Lc (wanted_none rfl) (c_call rfl rfl rfl Tryd.func46 (by kernel_rfl) rfl (sameImage_any vs1 vs2 D1.slot (imZ D1 8) w104 (fun j hj => by rw [imZ, if_pos hj, List.length_take]; have := (hI1.z j hj).2; omega) (fun j hj => (hR1 j hj).sl hs106 (fun x hx => by simp [hx])) (fun j hj => (hR2 j hj).sl hs106 (fun x hx => by simp [hx]))) rfl ?_)
                  rintro vq w107 ⟨rfl, hc108⟩
                  have hs109 := ((hs106.call0 hc108).dropL hF2).dropL hF1
                  refine L0 (wanted_none rfl) rfl (y_not rfl rfl) ?_
                  refine Lnil ?_
                  refine Wkn (t := 160) (b0 := false) rfl (by rfl) (fun h110 => ?_)
                  refine W_condF rfl h110 ?_
                  refine W_skip ?_
                  refine W_seq ?_
                  refine W_region ?_
                  refine L0 (wanted_none rfl) rfl (y_fieldAddr rfl Tryd.underlying65 rfl sz3 rfl) ?_
                  refine L1 (wanted_none rfl) rfl hs109 (y_load 0 rfl Tryd.underlying3 rfl rfl rfl rfl) ?_
                  refine Lc (wanted_none rfl) (c_buildSlice (cells := [iv o.at_, iv 0, iv 7, iv 8, iv (-1)]) hs109 rfl rfl Tryd.underlying23 sz3 zr3 (by decide) (by kernel_rfl) (fun b111 w112 hbb111 hs113 => ?_))
                  refine L0 (wanted_none rfl) rfl (y_slen rfl Tryd.underlying23 rfl) ?_
                  refine L0 (wanted_none rfl) rfl (y_move (v := Value.int _ _) rfl rfl) ?_
                  refine Lnil ?_
                  refine W_block ?_
                  refine W_loop (G := Nat) (fun q aL wl => ∃ e, aL = A 237 ((165, iv q) :: (164, iv 5) :: (163, .slice (some ⟨b111, 0, none⟩) 5 5) :: (7, iv i) :: (0, v0) :: (3, pv b2 0) :: (5, pv c 0) :: (6, pv b 0) :: e) ∧ q ≤ 5 ∧ Both w ((b111, .cells ⟨[iv o.at_, iv 0, iv 7, iv 8, iv (-1)]⟩ 3 (0, 0)) :: [(b19, .cells ⟨opCells o (vk i) (vl i)⟩ 65 (0, 0)), (b2, .cells ⟨icells vs si⟩ 59 (0, 0))]) b c D1 D1 m1 wl) (fun q => 5 - q) (0) ?_ ?_
                  · exact ⟨_, A_pins _ _ [165, 164, 163, 7, 0, 3, 5, 6], Nat.zero_le _, hB1.drewn hs113⟩
                  rintro q _ w114 ⟨ehs115, rfl, hq, hBq⟩
                  have hs115 := hBq.st
                  refine W_seq ?_
                  refine W_region ?_
                  refine L0 (wanted_none rfl) rfl (y_lt rfl rfl rfl) ?_
                  refine Lnil ?_
                  refine W_seq ?_
                  refine Wsp (t := 166) rfl (fun h116 => ?_) (fun h116 => ?_)
                  · have h116' := h116
                    first | replace h116' := of_decide_eq_true h116' | replace h116' := bnT' h116' | skip
                    refine W_condT rfl h116 ?_
                    refine W_skip ?_
                    refine W_seq ?_
                    refine W_block ?_
                    refine W_seq ?_
                    have hat := atN_le hI1 (atq o.at_ q)
                    refine W_region ?_
                    refine L0 (wanted_none rfl) rfl (y_indexSl rfl Tryd.underlying23 sz3 rfl rfl (by omega) (by omega)) ?_
                    refine L1 (wanted_none rfl) rfl hs115 (y_load 0 rfl Tryd.underlying3 rfl rfl rfl (at5 _ (by omega))) ?_
                    refine L0 (wanted_none rfl) rfl (y_assign (v := Value.int _ _) rfl rfl) ?_
                    refine Lnil ?_
                    refine W_seq ?_
                    refine W_region ?_
                    refine L0 (wanted_none rfl) rfl (y_move (v := Value.pointer _) rfl rfl) ?_
                    refine L0 (wanted_none rfl) rfl (y_move (v := Value.int _ _) rfl rfl) ?_
                    refine Lc (wanted_none rfl) (c_call rfl rfl rfl Tryd.func49 (by kernel_rfl) rfl (have_all (hBq.drewn hs115).refs (atq o.at_ q)) rfl ?_)
                    rintro vq w117 ⟨rfl, hc118⟩
                    have hs119 := hs115.call0 hc118
                    refine L0 (wanted_none rfl) rfl (y_move (v := Value.tuple ⟨_⟩) rfl rfl) ?_
                    refine L0 (wanted_none rfl) rfl (y_extract rfl rfl rfl) ?_
                    refine L0 (wanted_none rfl) rfl (y_extract rfl rfl rfl) ?_
                    refine L0 (wanted_none rfl) rfl (y_assign (v := Value.int _ _) rfl rfl) ?_
                    refine L0 (wanted_none rfl) rfl (y_assign (v := Value.int _ _) rfl rfl) ?_
                    refine Lnil ?_
                    refine W_seq ?_
                    refine W_region ?_
                    refine L0 (wanted_none rfl) rfl (y_move (v := Value.pointer _) rfl rfl) ?_
                    refine L0 (wanted_none rfl) rfl (y_move (v := Value.int _ _) rfl rfl) ?_
                    refine Lc (wanted_none rfl) (c_call rfl rfl rfl Tryd.func18 (by kernel_rfl) rfl (at_all (hBq.drewn hs119).ours (atq o.at_ q)) rfl ?_)
                    rintro vq w120 ⟨⟨e1, rfl, hbe1⟩, hc121⟩
                    have hs122 := hs119.call0 hc121
                    refine L0 (wanted_none rfl) rfl (y_move (v := Value.tuple ⟨_⟩) rfl rfl) ?_
                    refine L0 (wanted_none rfl) rfl (y_extract rfl rfl rfl) ?_
                    refine L0 (wanted_none rfl) rfl (y_extract rfl rfl rfl) ?_
                    refine L0 (wanted_none rfl) rfl (y_assign (v := Value.int _ _) rfl rfl) ?_
                    refine L0 (wanted_none rfl) rfl (y_assign (v := _) rfl rfl) ?_
                    refine Lnil ?_
                    refine W_seq ?_
                    refine W_seq ?_
                    refine W_region ?_
                    refine L0 (wanted_none rfl) rfl (y_move (v := _) rfl rfl) ?_
                    refine L0 (wanted_none rfl) rfl (y_move (v := Value.int _ _) rfl rfl) ?_
                    refine Lc (wanted_none rfl) (c_call rfl rfl rfl Tryd.func29 (by kernel_rfl) rfl (bare_of hbe1 w120 (hEr hs122 (hBq.freshX (fr3 hbb111 hbb19 hbb2)))) rfl ?_)
                    rintro vb w123 ⟨rfl, hc124⟩
                    have hs125 := hs122.call0 hc124
                    refine L0 (wanted_none rfl) rfl (y_not rfl rfl) ?_
                    refine L0 (wanted_none rfl) rfl (y_move (v := Value.bool _) rfl rfl) ?_
                    refine Lkn (t := 185) (b0 := false) rfl (by rfl) (fun h126 => ?_)
                    refine L0 (wanted_yesB rfl rfl rfl h126) rfl (y_move (v := Value.int _ _) rfl rfl) ?_
                    refine L0 (wanted_yesB rfl rfl rfl h126) rfl (y_move (v := Value.int _ _) rfl rfl) ?_
                    refine L0 (wanted_yesB rfl rfl rfl h126) rfl (y_ne rfl rfl rfl) ?_
                    refine L0 (wanted_none rfl) rfl (y_pickF rfl rfl h126 rfl) ?_
                    refine Lnil ?_
                    refine Wkn (t := 189) (b0 := false) rfl (by exact bnF rfl) (fun h127 => ?_)
                    refine W_condF rfl h127 ?_
                    refine W_skip ?_
                    refine W_seq ?_
                    refine W_region ?_
                    refine L0 (wanted_none rfl) rfl (y_move (v := Value.pointer _) rfl rfl) ?_
                    refine L0 (wanted_none rfl) rfl (y_move (v := Value.int _ _) rfl rfl) ?_
                    refine L0 (wanted_none rfl) rfl (y_move (v := Value.int _ _) rfl rfl) ?_
                    refine L0 (wanted_none rfl) rfl (y_sub64 rfl rfl rfl (by omega)) ?_
                    refine Lc (wanted_none rfl) (c_call rfl rfl rfl Tryd.func50 (by kernel_rfl) rfl (rread_all (hBq.drewn hs125).refs hI1 (atq o.at_ q) _) rfl ?_)
                    rintro vq w128 ⟨rfl, hc129⟩
                    have hs130 := hs125.call0 hc129
                    refine L0 (wanted_none rfl) rfl (y_move (v := Value.tuple ⟨_⟩) rfl rfl) ?_
                    refine L0 (wanted_none rfl) rfl (y_extract rfl rfl rfl) ?_
                    refine L0 (wanted_none rfl) rfl (y_extract rfl rfl rfl) ?_
                    refine L0 (wanted_none rfl) rfl (y_assign (v := Value.string ⟨⟨_⟩⟩) rfl rfl) ?_
                    refine L0 (wanted_none rfl) rfl (y_assign (v := Value.int _ _) rfl rfl) ?_
                    refine Lnil ?_
                    refine W_seq ?_
                    refine W_region ?_
                    refine L0 (wanted_none rfl) rfl (y_move (v := Value.pointer _) rfl rfl) ?_
                    refine L0 (wanted_none rfl) rfl (y_move (v := Value.int _ _) rfl rfl) ?_
                    refine L0 (wanted_none rfl) rfl (y_move (v := Value.int _ _) rfl rfl) ?_
                    refine L0 (wanted_none rfl) rfl (y_sub64 rfl rfl rfl (by omega)) ?_
                    refine Lc (wanted_none rfl) (c_call rfl rfl rfl Tryd.func19 (by kernel_rfl) rfl (read_all (hBq.drewn hs130).ours (atq o.at_ q) _) rfl ?_)
                    rintro vq w131 ⟨⟨e2, rfl, hbe2⟩, hc132⟩
                    have hs133 := hs130.call0 hc132
                    refine L0 (wanted_none rfl) rfl (y_move (v := Value.tuple ⟨_⟩) rfl rfl) ?_
                    refine L0 (wanted_none rfl) rfl (y_extract rfl rfl rfl) ?_
                    refine L0 (wanted_none rfl) rfl (y_extract rfl rfl rfl) ?_
                    refine L0 (wanted_none rfl) rfl (y_assign (v := Value.string ⟨⟨_⟩⟩) rfl rfl) ?_
                    refine L0 (wanted_none rfl) rfl (y_assign (v := _) rfl rfl) ?_
                    refine Lnil ?_
                    refine W_seq ?_
                    refine W_seq ?_
                    refine W_region ?_
                    refine L0 (wanted_none rfl) rfl (y_move (v := _) rfl rfl) ?_
                    refine L0 (wanted_none rfl) rfl (y_move (v := Value.int _ _) rfl rfl) ?_
                    refine Lc (wanted_none rfl) (c_call rfl rfl rfl Tryd.func29 (by kernel_rfl) rfl (bare_of hbe2 w131 (hEr hs133 (hBq.freshX (fr3 hbb111 hbb19 hbb2)))) rfl ?_)
                    rintro vb w134 ⟨rfl, hc135⟩
                    have hs136 := hs133.call0 hc135
                    refine L0 (wanted_none rfl) rfl (y_not rfl rfl) ?_
                    refine L0 (wanted_none rfl) rfl (y_move (v := Value.bool _) rfl rfl) ?_
                    refine Lkn (t := 210) (b0 := false) rfl (by rfl) (fun h137 => ?_)
                    refine L0 (wanted_yesB rfl rfl rfl h137) rfl (y_move (v := Value.string ⟨⟨_⟩⟩) rfl rfl) ?_
                    refine L0 (wanted_yesB rfl rfl rfl h137) rfl (y_move (v := Value.string ⟨⟨_⟩⟩) rfl rfl) ?_
                    refine L0 (wanted_yesB rfl rfl rfl h137) rfl (y_sne rfl rfl rfl) ?_
                    refine L0 (wanted_none rfl) rfl (y_pickF rfl rfl h137 rfl) ?_
                    refine Lnil ?_
                    refine Wkn (t := 214) (b0 := false) rfl (by exact bnF rfl) (fun h138 => ?_)
                    refine W_condF rfl h138 ?_
                    refine W_skip ?_
                    refine W_seq ?_
                    refine W_region ?_
                    refine L0 (wanted_none rfl) rfl (y_move (v := Value.pointer _) rfl rfl) ?_
                    refine L0 (wanted_none rfl) rfl (y_move (v := Value.int _ _) rfl rfl) ?_
                    refine Lc (wanted_none rfl) (c_call rfl rfl rfl Tryd.func51 (by kernel_rfl) rfl (rget_all (hBq.drewn hs136).refs hI1 (by omega) (atq o.at_ q)) rfl ?_)
                    rintro vq w139 ⟨rfl, hc140⟩
                    have hs141 := hs136.call0 hc140
                    refine L0 (wanted_none rfl) rfl (y_move (v := Value.tuple ⟨_⟩) rfl rfl) ?_
                    refine L0 (wanted_none rfl) rfl (y_extract rfl rfl rfl) ?_
                    refine L0 (wanted_none rfl) rfl (y_extract rfl rfl rfl) ?_
                    refine L0 (wanted_none rfl) rfl (y_assign (v := Value.string ⟨⟨_⟩⟩) rfl rfl) ?_
                    refine L0 (wanted_none rfl) rfl (y_assign (v := Value.int _ _) rfl rfl) ?_
                    refine Lnil ?_
                    refine W_seq ?_
                    refine W_region ?_
                    refine L0 (wanted_none rfl) rfl (y_move (v := Value.pointer _) rfl rfl) ?_
                    refine L0 (wanted_none rfl) rfl (y_move (v := Value.int _ _) rfl rfl) ?_
                    refine Lc (wanted_none rfl) (c_call rfl rfl rfl Tryd.func52 (by kernel_rfl) rfl (get_all (hBq.drewn hs141).ours hI1 (by omega) (atq o.at_ q)) rfl ?_)
                    rintro vq w142 ⟨⟨e3, rfl, hbe3⟩, hc143⟩
                    have hs144 := hs141.call0 hc143
                    refine L0 (wanted_none rfl) rfl (y_move (v := Value.tuple ⟨_⟩) rfl rfl) ?_
                    refine L0 (wanted_none rfl) rfl (y_extract rfl rfl rfl) ?_
                    refine L0 (wanted_none rfl) rfl (y_extract rfl rfl rfl) ?_
                    refine L0 (wanted_none rfl) rfl (y_assign (v := Value.string ⟨⟨_⟩⟩) rfl rfl) ?_
                    refine L0 (wanted_none rfl) rfl (y_assign (v := _) rfl rfl) ?_
                    refine Lnil ?_
                    refine W_seq ?_
                    refine W_region ?_
                    refine L0 (wanted_none rfl) rfl (y_move (v := _) rfl rfl) ?_
                    refine L0 (wanted_none rfl) rfl (y_move (v := Value.int _ _) rfl rfl) ?_
                    refine Lc (wanted_none rfl) (c_call rfl rfl rfl Tryd.func29 (by kernel_rfl) rfl (bare_of hbe3 w142 (hEr hs144 (hBq.freshX (fr3 hbb111 hbb19 hbb2)))) rfl ?_)
                    rintro vb w145 ⟨rfl, hc146⟩
                    have hs147 := hs144.call0 hc146
                    refine L0 (wanted_none rfl) rfl (y_not rfl rfl) ?_
                    refine L0 (wanted_none rfl) rfl (y_move (v := Value.bool _) rfl rfl) ?_
                    refine Lkn (t := 231) (b0 := false) rfl (by rfl) (fun h148 => ?_)
                    refine L0 (wanted_yesB rfl rfl rfl h148) rfl (y_move (v := Value.string ⟨⟨_⟩⟩) rfl rfl) ?_
                    refine L0 (wanted_yesB rfl rfl rfl h148) rfl (y_move (v := Value.string ⟨⟨_⟩⟩) rfl rfl) ?_
                    refine L0 (wanted_yesB rfl rfl rfl h148) rfl (y_sne rfl rfl rfl) ?_
                    refine L0 (wanted_none rfl) rfl (y_pickF rfl rfl h148 rfl) ?_
                    refine Lnil ?_
                    refine Wkn (t := 235) (b0 := false) rfl (by exact bnF rfl) (fun h149 => ?_)
                    refine W_condF rfl h149 ?_
                    refine W_skip ?_
                    refine W_region ?_
                    refine L0 (wanted_none rfl) rfl (y_add64 rfl rfl rfl (by omega)) ?_
                    refine L0 (wanted_none rfl) rfl (y_move (v := Value.int _ _) rfl rfl) ?_
                    refine Lnil ?_
                    exact ⟨q + 1, by first | omega | (dsimp only; done) | (dsimp only; omega), _, A_c (iv_eq (by first | omega | (dsimp only; done) | (dsimp only; omega))) (A_c rfl (A_c rfl (A_c rfl (A_c rfl (A_c rfl (A_c rfl (A_c rfl (rfl)))))))), by omega, hBq.drewn hs147⟩
                  · have h116' := h116
                    first | replace h116' := of_decide_eq_false h116' | replace h116' := bnF' h116' | skip
                    refine W_condF rfl h116 ?_
                    refine W_exit ?_
                    refine W_region ?_
                    refine L0 (wanted_none rfl) rfl (y_move (v := Value.int _ _) rfl rfl) ?_
                    refine L0 (wanted_none rfl) rfl (y_add64 rfl rfl rfl (by omega)) ?_
                    refine L0 (wanted_none rfl) rfl (y_assign (v := Value.int _ _) rfl rfl) ?_
                    refine Lnil ?_
                    exact ⟨(i + 1, D1, m1), by first | omega | (dsimp only; done) | (dsimp only; omega), _, A_c (iv_eq (by first | omega | (dsimp only; done) | (dsimp only; omega))) (A_c rfl (A_c rfl (A_c rfl (A_c rfl (rfl))))), by first | omega | (dsimp only; done) | (dsimp only; omega), hI1, hB1.drewn (X' := [(b2, .cells ⟨icells vs si⟩ 59 (0, 0))]) ((hs115.drop (.inl hbb111)).drop (.inl hbb19))⟩
                · have h88' := h88
                  first | replace h88' := of_decide_eq_false h88' | replace h88' := bnF' h88' | skip
                  refine W_condF rfl h88 ?_
                  refine W_seq ?_
                  refine W_region ?_
                  refine L0 (wanted_none rfl) rfl (y_eq rfl rfl rfl) ?_
                  refine L0 (wanted_none rfl) rfl (y_assign (v := Value.bool _) rfl rfl) ?_
                  refine Lnil ?_
                  refine Wsp (t := 99) rfl (fun h150 => ?_) (fun h150 => ?_)
                  · have h150' := h150
                    first | replace h150' := of_decide_eq_true h150' | replace h150' := bnT' h150' | skip
                    refine W_condT rfl h150 ?_
                    refine W_seq ?_
                    refine W_drawS [(0, 0), (0, 1), (0, 3), (0, 6), (0, 7), (0, 9), (1, 2), (1, 4), (1, 8), (1, 10), (3, 5), (3, 11), (3, 12), (0, 13)] (fun w2 => St w [(b19, .cells ⟨opCells o (vk i) (vl i)⟩ 65 (0, 0))] w2 ∧ True) hs23 mixed (by kernel_rfl) (fun w151 hs152 => ?_)
                    refine E0 (wanted_none rfl) rfl (y_move (v := Value.pointer _) rfl rfl) ?_
                    refine E0 (wanted_none rfl) rfl (y_fieldAddr rfl Tryd.underlying65 rfl sz3 rfl) ?_
                    refine E0 (wanted_none rfl) rfl (y_fieldAddr rfl Tryd.underlying65 rfl sz9 rfl) ?_
                    refine E0 (wanted_none rfl) rfl (y_move (v := Value.pointer _) rfl rfl) ?_
                    refine E0 (wanted_none rfl) rfl (y_fieldAddr rfl Tryd.underlying65 rfl sz3 rfl) ?_
                    refine E0 (wanted_none rfl) rfl (y_fieldAddr rfl Tryd.underlying65 rfl sz9 rfl) ?_
                    refine E1 ⟨hs152.only (hBB.freshY (fr1 hbb2)), trivial⟩ (wanted_none rfl) rfl (fun w2 hSS => by obtain ⟨h2, _⟩ := hSS; exact (y_load 0 rfl Tryd.underlying3 rfl rfl rfl rfl) w2 h2) ?_
                    refine E1 ⟨hs152.only (hBB.freshY (fr1 hbb2)), trivial⟩ (wanted_none rfl) rfl (fun w2 hSS => by obtain ⟨h2, _⟩ := hSS; exact (y_load 0 rfl Tryd.underlying9 rfl rfl rfl rfl) w2 h2) ?_
                    refine E1 ⟨hs152.only (hBB.freshY (fr1 hbb2)), trivial⟩ (wanted_none rfl) rfl (fun w2 hSS => by obtain ⟨h2, _⟩ := hSS; exact (y_load 0 rfl Tryd.underlying3 rfl rfl rfl rfl) w2 h2) ?_
                    refine E1 ⟨hs152.only (hBB.freshY (fr1 hbb2)), trivial⟩ (wanted_none rfl) rfl (fun w2 hSS => by obtain ⟨h2, _⟩ := hSS; exact (y_load 0 rfl Tryd.underlying9 rfl rfl rfl rfl) w2 h2) ?_
                    refine E3 (wanted_none rfl) (c_call rfl rfl rfl Tryd.func36 (by kernel_rfl) rfl (put_all (hBB.drewn (X' := [(b19, .cells ⟨opCells o (vk i) (vl i)⟩ 65 (0, 0)), (b2, .cells ⟨icells vs si⟩ 59 (0, 0))]) hs152).ours hDi (by omega) o.at_ o.s (by omega)) rfl ?_)
                    rintro ve w153 ⟨uz, ent, hbe, hR⟩
                    have hBH := (hBB.drewn (X' := [(b19, .cells ⟨opCells o (vk i) (vl i)⟩ 65 (0, 0)), (b2, .cells ⟨icells vs si⟩ 59 (0, 0))]) hs152).toOurs hR
                    have hs155 := hBH.st
                    refine ⟨fun _ => ⟨hs155.only (hBH.freshY (fr1 hbb2)), trivial⟩, ?_⟩
                    refine E3 (wanted_none rfl) (c_call rfl rfl rfl Tryd.func37 (by kernel_rfl) rfl (rput_all (hBH.drewn (X' := [(b19, .cells ⟨opCells o (vk i) (vl i)⟩ 65 (0, 0)), (b2, .cells ⟨icells vs si⟩ 59 (0, 0))]) hs155).refs hDi (by omega) o.at_ o.s (by omega)) rfl ?_)
                    rintro vq w156 ⟨uA, uW, eA, eW, rfl, hO1⟩
                    have hBB := (hBH.drewn (X' := [(b19, .cells ⟨opCells o (vk i) (vl i)⟩ 65 (0, 0)), (b2, .cells ⟨icells vs si⟩ 59 (0, 0))]) hs155).toRefs hO1
                    have hII := hDi.put o.at_ o.s
                    have hs158 := hBB.st
                    refine ⟨fun _ => ⟨hs158.only (hBB.freshY (fr1 hbb2)), trivial⟩, ?_⟩
                    refine E3 (wanted_none rfl) (c_call rfl rfl rfl Tryd.func29 (by kernel_rfl) rfl (bare_of hbe w156 (hEr hs158 (hBB.freshX (fr2 hbb19 hbb2)))) rfl ?_)
                    rintro vb w159 ⟨rfl, hc160⟩
                    have hs161 := hs158.call0 hc160
                    refine ⟨fun _ => ⟨hs161.only (hBB.freshY (fr1 hbb2)), trivial⟩, ?_⟩
                    refine E0 (wanted_none rfl) rfl (y_not rfl rfl) ?_
                    refine Enil ?_
                    refine Wkn (t := 114) (b0 := false) rfl (by rfl) (fun h162 => ?_)
                    refine W_condF rfl h162 ?_
                    refine W_skip ?_
                    refine W_seq ?_
                    refine W_seq ?_
                    obtain ⟨D1, m1, hB1, hI1⟩ : ∃ D1 m1, Both w [(b19, .cells ⟨opCells o (vk i) (vl i)⟩ 65 (0, 0)), (b2, .cells ⟨icells vs si⟩ 59 (0, 0))] b c D1 D1 m1 w159 ∧ DInv D1 (i + 1) := ⟨_, _, hBB.drewn (X' := [(b19, .cells ⟨opCells o (vk i) (vl i)⟩ 65 (0, 0)), (b2, .cells ⟨icells vs si⟩ 59 (0, 0))]) hs161, hII⟩
                    have hs161 := hB1.st
                    refine W_region ?_
                    refine L0 (wanted_none rfl) rfl (y_move (v := Value.pointer _) rfl rfl) ?_
                    refine Lc (wanted_none rfl) (c_call rfl rfl rfl Tryd.func47 (by kernel_rfl) rfl (image_ok hB1.ours hI1.z) rfl ?_)
                    rintro vq w163 ⟨vs1, im1, rfl, hO1, hR1, hF1⟩
                    have hs165 := hO1.st.re (L' := im1 ++ ((b19, .cells ⟨opCells o (vk i) (vl i)⟩ 65 (0, 0)) :: (b2, .cells ⟨icells vs si⟩ 59 (0, 0)) :: (oursB b D1 m1 ++ refsB c D1 m1))) (fun a => by simp only [List.cons_append, List.nil_append, ct_append, ct_cons, ct_nil]; omega)
                    refine L0 (wanted_none rfl) rfl (y_move (v := Value.pointer _) rfl rfl) ?_
                    refine Lc (wanted_none rfl) (c_call rfl rfl rfl Tryd.func48 (by kernel_rfl) rfl (rimage_ok (hB1.drewn (X' := im1 ++ [(b19, .cells ⟨opCells o (vk i) (vl i)⟩ 65 (0, 0)), (b2, .cells ⟨icells vs si⟩ 59 (0, 0))]) (hs165.re (fun a => by simp only [List.cons_append, List.nil_append, ct_append, ct_cons, ct_nil]; omega))).refs hI1.z) rfl ?_)
                    rintro vq w166 ⟨vs2, im2, rfl, hO2, hR2, hF2⟩
                    have hs168 := hO2.st.re (L' := im2 ++ (im1 ++ ((b19, .cells ⟨opCells o (vk i) (vl i)⟩ 65 (0, 0)) :: (b2, .cells ⟨icells vs si⟩ 59 (0, 0)) :: (oursB b D1 m1 ++ refsB c D1 m1)))) (fun a => by simp only [List.cons_append, List.nil_append, ct_append, ct_cons, ct_nil]; omega)
                    refine Lc (wanted_none rfl) (c_call rfl rfl rfl Tryd.func46 (by kernel_rfl) rfl (sameImage_any vs1 vs2 D1.slot (imZ D1 8) w166 (fun j hj => by rw [imZ, if_pos hj, List.length_take]; have := (hI1.z j hj).2; omega) (fun j hj => (hR1 j hj).sl hs168 (fun x hx => by simp [hx])) (fun j hj => (hR2 j hj).sl hs168 (fun x hx => by simp [hx]))) rfl ?_)
                    rintro vq w169 ⟨rfl, hc170⟩
                    have hs171 := ((hs168.call0 hc170).dropL hF2).dropL hF1
                    refine L0 (wanted_none rfl) rfl (y_not rfl rfl) ?_
                    refine Lnil ?_
                    refine Wkn (t := 160) (b0 := false) rfl (by rfl) (fun h172 => ?_)
                    refine W_condF rfl h172 ?_
                    refine W_skip ?_
                    refine W_seq ?_
                    refine W_region ?_
                    refine L0 (wanted_none rfl) rfl (y_fieldAddr rfl Tryd.underlying65 rfl sz3 rfl) ?_
                    refine L1 (wanted_none rfl) rfl hs171 (y_load 0 rfl Tryd.underlying3 rfl rfl rfl rfl) ?_
                    refine Lc (wanted_none rfl) (c_buildSlice (cells := [iv o.at_, iv 0, iv 7, iv 8, iv (-1)]) hs171 rfl rfl Tryd.underlying23 sz3 zr3 (by decide) (by kernel_rfl) (fun b173 w174 hbb173 hs175 => ?_))
                    refine L0 (wanted_none rfl) rfl (y_slen rfl Tryd.underlying23 rfl) ?_
                    refine L0 (wanted_none rfl) rfl (y_move (v := Value.int _ _) rfl rfl) ?_
                    refine Lnil ?_
                    refine W_block ?_
                    refine W_loop (G := Nat) (fun q aL wl => ∃ e, aL = A 237 ((165, iv q) :: (164, iv 5) :: (163, .slice (some ⟨b173, 0, none⟩) 5 5) :: (7, iv i) :: (0, v0) :: (3, pv b2 0) :: (5, pv c 0) :: (6, pv b 0) :: e) ∧ q ≤ 5 ∧ Both w ((b173, .cells ⟨[iv o.at_, iv 0, iv 7, iv 8, iv (-1)]⟩ 3 (0, 0)) :: [(b19, .cells ⟨opCells o (vk i) (vl i)⟩ 65 (0, 0)), (b2, .cells ⟨icells vs si⟩ 59 (0, 0))]) b c D1 D1 m1 wl) (fun q => 5 - q) (0) ?_ ?_
                    · exact ⟨_, A_pins _ _ [165, 164, 163, 7, 0, 3, 5, 6], Nat.zero_le _, hB1.drewn hs175⟩
                    rintro q _ w176 ⟨ehs177, rfl, hq, hBq⟩
                    have hs177 := hBq.st
                    refine W_seq ?_
                    refine W_region ?_
                    refine L0 (wanted_none rfl) rfl (y_lt rfl rfl rfl) ?_
                    refine Lnil ?_
                    refine W_seq ?_
                    refine Wsp (t := 166) rfl (fun h178 => ?_) (fun h178 => ?_)
                    · have h178' := h178
                      first | replace h178' := of_decide_eq_true h178' | replace h178' := bnT' h178' | skip
                      refine W_condT rfl h178 ?_
                      refine W_skip ?_
                      refine W_seq ?_
                      refine W_block ?_
                      refine W_seq ?_
                      have hat := atN_le hI1 (atq o.at_ q)
                      refine W_region ?_
                      refine L0 (wanted_none rfl) rfl (y_indexSl rfl Tryd.underlying23 sz3 rfl rfl (by omega) (by omega)) ?_
                      refine L1 (wanted_none rfl) rfl hs177 (y_load 0 rfl Tryd.underlying3 rfl rfl rfl (at5 _ (by omega))) ?_
                      refine L0 (wanted_none rfl) rfl (y_assign (v := Value.int _ _) rfl rfl) ?_
                      refine Lnil ?_
                      refine W_seq ?_
                      refine W_region ?_
                      refine L0 (wanted_none rfl) rfl (y_move (v := Value.pointer _) rfl rfl) ?_
                      refine L0 (wanted_none rfl) rfl (y_move (v := Value.int _ _) rfl rfl) ?_
                      refine Lc (wanted_none rfl) (c_call rfl rfl rfl Tryd.func49 (by kernel_rfl) rfl (have_all (hBq.drewn hs177).refs (atq o.at_ q)) rfl ?_)
                      rintro vq w179 ⟨rfl, hc180⟩
                      have hs181 := hs177.call0 hc180
                      refine L0 (wanted_none rfl) rfl (y_move (v := Value.tuple ⟨_⟩) rfl rfl) ?_
                      refine L0 (wanted_none rfl) rfl (y_extract rfl rfl rfl) ?_
                      refine L0 (wanted_none rfl) rfl (y_extract rfl rfl rfl) ?_
                      refine L0 (wanted_none rfl) rfl (y_assign (v := Value.int _ _) rfl rfl) ?_
                      refine L0 (wanted_none rfl) rfl (y_assign (v := Value.int _ _) rfl rfl) ?_
                      refine Lnil ?_
                      refine W_seq ?_
                      refine W_region ?_
                      refine L0 (wanted_none rfl) rfl (y_move (v := Value.pointer _) rfl rfl) ?_
                      refine L0 (wanted_none rfl) rfl (y_move (v := Value.int _ _) rfl rfl) ?_
                      refine Lc (wanted_none rfl) (c_call rfl rfl rfl Tryd.func18 (by kernel_rfl) rfl (at_all (hBq.drewn hs181).ours (atq o.at_ q)) rfl ?_)
                      rintro vq w182 ⟨⟨e1, rfl, hbe1⟩, hc183⟩
                      have hs184 := hs181.call0 hc183
                      refine L0 (wanted_none rfl) rfl (y_move (v := Value.tuple ⟨_⟩) rfl rfl) ?_
                      refine L0 (wanted_none rfl) rfl (y_extract rfl rfl rfl) ?_
                      refine L0 (wanted_none rfl) rfl (y_extract rfl rfl rfl) ?_
                      refine L0 (wanted_none rfl) rfl (y_assign (v := Value.int _ _) rfl rfl) ?_
                      refine L0 (wanted_none rfl) rfl (y_assign (v := _) rfl rfl) ?_
                      refine Lnil ?_
                      refine W_seq ?_
                      refine W_seq ?_
                      refine W_region ?_
                      refine L0 (wanted_none rfl) rfl (y_move (v := _) rfl rfl) ?_
                      refine L0 (wanted_none rfl) rfl (y_move (v := Value.int _ _) rfl rfl) ?_
                      refine Lc (wanted_none rfl) (c_call rfl rfl rfl Tryd.func29 (by kernel_rfl) rfl (bare_of hbe1 w182 (hEr hs184 (hBq.freshX (fr3 hbb173 hbb19 hbb2)))) rfl ?_)
                      rintro vb w185 ⟨rfl, hc186⟩
                      have hs187 := hs184.call0 hc186
                      refine L0 (wanted_none rfl) rfl (y_not rfl rfl) ?_
                      refine L0 (wanted_none rfl) rfl (y_move (v := Value.bool _) rfl rfl) ?_
                      refine Lkn (t := 185) (b0 := false) rfl (by rfl) (fun h188 => ?_)
                      refine L0 (wanted_yesB rfl rfl rfl h188) rfl (y_move (v := Value.int _ _) rfl rfl) ?_
                      refine L0 (wanted_yesB rfl rfl rfl h188) rfl (y_move (v := Value.int _ _) rfl rfl) ?_
                      refine L0 (wanted_yesB rfl rfl rfl h188) rfl (y_ne rfl rfl rfl) ?_
                      refine L0 (wanted_none rfl) rfl (y_pickF rfl rfl h188 rfl) ?_
                      refine Lnil ?_
                      refine Wkn (t := 189) (b0 := false) rfl (by exact bnF rfl) (fun h189 => ?_)
                      refine W_condF rfl h189 ?_
                      refine W_skip ?_
                      refine W_seq ?_
                      refine W_region ?_
                      refine L0 (wanted_none rfl) rfl (y_move (v := Value.pointer _) rfl rfl) ?_
                      refine L0 (wanted_none rfl) rfl (y_move (v := Value.int _ _) rfl rfl) ?_
                      refine L0 (wanted_none rfl) rfl (y_move (v := Value.int _ _) rfl rfl) ?_
                      refine L0 (wanted_none rfl) rfl (y_sub64 rfl rfl rfl (by omega)) ?_
                      refine Lc (wanted_none rfl) (c_call rfl rfl rfl Tryd.func50 (by kernel_rfl) rfl (rread_all (hBq.drewn hs187).refs hI1 (atq o.at_ q) _) rfl ?_)
                      rintro vq w190 ⟨rfl, hc191⟩
                      have hs192 := hs187.call0 hc191
                      refine L0 (wanted_none rfl) rfl (y_move (v := Value.tuple ⟨_⟩) rfl rfl) ?_
                      refine L0 (wanted_none rfl) rfl (y_extract rfl rfl rfl) ?_
                      refine L0 (wanted_none rfl) rfl (y_extract rfl rfl rfl) ?_
                      refine L0 (wanted_none rfl) rfl (y_assign (v := Value.string ⟨⟨_⟩⟩) rfl rfl) ?_
                      refine L0 (wanted_none rfl) rfl (y_assign (v := Value.int _ _) rfl rfl) ?_
                      refine Lnil ?_
                      refine W_seq ?_
                      refine W_region ?_
                      refine L0 (wanted_none rfl) rfl (y_move (v := Value.pointer _) rfl rfl) ?_
                      refine L0 (wanted_none rfl) rfl (y_move (v := Value.int _ _) rfl rfl) ?_
                      refine L0 (wanted_none rfl) rfl (y_move (v := Value.int _ _) rfl rfl) ?_
                      refine L0 (wanted_none rfl) rfl (y_sub64 rfl rfl rfl (by omega)) ?_
                      refine Lc (wanted_none rfl) (c_call rfl rfl rfl Tryd.func19 (by kernel_rfl) rfl (read_all (hBq.drewn hs192).ours (atq o.at_ q) _) rfl ?_)
                      rintro vq w193 ⟨⟨e2, rfl, hbe2⟩, hc194⟩
                      have hs195 := hs192.call0 hc194
                      refine L0 (wanted_none rfl) rfl (y_move (v := Value.tuple ⟨_⟩) rfl rfl) ?_
                      refine L0 (wanted_none rfl) rfl (y_extract rfl rfl rfl) ?_
                      refine L0 (wanted_none rfl) rfl (y_extract rfl rfl rfl) ?_
                      refine L0 (wanted_none rfl) rfl (y_assign (v := Value.string ⟨⟨_⟩⟩) rfl rfl) ?_
                      refine L0 (wanted_none rfl) rfl (y_assign (v := _) rfl rfl) ?_
                      refine Lnil ?_
                      refine W_seq ?_
                      refine W_seq ?_
                      refine W_region ?_
                      refine L0 (wanted_none rfl) rfl (y_move (v := _) rfl rfl) ?_
                      refine L0 (wanted_none rfl) rfl (y_move (v := Value.int _ _) rfl rfl) ?_
                      refine Lc (wanted_none rfl) (c_call rfl rfl rfl Tryd.func29 (by kernel_rfl) rfl (bare_of hbe2 w193 (hEr hs195 (hBq.freshX (fr3 hbb173 hbb19 hbb2)))) rfl ?_)
                      rintro vb w196 ⟨rfl, hc197⟩
                      have hs198 := hs195.call0 hc197
                      refine L0 (wanted_none rfl) rfl (y_not rfl rfl) ?_
                      refine L0 (wanted_none rfl) rfl (y_move (v := Value.bool _) rfl rfl) ?_
                      refine Lkn (t := 210) (b0 := false) rfl (by rfl) (fun h199 => ?_)
                      refine L0 (wanted_yesB rfl rfl rfl h199) rfl (y_move (v := Value.string ⟨⟨_⟩⟩) rfl rfl) ?_
                      refine L0 (wanted_yesB rfl rfl rfl h199) rfl (y_move (v := Value.string ⟨⟨_⟩⟩) rfl rfl) ?_
                      refine L0 (wanted_yesB rfl rfl rfl h199) rfl (y_sne rfl rfl rfl) ?_
                      refine L0 (wanted_none rfl) rfl (y_pickF rfl rfl h199 rfl) ?_
                      refine Lnil ?_
                      refine Wkn (t := 214) (b0 := false) rfl (by exact bnF rfl) (fun h200 => ?_)
                      refine W_condF rfl h200 ?_
                      refine W_skip ?_
                      refine W_seq ?_
                      refine W_region ?_
                      refine L0 (wanted_none rfl) rfl (y_move (v := Value.pointer _) rfl rfl) ?_
                      refine L0 (wanted_none rfl) rfl (y_move (v := Value.int _ _) rfl rfl) ?_
                      refine Lc (wanted_none rfl) (c_call rfl rfl rfl Tryd.func51 (by kernel_rfl) rfl (rget_all (hBq.drewn hs198).refs hI1 (by omega) (atq o.at_ q)) rfl ?_)
                      rintro vq w201 ⟨rfl, hc202⟩
                      have hs203 := hs198.call0 hc202
                      refine L0 (wanted_none rfl) rfl (y_move (v := Value.tuple ⟨_⟩) rfl rfl) ?_
                      refine L0 (wanted_none rfl) rfl (y_extract rfl rfl rfl) ?_
                      refine L0 (wanted_none rfl) rfl (y_extract rfl rfl rfl) ?_
                      refine L0 (wanted_none rfl) rfl (y_assign (v := Value.string ⟨⟨_⟩⟩) rfl rfl) ?_
                      refine L0 (wanted_none rfl) rfl (y_assign (v := Value.int _ _) rfl rfl) ?_
                      refine Lnil ?_
                      refine W_seq ?_
                      refine W_region ?_
                      refine L0 (wanted_none rfl) rfl (y_move (v := Value.pointer _) rfl rfl) ?_
                      refine L0 (wanted_none rfl) rfl (y_move (v := Value.int _ _) rfl rfl) ?_
                      refine Lc (wanted_none rfl) (c_call rfl rfl rfl Tryd.func52 (by kernel_rfl) rfl (get_all (hBq.drewn hs203).ours hI1 (by omega) (atq o.at_ q)) rfl ?_)
                      rintro vq w204 ⟨⟨e3, rfl, hbe3⟩, hc205⟩
                      have hs206 := hs203.call0 hc205
                      refine L0 (wanted_none rfl) rfl (y_move (v := Value.tuple ⟨_⟩) rfl rfl) ?_
                      refine L0 (wanted_none rfl) rfl (y_extract rfl rfl rfl) ?_
                      refine L0 (wanted_none rfl) rfl (y_extract rfl rfl rfl) ?_
                      refine L0 (wanted_none rfl) rfl (y_assign (v := Value.string ⟨⟨_⟩⟩) rfl rfl) ?_
                      refine L0 (wanted_none rfl) rfl (y_assign (v := _) rfl rfl) ?_
                      refine Lnil ?_
                      refine W_seq ?_
                      refine W_region ?_
                      refine L0 (wanted_none rfl) rfl (y_move (v := _) rfl rfl) ?_
                      refine L0 (wanted_none rfl) rfl (y_move (v := Value.int _ _) rfl rfl) ?_
                      refine Lc (wanted_none rfl) (c_call rfl rfl rfl Tryd.func29 (by kernel_rfl) rfl (bare_of hbe3 w204 (hEr hs206 (hBq.freshX (fr3 hbb173 hbb19 hbb2)))) rfl ?_)
                      rintro vb w207 ⟨rfl, hc208⟩
                      have hs209 := hs206.call0 hc208
                      refine L0 (wanted_none rfl) rfl (y_not rfl rfl) ?_
                      refine L0 (wanted_none rfl) rfl (y_move (v := Value.bool _) rfl rfl) ?_
                      refine Lkn (t := 231) (b0 := false) rfl (by rfl) (fun h210 => ?_)
                      refine L0 (wanted_yesB rfl rfl rfl h210) rfl (y_move (v := Value.string ⟨⟨_⟩⟩) rfl rfl) ?_
                      refine L0 (wanted_yesB rfl rfl rfl h210) rfl (y_move (v := Value.string ⟨⟨_⟩⟩) rfl rfl) ?_
                      refine L0 (wanted_yesB rfl rfl rfl h210) rfl (y_sne rfl rfl rfl) ?_
                      refine L0 (wanted_none rfl) rfl (y_pickF rfl rfl h210 rfl) ?_
                      refine Lnil ?_
                      refine Wkn (t := 235) (b0 := false) rfl (by exact bnF rfl) (fun h211 => ?_)
                      refine W_condF rfl h211 ?_
                      refine W_skip ?_
                      refine W_region ?_
                      refine L0 (wanted_none rfl) rfl (y_add64 rfl rfl rfl (by omega)) ?_
                      refine L0 (wanted_none rfl) rfl (y_move (v := Value.int _ _) rfl rfl) ?_
                      refine Lnil ?_
                      exact ⟨q + 1, by first | omega | (dsimp only; done) | (dsimp only; omega), _, A_c (iv_eq (by first | omega | (dsimp only; done) | (dsimp only; omega))) (A_c rfl (A_c rfl (A_c rfl (A_c rfl (A_c rfl (A_c rfl (A_c rfl (rfl)))))))), by omega, hBq.drewn hs209⟩
                    · have h178' := h178
                      first | replace h178' := of_decide_eq_false h178' | replace h178' := bnF' h178' | skip
                      refine W_condF rfl h178 ?_
                      refine W_exit ?_
                      refine W_region ?_
                      refine L0 (wanted_none rfl) rfl (y_move (v := Value.int _ _) rfl rfl) ?_
                      refine L0 (wanted_none rfl) rfl (y_add64 rfl rfl rfl (by omega)) ?_
                      refine L0 (wanted_none rfl) rfl (y_assign (v := Value.int _ _) rfl rfl) ?_
                      refine Lnil ?_
                      exact ⟨(i + 1, D1, m1), by first | omega | (dsimp only; done) | (dsimp only; omega), _, A_c (iv_eq (by first | omega | (dsimp only; done) | (dsimp only; omega))) (A_c rfl (A_c rfl (A_c rfl (A_c rfl (rfl))))), by first | omega | (dsimp only; done) | (dsimp only; omega), hI1, hB1.drewn (X' := [(b2, .cells ⟨icells vs si⟩ 59 (0, 0))]) ((hs177.drop (.inl hbb173)).drop (.inl hbb19))⟩
                  · have h150' := h150
                    first | replace h150' := of_decide_eq_false h150' | replace h150' := bnF' h150' | skip
                    refine W_condF rfl h150 ?_
                    refine W_seq ?_
                    refine W_region ?_
                    refine L0 (wanted_none rfl) rfl (y_eq rfl rfl rfl) ?_
                    refine L0 (wanted_none rfl) rfl (y_assign (v := Value.bool _) rfl rfl) ?_
                    refine Lnil ?_
                    refine Wsp (t := 115) rfl (fun h212 => ?_) (fun h212 => ?_)
                    · have h212' := h212
                      first | replace h212' := of_decide_eq_true h212' | replace h212' := bnT' h212' | skip
                      refine W_condT rfl h212 ?_
                      refine W_seq ?_
                      refine W_region ?_
                      refine L0 (wanted_none rfl) rfl (y_move (v := Value.pointer _) rfl rfl) ?_
                      refine Lc (wanted_none rfl) (c_call rfl rfl rfl Tryd.func38 (by kernel_rfl) rfl (sync_all (hBB.drewn (X' := [(b19, .cells ⟨opCells o (vk i) (vl i)⟩ 65 (0, 0)), (b2, .cells ⟨icells vs si⟩ 59 (0, 0))]) hs23).ours hII (by omega)) rfl ?_)
                      rintro ve w213 ⟨uz, ent, hbe, hR⟩
                      have hBH := (hBB.drewn (X' := [(b19, .cells ⟨opCells o (vk i) (vl i)⟩ 65 (0, 0)), (b2, .cells ⟨icells vs si⟩ 59 (0, 0))]) hs23).toOurs hR
                      have hs215 := hBH.st
                      refine L0 (wanted_none rfl) rfl (y_move (v := Value.pointer _) rfl rfl) ?_
                      refine Lc (wanted_none rfl) (c_call rfl rfl rfl Tryd.func39 (by kernel_rfl) rfl (rsync_all (hBH.drewn (X' := [(b19, .cells ⟨opCells o (vk i) (vl i)⟩ 65 (0, 0)), (b2, .cells ⟨icells vs si⟩ 59 (0, 0))]) hs215).refs hII (by omega)) rfl ?_)
                      rintro vq w216 ⟨uz2, uA, uW, eA, eW, rz2, rfl, hO1⟩
                      have hBB := (hBH.drewn (X' := [(b19, .cells ⟨opCells o (vk i) (vl i)⟩ 65 (0, 0)), (b2, .cells ⟨icells vs si⟩ 59 (0, 0))]) hs215).toRefs hO1
                      have hII := hII.syn
                      have hs218 := hBB.st
                      refine Lc (wanted_none rfl) (c_call rfl rfl rfl Tryd.func29 (by kernel_rfl) rfl (bare_of hbe w216 (hEr hs218 (hBB.freshX (fr2 hbb19 hbb2)))) rfl ?_)
                      rintro vb w219 ⟨rfl, hc220⟩
                      have hs221 := hs218.call0 hc220
                      refine L0 (wanted_none rfl) rfl (y_not rfl rfl) ?_
                      refine Lnil ?_
                      refine Wkn (t := 122) (b0 := false) rfl (by rfl) (fun h222 => ?_)
                      refine W_condF rfl h222 ?_
                      refine W_skip ?_
                      refine W_seq ?_
                      refine W_seq ?_
                      obtain ⟨D1, m1, hB1, hI1⟩ : ∃ D1 m1, Both w [(b19, .cells ⟨opCells o (vk i) (vl i)⟩ 65 (0, 0)), (b2, .cells ⟨icells vs si⟩ 59 (0, 0))] b c D1 D1 m1 w219 ∧ DInv D1 (i + 1) := ⟨_, _, hBB.drewn (X' := [(b19, .cells ⟨opCells o (vk i) (vl i)⟩ 65 (0, 0)), (b2, .cells ⟨icells vs si⟩ 59 (0, 0))]) hs221, hII⟩
                      have hs221 := hB1.st
                      refine W_region ?_
                      refine L0 (wanted_none rfl) rfl (y_move (v := Value.pointer _) rfl rfl) ?_
                      refine Lc (wanted_none rfl) (c_call rfl rfl rfl Tryd.func47 (by kernel_rfl) rfl (image_ok hB1.ours hI1.z) rfl ?_)
                      rintro vq w223 ⟨vs1, im1, rfl, hO1, hR1, hF1⟩
                      have hs225 := hO1.st.re (L' := im1 ++ ((b19, .cells ⟨opCells o (vk i) (vl i)⟩ 65 (0, 0)) :: (b2, .cells ⟨icells vs si⟩ 59 (0, 0)) :: (oursB b D1 m1 ++ refsB c D1 m1))) (fun a => by simp only [List.cons_append, List.nil_append, ct_append, ct_cons, ct_nil]; omega)
                      refine L0 (wanted_none rfl) rfl (y_move (v := Value.pointer _) rfl rfl) ?_
                      refine Lc (wanted_none rfl) (c_call rfl rfl rfl Tryd.func48 (by kernel_rfl) rfl (rimage_ok (hB1.drewn (X' := im1 ++ [(b19, .cells ⟨opCells o (vk i) (vl i)⟩ 65 (0, 0)), (b2, .cells ⟨icells vs si⟩ 59 (0, 0))]) (hs225.re (fun a => by simp only [List.cons_append, List.nil_append, ct_append, ct_cons, ct_nil]; omega))).refs hI1.z) rfl ?_)
                      rintro vq w226 ⟨vs2, im2, rfl, hO2, hR2, hF2⟩
                      have hs228 := hO2.st.re (L' := im2 ++ (im1 ++ ((b19, .cells ⟨opCells o (vk i) (vl i)⟩ 65 (0, 0)) :: (b2, .cells ⟨icells vs si⟩ 59 (0, 0)) :: (oursB b D1 m1 ++ refsB c D1 m1)))) (fun a => by simp only [List.cons_append, List.nil_append, ct_append, ct_cons, ct_nil]; omega)
                      refine Lc (wanted_none rfl) (c_call rfl rfl rfl Tryd.func46 (by kernel_rfl) rfl (sameImage_any vs1 vs2 D1.slot (imZ D1 8) w226 (fun j hj => by rw [imZ, if_pos hj, List.length_take]; have := (hI1.z j hj).2; omega) (fun j hj => (hR1 j hj).sl hs228 (fun x hx => by simp [hx])) (fun j hj => (hR2 j hj).sl hs228 (fun x hx => by simp [hx]))) rfl ?_)
                      rintro vq w229 ⟨rfl, hc230⟩
                      have hs231 := ((hs228.call0 hc230).dropL hF2).dropL hF1
                      refine L0 (wanted_none rfl) rfl (y_not rfl rfl) ?_
                      refine Lnil ?_
                      refine Wkn (t := 160) (b0 := false) rfl (by rfl) (fun h232 => ?_)
                      refine W_condF rfl h232 ?_
                      refine W_skip ?_
                      refine W_seq ?_
                      refine W_region ?_
                      refine L0 (wanted_none rfl) rfl (y_fieldAddr rfl Tryd.underlying65 rfl sz3 rfl) ?_
                      refine L1 (wanted_none rfl) rfl hs231 (y_load 0 rfl Tryd.underlying3 rfl rfl rfl rfl) ?_
                      refine Lc (wanted_none rfl) (c_buildSlice (cells := [iv o.at_, iv 0, iv 7, iv 8, iv (-1)]) hs231 rfl rfl Tryd.underlying23 sz3 zr3 (by decide) (by kernel_rfl) (fun b233 w234 hbb233 hs235 => ?_))
                      refine L0 (wanted_none rfl) rfl (y_slen rfl Tryd.underlying23 rfl) ?_
                      refine L0 (wanted_none rfl) rfl (y_move (v := Value.int _ _) rfl rfl) ?_
                      refine Lnil ?_
                      refine W_block ?_
                      refine W_loop (G := Nat) (fun q aL wl => ∃ e, aL = A 237 ((165, iv q) :: (164, iv 5) :: (163, .slice (some ⟨b233, 0, none⟩) 5 5) :: (7, iv i) :: (0, v0) :: (3, pv b2 0) :: (5, pv c 0) :: (6, pv b 0) :: e) ∧ q ≤ 5 ∧ Both w ((b233, .cells ⟨[iv o.at_, iv 0, iv 7, iv 8, iv (-1)]⟩ 3 (0, 0)) :: [(b19, .cells ⟨opCells o (vk i) (vl i)⟩ 65 (0, 0)), (b2, .cells ⟨icells vs si⟩ 59 (0, 0))]) b c D1 D1 m1 wl) (fun q => 5 - q) (0) ?_ ?_
                      · exact ⟨_, A_pins _ _ [165, 164, 163, 7, 0, 3, 5, 6], Nat.zero_le _, hB1.drewn hs235⟩
                      rintro q _ w236 ⟨ehs237, rfl, hq, hBq⟩
                      have hs237 := hBq.st
                      refine W_seq ?_
                      refine W_region ?_
                      refine L0 (wanted_none rfl) rfl (y_lt rfl rfl rfl) ?_
                      refine Lnil ?_
                      refine W_seq ?_
                      refine Wsp (t := 166) rfl (fun h238 => ?_) (fun h238 => ?_)
                      · have h238' := h238
                        first | replace h238' := of_decide_eq_true h238' | replace h238' := bnT' h238' | skip
                        refine W_condT rfl h238 ?_
                        refine W_skip ?_
                        refine W_seq ?_
                        refine W_block ?_
                        refine W_seq ?_
                        have hat := atN_le hI1 (atq o.at_ q)
                        refine W_region ?_
                        refine L0 (wanted_none rfl) rfl (y_indexSl rfl Tryd.underlying23 sz3 rfl rfl (by omega) (by omega)) ?_
                        refine L1 (wanted_none rfl) rfl hs237 (y_load 0 rfl Tryd.underlying3 rfl rfl rfl (at5 _ (by omega))) ?_
                        refine L0 (wanted_none rfl) rfl (y_assign (v := Value.int _ _) rfl rfl) ?_
                        refine Lnil ?_
                        refine W_seq ?_
                        refine W_region ?_
                        refine L0 (wanted_none rfl) rfl (y_move (v := Value.pointer _) rfl rfl) ?_
                        refine L0 (wanted_none rfl) rfl (y_move (v := Value.int _ _) rfl rfl) ?_
                        refine Lc (wanted_none rfl) (c_call rfl rfl rfl Tryd.func49 (by kernel_rfl) rfl (have_all (hBq.drewn hs237).refs (atq o.at_ q)) rfl ?_)
                        rintro vq w239 ⟨rfl, hc240⟩
                        have hs241 := hs237.call0 hc240
                        refine L0 (wanted_none rfl) rfl (y_move (v := Value.tuple ⟨_⟩) rfl rfl) ?_
                        refine L0 (wanted_none rfl) rfl (y_extract rfl rfl rfl) ?_
                        refine L0 (wanted_none rfl) rfl (y_extract rfl rfl rfl) ?_
                        refine L0 (wanted_none rfl) rfl (y_assign (v := Value.int _ _) rfl rfl) ?_
                        refine L0 (wanted_none rfl) rfl (y_assign (v := Value.int _ _) rfl rfl) ?_
                        refine Lnil ?_
                        refine W_seq ?_
                        refine W_region ?_
                        refine L0 (wanted_none rfl) rfl (y_move (v := Value.pointer _) rfl rfl) ?_
                        refine L0 (wanted_none rfl) rfl (y_move (v := Value.int _ _) rfl rfl) ?_
                        refine Lc (wanted_none rfl) (c_call rfl rfl rfl Tryd.func18 (by kernel_rfl) rfl (at_all (hBq.drewn hs241).ours (atq o.at_ q)) rfl ?_)
                        rintro vq w242 ⟨⟨e1, rfl, hbe1⟩, hc243⟩
                        have hs244 := hs241.call0 hc243
                        refine L0 (wanted_none rfl) rfl (y_move (v := Value.tuple ⟨_⟩) rfl rfl) ?_
                        refine L0 (wanted_none rfl) rfl (y_extract rfl rfl rfl) ?_
                        refine L0 (wanted_none rfl) rfl (y_extract rfl rfl rfl) ?_
                        refine L0 (wanted_none rfl) rfl (y_assign (v := Value.int _ _) rfl rfl) ?_
                        refine L0 (wanted_none rfl) rfl (y_assign (v := _) rfl rfl) ?_
                        refine Lnil ?_
                        refine W_seq ?_
                        refine W_seq ?_
                        refine W_region ?_
                        refine L0 (wanted_none rfl) rfl (y_move (v := _) rfl rfl) ?_
                        refine L0 (wanted_none rfl) rfl (y_move (v := Value.int _ _) rfl rfl) ?_
                        refine Lc (wanted_none rfl) (c_call rfl rfl rfl Tryd.func29 (by kernel_rfl) rfl (bare_of hbe1 w242 (hEr hs244 (hBq.freshX (fr3 hbb233 hbb19 hbb2)))) rfl ?_)
                        rintro vb w245 ⟨rfl, hc246⟩
                        have hs247 := hs244.call0 hc246
                        refine L0 (wanted_none rfl) rfl (y_not rfl rfl) ?_
                        refine L0 (wanted_none rfl) rfl (y_move (v := Value.bool _) rfl rfl) ?_
                        refine Lkn (t := 185) (b0 := false) rfl (by rfl) (fun h248 => ?_)
                        refine L0 (wanted_yesB rfl rfl rfl h248) rfl (y_move (v := Value.int _ _) rfl rfl) ?_
                        refine L0 (wanted_yesB rfl rfl rfl h248) rfl (y_move (v := Value.int _ _) rfl rfl) ?_
                        refine L0 (wanted_yesB rfl rfl rfl h248) rfl (y_ne rfl rfl rfl) ?_
                        refine L0 (wanted_none rfl) rfl (y_pickF rfl rfl h248 rfl) ?_
                        refine Lnil ?_
                        refine Wkn (t := 189) (b0 := false) rfl (by exact bnF rfl) (fun h249 => ?_)
                        refine W_condF rfl h249 ?_
                        refine W_skip ?_
                        refine W_seq ?_
                        refine W_region ?_
                        refine L0 (wanted_none rfl) rfl (y_move (v := Value.pointer _) rfl rfl) ?_
                        refine L0 (wanted_none rfl) rfl (y_move (v := Value.int _ _) rfl rfl) ?_
                        refine L0 (wanted_none rfl) rfl (y_move (v := Value.int _ _) rfl rfl) ?_
                        refine L0 (wanted_none rfl) rfl (y_sub64 rfl rfl rfl (by omega)) ?_
                        refine Lc (wanted_none rfl) (c_call rfl rfl rfl Tryd.func50 (by kernel_rfl) rfl (rread_all (hBq.drewn hs247).refs hI1 (atq o.at_ q) _) rfl ?_)
                        rintro vq w250 ⟨rfl, hc251⟩
                        have hs252 := hs247.call0 hc251
                        refine L0 (wanted_none rfl) rfl (y_move (v := Value.tuple ⟨_⟩) rfl rfl) ?_
                        refine L0 (wanted_none rfl) rfl (y_extract rfl rfl rfl) ?_
                        refine L0 (wanted_none rfl) rfl (y_extract rfl rfl rfl) ?_
                        refine L0 (wanted_none rfl) rfl (y_assign (v := Value.string ⟨⟨_⟩⟩) rfl rfl) ?_
                        refine L0 (wanted_none rfl) rfl (y_assign (v := Value.int _ _) rfl rfl) ?_
                        refine Lnil ?_
                        refine W_seq ?_
                        refine W_region ?_
                        refine L0 (wanted_none rfl) rfl (y_move (v := Value.pointer _) rfl rfl) ?_
                        refine L0 (wanted_none rfl) rfl (y_move (v := Value.int _ _) rfl rfl) ?_
                        refine L0 (wanted_none rfl) rfl (y_move (v := Value.int _ _) rfl rfl) ?_
                        refine L0 (wanted_none rfl) rfl (y_sub64 rfl rfl rfl (by omega)) ?_
                        refine Lc (wanted_none rfl) (c_call rfl rfl rfl Tryd.func19 (by kernel_rfl) rfl (read_all (hBq.drewn hs252).ours (atq o.at_ q) _) rfl ?_)
                        rintro vq w253 ⟨⟨e2, rfl, hbe2⟩, hc254⟩
                        have hs255 := hs252.call0 hc254
                        refine L0 (wanted_none rfl) rfl (y_move (v := Value.tuple ⟨_⟩) rfl rfl) ?_
                        refine L0 (wanted_none rfl) rfl (y_extract rfl rfl rfl) ?_
                        refine L0 (wanted_none rfl) rfl (y_extract rfl rfl rfl) ?_
                        refine L0 (wanted_none rfl) rfl (y_assign (v := Value.string ⟨⟨_⟩⟩) rfl rfl) ?_
                        refine L0 (wanted_none rfl) rfl (y_assign (v := _) rfl rfl) ?_
                        refine Lnil ?_
                        refine W_seq ?_
                        refine W_seq ?_
                        refine W_region ?_
                        refine L0 (wanted_none rfl) rfl (y_move (v := _) rfl rfl) ?_
                        refine L0 (wanted_none rfl) rfl (y_move (v := Value.int _ _) rfl rfl) ?_
                        refine Lc (wanted_none rfl) (c_call rfl rfl rfl Tryd.func29 (by kernel_rfl) rfl (bare_of hbe2 w253 (hEr hs255 (hBq.freshX (fr3 hbb233 hbb19 hbb2)))) rfl ?_)
                        rintro vb w256 ⟨rfl, hc257⟩
                        have hs258 := hs255.call0 hc257
                        refine L0 (wanted_none rfl) rfl (y_not rfl rfl) ?_
                        refine L0 (wanted_none rfl) rfl (y_move (v := Value.bool _) rfl rfl) ?_
                        refine Lkn (t := 210) (b0 := false) rfl (by rfl) (fun h259 => ?_)
                        refine L0 (wanted_yesB rfl rfl rfl h259) rfl (y_move (v := Value.string ⟨⟨_⟩⟩) rfl rfl) ?_
                        refine L0 (wanted_yesB rfl rfl rfl h259) rfl (y_move (v := Value.string ⟨⟨_⟩⟩) rfl rfl) ?_
                        refine L0 (wanted_yesB rfl rfl rfl h259) rfl (y_sne rfl rfl rfl) ?_
                        refine L0 (wanted_none rfl) rfl (y_pickF rfl rfl h259 rfl) ?_
                        refine Lnil ?_
                        refine Wkn (t := 214) (b0 := false) rfl (by exact bnF rfl) (fun h260 => ?_)
                        refine W_condF rfl h260 ?_
                        refine W_skip ?_
                        refine W_seq ?_
                        refine W_region ?_
                        refine L0 (wanted_none rfl) rfl (y_move (v := Value.pointer _) rfl rfl) ?_
                        refine L0 (wanted_none rfl) rfl (y_move (v := Value.int _ _) rfl rfl) ?_
                        refine Lc (wanted_none rfl) (c_call rfl rfl rfl Tryd.func51 (by kernel_rfl) rfl (rget_all (hBq.drewn hs258).refs hI1 (by omega) (atq o.at_ q)) rfl ?_)
                        rintro vq w261 ⟨rfl, hc262⟩
                        have hs263 := hs258.call0 hc262
                        refine L0 (wanted_none rfl) rfl (y_move (v := Value.tuple ⟨_⟩) rfl rfl) ?_
                        refine L0 (wanted_none rfl) rfl (y_extract rfl rfl rfl) ?_
                        refine L0 (wanted_none rfl) rfl (y_extract rfl rfl rfl) ?_
                        refine L0 (wanted_none rfl) rfl (y_assign (v := Value.string ⟨⟨_⟩⟩) rfl rfl) ?_
                        refine L0 (wanted_none rfl) rfl (y_assign (v := Value.int _ _) rfl rfl) ?_
                        refine Lnil ?_
                        refine W_seq ?_
                        refine W_region ?_
                        refine L0 (wanted_none rfl) rfl (y_move (v := Value.pointer _) rfl rfl) ?_
                        refine L0 (wanted_none rfl) rfl (y_move (v := Value.int _ _) rfl rfl) ?_
                        refine Lc (wanted_none rfl) (c_call rfl rfl rfl Tryd.func52 (by kernel_rfl) rfl (get_all (hBq.drewn hs263).ours hI1 (by omega) (atq o.at_ q)) rfl ?_)
                        rintro vq w264 ⟨⟨e3, rfl, hbe3⟩, hc265⟩
                        have hs266 := hs263.call0 hc265
                        refine L0 (wanted_none rfl) rfl (y_move (v := Value.tuple ⟨_⟩) rfl rfl) ?_
                        refine L0 (wanted_none rfl) rfl (y_extract rfl rfl rfl) ?_
                        refine L0 (wanted_none rfl) rfl (y_extract rfl rfl rfl) ?_
                        refine L0 (wanted_none rfl) rfl (y_assign (v := Value.string ⟨⟨_⟩⟩) rfl rfl) ?_
                        refine L0 (wanted_none rfl) rfl (y_assign (v := _) rfl rfl) ?_
                        refine Lnil ?_
                        refine W_seq ?_
                        refine W_region ?_
                        refine L0 (wanted_none rfl) rfl (y_move (v := _) rfl rfl) ?_
                        refine L0 (wanted_none rfl) rfl (y_move (v := Value.int _ _) rfl rfl) ?_
                        refine Lc (wanted_none rfl) (c_call rfl rfl rfl Tryd.func29 (by kernel_rfl) rfl (bare_of hbe3 w264 (hEr hs266 (hBq.freshX (fr3 hbb233 hbb19 hbb2)))) rfl ?_)
                        rintro vb w267 ⟨rfl, hc268⟩
                        have hs269 := hs266.call0 hc268
                        refine L0 (wanted_none rfl) rfl (y_not rfl rfl) ?_
                        refine L0 (wanted_none rfl) rfl (y_move (v := Value.bool _) rfl rfl) ?_
                        refine Lkn (t := 231) (b0 := false) rfl (by rfl) (fun h270 => ?_)
                        refine L0 (wanted_yesB rfl rfl rfl h270) rfl (y_move (v := Value.string ⟨⟨_⟩⟩) rfl rfl) ?_
                        refine L0 (wanted_yesB rfl rfl rfl h270) rfl (y_move (v := Value.string ⟨⟨_⟩⟩) rfl rfl) ?_
                        refine L0 (wanted_yesB rfl rfl rfl h270) rfl (y_sne rfl rfl rfl) ?_
                        refine L0 (wanted_none rfl) rfl (y_pickF rfl rfl h270 rfl) ?_
                        refine Lnil ?_
                        refine Wkn (t := 235) (b0 := false) rfl (by exact bnF rfl) (fun h271 => ?_)
                        refine W_condF rfl h271 ?_
                        refine W_skip ?_
                        refine W_region ?_
                        refine L0 (wanted_none rfl) rfl (y_add64 rfl rfl rfl (by omega)) ?_
                        refine L0 (wanted_none rfl) rfl (y_move (v := Value.int _ _) rfl rfl) ?_
                        refine Lnil ?_
                        exact ⟨q + 1, by first | omega | (dsimp only; done) | (dsimp only; omega), _, A_c (iv_eq (by first | omega | (dsimp only; done) | (dsimp only; omega))) (A_c rfl (A_c rfl (A_c rfl (A_c rfl (A_c rfl (A_c rfl (A_c rfl (rfl)))))))), by omega, hBq.drewn hs269⟩
                      · have h238' := h238
                        first | replace h238' := of_decide_eq_false h238' | replace h238' := bnF' h238' | skip
                        refine W_condF rfl h238 ?_
                        refine W_exit ?_
                        refine W_region ?_
                        refine L0 (wanted_none rfl) rfl (y_move (v := Value.int _ _) rfl rfl) ?_
                        refine L0 (wanted_none rfl) rfl (y_add64 rfl rfl rfl (by omega)) ?_
                        refine L0 (wanted_none rfl) rfl (y_assign (v := Value.int _ _) rfl rfl) ?_
                        refine Lnil ?_
                        exact ⟨(i + 1, D1, m1), by first | omega | (dsimp only; done) | (dsimp only; omega), _, A_c (iv_eq (by first | omega | (dsimp only; done) | (dsimp only; omega))) (A_c rfl (A_c rfl (A_c rfl (A_c rfl (rfl))))), by first | omega | (dsimp only; done) | (dsimp only; omega), hI1, hB1.drewn (X' := [(b2, .cells ⟨icells vs si⟩ 59 (0, 0))]) ((hs237.drop (.inl hbb233)).drop (.inl hbb19))⟩
                    · have h212' := h212
                      first | replace h212' := of_decide_eq_false h212' | replace h212' := bnF' h212' | skip
                      refine W_condF rfl h212 ?_
                      refine W_seq ?_
                      refine W_region ?_
                      refine L0 (wanted_none rfl) rfl (y_eq rfl rfl rfl) ?_
                      refine L0 (wanted_none rfl) rfl (y_assign (v := Value.bool _) rfl rfl) ?_
                      refine Lnil ?_
                      refine Wsp (t := 123) rfl (fun h272 => ?_) (fun h272 => ?_)
                      · have h272' := h272
                        first | replace h272' := of_decide_eq_true h272' | replace h272' := bnT' h272' | skip
                        refine W_condT rfl h272 ?_
                        refine W_seq ?_
                        refine W_region ?_
                        refine L0 (wanted_none rfl) rfl (y_move (v := Value.pointer _) rfl rfl) ?_
                        refine L0 (wanted_none rfl) rfl (y_fieldAddr rfl Tryd.underlying65 rfl sz3 rfl) ?_
                        refine L1 (wanted_none rfl) rfl hs23 (y_load 0 rfl Tryd.underlying3 rfl rfl rfl rfl) ?_
                        refine Lc (wanted_none rfl) (c_call rfl rfl rfl Tryd.func40 (by kernel_rfl) rfl (fuse_ok (hBB.drewn (X' := [(b19, .cells ⟨opCells o (vk i) (vl i)⟩ 65 (0, 0)), (b2, .cells ⟨icells vs si⟩ 59 (0, 0))]) hs23).ours o.at_) rfl ?_)
                        rintro vq w273 ⟨rfl, hR⟩
                        have hBH := (hBB.drewn (X' := [(b19, .cells ⟨opCells o (vk i) (vl i)⟩ 65 (0, 0)), (b2, .cells ⟨icells vs si⟩ 59 (0, 0))]) hs23).toOurs (D' := fusD _ o.at_) hR
                        have hs275 := hBH.st
                        refine Lnil ?_
                        refine W_region ?_
                        refine L0 (wanted_none rfl) rfl (y_move (v := Value.pointer _) rfl rfl) ?_
                        refine L0 (wanted_none rfl) rfl (y_fieldAddr rfl Tryd.underlying65 rfl sz3 rfl) ?_
                        refine L1 (wanted_none rfl) rfl hs275 (y_load 0 rfl Tryd.underlying3 rfl rfl rfl rfl) ?_
                        refine Lc (wanted_none rfl) (c_call rfl rfl rfl Tryd.func41 (by kernel_rfl) rfl (rfuse_ok (hBH.drewn (X' := [(b19, .cells ⟨opCells o (vk i) (vl i)⟩ 65 (0, 0)), (b2, .cells ⟨icells vs si⟩ 59 (0, 0))]) hs275).refs o.at_) rfl ?_)
                        rintro vq w276 ⟨rfl, hO1⟩
                        have hBB := (hBH.drewn (X' := [(b19, .cells ⟨opCells o (vk i) (vl i)⟩ 65 (0, 0)), (b2, .cells ⟨icells vs si⟩ 59 (0, 0))]) hs275).toRefs hO1
                        have hII := hII.fus hwf
                        have hs278 := hBB.st
                        refine Lnil ?_
                        refine W_seq ?_
                        refine W_seq ?_
                        obtain ⟨D1, m1, hB1, hI1⟩ : ∃ D1 m1, Both w [(b19, .cells ⟨opCells o (vk i) (vl i)⟩ 65 (0, 0)), (b2, .cells ⟨icells vs si⟩ 59 (0, 0))] b c D1 D1 m1 w276 ∧ DInv D1 (i + 1) := ⟨_, _, hBB.drewn (X' := [(b19, .cells ⟨opCells o (vk i) (vl i)⟩ 65 (0, 0)), (b2, .cells ⟨icells vs si⟩ 59 (0, 0))]) hs278, hII⟩
                        have hs278 := hB1.st
                        refine W_region ?_
                        refine L0 (wanted_none rfl) rfl (y_move (v := Value.pointer _) rfl rfl) ?_
                        refine Lc (wanted_none rfl) (c_call rfl rfl rfl Tryd.func47 (by kernel_rfl) rfl (image_ok hB1.ours hI1.z) rfl ?_)
                        rintro vq w279 ⟨vs1, im1, rfl, hO1, hR1, hF1⟩
                        have hs281 := hO1.st.re (L' := im1 ++ ((b19, .cells ⟨opCells o (vk i) (vl i)⟩ 65 (0, 0)) :: (b2, .cells ⟨icells vs si⟩ 59 (0, 0)) :: (oursB b D1 m1 ++ refsB c D1 m1))) (fun a => by simp only [List.cons_append, List.nil_append, ct_append, ct_cons, ct_nil]; omega)
                        refine L0 (wanted_none rfl) rfl (y_move (v := Value.pointer _) rfl rfl) ?_
                        refine Lc (wanted_none rfl) (c_call rfl rfl rfl Tryd.func48 (by kernel_rfl) rfl (rimage_ok (hB1.drewn (X' := im1 ++ [(b19, .cells ⟨opCells o (vk i) (vl i)⟩ 65 (0, 0)), (b2, .cells ⟨icells vs si⟩ 59 (0, 0))]) (hs281.re (fun a => by simp only [List.cons_append, List.nil_append, ct_append, ct_cons, ct_nil]; omega))).refs hI1.z) rfl ?_)
                        rintro vq w282 ⟨vs2, im2, rfl, hO2, hR2, hF2⟩
                        have hs284 := hO2.st.re (L' := im2 ++ (im1 ++ ((b19, .cells ⟨opCells o (vk i) (vl i)⟩ 65 (0, 0)) :: (b2, .cells ⟨icells vs si⟩ 59 (0, 0)) :: (oursB b D1 m1 ++ refsB c D1 m1)))) (fun a => by simp only [List.cons_append, List.nil_append, ct_append, ct_cons, ct_nil]; omega)
                        refine Lc (wanted_none rfl) (c_call rfl rfl rfl Tryd.func46 (by kernel_rfl) rfl (sameImage_any vs1 vs2 D1.slot (imZ D1 8) w282 (fun j hj => by rw [imZ, if_pos hj, List.length_take]; have := (hI1.z j hj).2; omega) (fun j hj => (hR1 j hj).sl hs284 (fun x hx => by simp [hx])) (fun j hj => (hR2 j hj).sl hs284 (fun x hx => by simp [hx]))) rfl ?_)
                        rintro vq w285 ⟨rfl, hc286⟩
                        have hs287 := ((hs284.call0 hc286).dropL hF2).dropL hF1
                        refine L0 (wanted_none rfl) rfl (y_not rfl rfl) ?_
                        refine Lnil ?_
                        refine Wkn (t := 160) (b0 := false) rfl (by rfl) (fun h288 => ?_)
                        refine W_condF rfl h288 ?_
                        refine W_skip ?_
                        refine W_seq ?_
                        refine W_region ?_
                        refine L0 (wanted_none rfl) rfl (y_fieldAddr rfl Tryd.underlying65 rfl sz3 rfl) ?_
                        refine L1 (wanted_none rfl) rfl hs287 (y_load 0 rfl Tryd.underlying3 rfl rfl rfl rfl) ?_
                        refine Lc (wanted_none rfl) (c_buildSlice (cells := [iv o.at_, iv 0, iv 7, iv 8, iv (-1)]) hs287 rfl rfl Tryd.underlying23 sz3 zr3 (by decide) (by kernel_rfl) (fun b289 w290 hbb289 hs291 => ?_))
                        refine L0 (wanted_none rfl) rfl (y_slen rfl Tryd.underlying23 rfl) ?_
                        refine L0 (wanted_none rfl) rfl (y_move (v := Value.int _ _) rfl rfl) ?_
                        refine Lnil ?_
                        refine W_block ?_
                        refine W_loop (G := Nat) (fun q aL wl => ∃ e, aL = A 237 ((165, iv q) :: (164, iv 5) :: (163, .slice (some ⟨b289, 0, none⟩) 5 5) :: (7, iv i) :: (0, v0) :: (3, pv b2 0) :: (5, pv c 0) :: (6, pv b 0) :: e) ∧ q ≤ 5 ∧ Both w ((b289, .cells ⟨[iv o.at_, iv 0, iv 7, iv 8, iv (-1)]⟩ 3 (0, 0)) :: [(b19, .cells ⟨opCells o (vk i) (vl i)⟩ 65 (0, 0)), (b2, .cells ⟨icells vs si⟩ 59 (0, 0))]) b c D1 D1 m1 wl) (fun q => 5 - q) (0) ?_ ?_
                        · exact ⟨_, A_pins _ _ [165, 164, 163, 7, 0, 3, 5, 6], Nat.zero_le _, hB1.drewn hs291⟩
                        rintro q _ w292 ⟨ehs293, rfl, hq, hBq⟩
                        have hs293 := hBq.st
                        refine W_seq ?_
                        refine W_region ?_
                        refine L0 (wanted_none rfl) rfl (y_lt rfl rfl rfl) ?_
                        refine Lnil ?_
                        refine W_seq ?_
                        refine Wsp (t := 166) rfl (fun h294 => ?_) (fun h294 => ?_)
                        · have h294' := h294
                          first | replace h294' := of_decide_eq_true h294' | replace h294' := bnT' h294' | skip
                          refine W_condT rfl h294 ?_
                          refine W_skip ?_
                          refine W_seq ?_
                          refine W_block ?_
                          refine W_seq ?_
                          have hat := atN_le hI1 (atq o.at_ q)
                          refine W_region ?_
                          refine L0 (wanted_none rfl) rfl (y_indexSl rfl Tryd.underlying23 sz3 rfl rfl (by omega) (by omega)) ?_
                          refine L1 (wanted_none rfl) rfl hs293 (y_load 0 rfl Tryd.underlying3 rfl rfl rfl (at5 _ (by omega))) ?_
                          refine L0 (wanted_none rfl) rfl (y_assign (v := Value.int _ _) rfl rfl) ?_
                          refine Lnil ?_
                          refine W_seq ?_
                          refine W_region ?_
                          refine L0 (wanted_none rfl) rfl (y_move (v := Value.pointer _) rfl rfl) ?_
                          refine L0 (wanted_none rfl) rfl (y_move (v := Value.int _ _) rfl rfl) ?_
                          refine Lc (wanted_none rfl) (c_call rfl rfl rfl Tryd.func49 (by kernel_rfl) rfl (have_all (hBq.drewn hs293).refs (atq o.at_ q)) rfl ?_)
                          rintro vq w295 ⟨rfl, hc296⟩
                          have hs297 := hs293.call0 hc296
                          refine L0 (wanted_none rfl) rfl (y_move (v := Value.tuple ⟨_⟩) rfl rfl) ?_
                          refine L0 (wanted_none rfl) rfl (y_extract rfl rfl rfl) ?_
                          refine L0 (wanted_none rfl) rfl (y_extract rfl rfl rfl) ?_
                          refine L0 (wanted_none rfl) rfl (y_assign (v := Value.int _ _) rfl rfl) ?_
                          refine L0 (wanted_none rfl) rfl (y_assign (v := Value.int _ _) rfl rfl) ?_
                          refine Lnil ?_
                          refine W_seq ?_
                          refine W_region ?_
                          refine L0 (wanted_none rfl) rfl (y_move (v := Value.pointer _) rfl rfl) ?_
                          refine L0 (wanted_none rfl) rfl (y_move (v := Value.int _ _) rfl rfl) ?_
                          refine Lc (wanted_none rfl) (c_call rfl rfl rfl Tryd.func18 (by kernel_rfl) rfl (at_all (hBq.drewn hs297).ours (atq o.at_ q)) rfl ?_)
                          rintro vq w298 ⟨⟨e1, rfl, hbe1⟩, hc299⟩
                          have hs300 := hs297.call0 hc299
                          refine L0 (wanted_none rfl) rfl (y_move (v := Value.tuple ⟨_⟩) rfl rfl) ?_
                          refine L0 (wanted_none rfl) rfl (y_extract rfl rfl rfl) ?_
                          refine L0 (wanted_none rfl) rfl (y_extract rfl rfl rfl) ?_
                          refine L0 (wanted_none rfl) rfl (y_assign (v := Value.int _ _) rfl rfl) ?_
                          refine L0 (wanted_none rfl) rfl (y_assign (v := _) rfl rfl) ?_
                          refine Lnil ?_
                          refine W_seq ?_
                          refine W_seq ?_
                          refine W_region ?_
                          refine L0 (wanted_none rfl) rfl (y_move (v := _) rfl rfl) ?_
                          refine L0 (wanted_none rfl) rfl (y_move (v := Value.int _ _) rfl rfl) ?_
                          refine Lc (wanted_none rfl) (c_call rfl rfl rfl Tryd.func29 (by kernel_rfl) rfl (bare_of hbe1 w298 (hEr hs300 (hBq.freshX (fr3 hbb289 hbb19 hbb2)))) rfl ?_)
                          rintro vb w301 ⟨rfl, hc302⟩
                          have hs303 := hs300.call0 hc302
                          refine L0 (wanted_none rfl) rfl (y_not rfl rfl) ?_
                          refine L0 (wanted_none rfl) rfl (y_move (v := Value.bool _) rfl rfl) ?_
                          refine Lkn (t := 185) (b0 := false) rfl (by rfl) (fun h304 => ?_)
                          refine L0 (wanted_yesB rfl rfl rfl h304) rfl (y_move (v := Value.int _ _) rfl rfl) ?_
                          refine L0 (wanted_yesB rfl rfl rfl h304) rfl (y_move (v := Value.int _ _) rfl rfl) ?_
                          refine L0 (wanted_yesB rfl rfl rfl h304) rfl (y_ne rfl rfl rfl) ?_
                          refine L0 (wanted_none rfl) rfl (y_pickF rfl rfl h304 rfl) ?_
                          refine Lnil ?_
                          refine Wkn (t := 189) (b0 := false) rfl (by exact bnF rfl) (fun h305 => ?_)
                          refine W_condF rfl h305 ?_
                          refine W_skip ?_
                          refine W_seq ?_
                          refine W_region ?_
                          refine L0 (wanted_none rfl) rfl (y_move (v := Value.pointer _) rfl rfl) ?_
                          refine L0 (wanted_none rfl) rfl (y_move (v := Value.int _ _) rfl rfl) ?_
                          refine L0 (wanted_none rfl) rfl (y_move (v := Value.int _ _) rfl rfl) ?_
                          refine L0 (wanted_none rfl) rfl (y_sub64 rfl rfl rfl (by omega)) ?_
                          refine Lc (wanted_none rfl) (c_call rfl rfl rfl Tryd.func50 (by kernel_rfl) rfl (rread_all (hBq.drewn hs303).refs hI1 (atq o.at_ q) _) rfl ?_)
                          rintro vq w306 ⟨rfl, hc307⟩
                          have hs308 := hs303.call0 hc307
                          refine L0 (wanted_none rfl) rfl (y_move (v := Value.tuple ⟨_⟩) rfl rfl) ?_
                          refine L0 (wanted_none rfl) rfl (y_extract rfl rfl rfl) ?_
                          refine L0 (wanted_none rfl) rfl (y_extract rfl rfl rfl) ?_
                          refine L0 (wanted_none rfl) rfl (y_assign (v := Value.string ⟨⟨_⟩⟩) rfl rfl) ?_
                          refine L0 (wanted_none rfl) rfl (y_assign (v := Value.int _ _) rfl rfl) ?_
                          refine Lnil ?_
                          refine W_seq ?_
                          refine W_region ?_
                          refine L0 (wanted_none rfl) rfl (y_move (v := Value.pointer _) rfl rfl) ?_
                          refine L0 (wanted_none rfl) rfl (y_move (v := Value.int _ _) rfl rfl) ?_
                          refine L0 (wanted_none rfl) rfl (y_move (v := Value.int _ _) rfl rfl) ?_
                          refine L0 (wanted_none rfl) rfl (y_sub64 rfl rfl rfl (by omega)) ?_
                          refine Lc (wanted_none rfl) (c_call rfl rfl rfl Tryd.func19 (by kernel_rfl) rfl (read_all (hBq.drewn hs308).ours (atq o.at_ q) _) rfl ?_)
                          rintro vq w309 ⟨⟨e2, rfl, hbe2⟩, hc310⟩
                          have hs311 := hs308.call0 hc310
                          refine L0 (wanted_none rfl) rfl (y_move (v := Value.tuple ⟨_⟩) rfl rfl) ?_
                          refine L0 (wanted_none rfl) rfl (y_extract rfl rfl rfl) ?_
                          refine L0 (wanted_none rfl) rfl (y_extract rfl rfl rfl) ?_
                          refine L0 (wanted_none rfl) rfl (y_assign (v := Value.string ⟨⟨_⟩⟩) rfl rfl) ?_
                          refine L0 (wanted_none rfl) rfl (y_assign (v := _) rfl rfl) ?_
                          refine Lnil ?_
                          refine W_seq ?_
                          refine W_seq ?_
                          refine W_region ?_
                          refine L0 (wanted_none rfl) rfl (y_move (v := _) rfl rfl) ?_
                          refine L0 (wanted_none rfl) rfl (y_move (v := Value.int _ _) rfl rfl) ?_
                          refine Lc (wanted_none rfl) (c_call rfl rfl rfl Tryd.func29 (by kernel_rfl) rfl (bare_of hbe2 w309 (hEr hs311 (hBq.freshX (fr3 hbb289 hbb19 hbb2)))) rfl ?_)
                          rintro vb w312 ⟨rfl, hc313⟩
                          have hs314 := hs311.call0 hc313
                          refine L0 (wanted_none rfl) rfl (y_not rfl rfl) ?_
                          refine L0 (wanted_none rfl) rfl (y_move (v := Value.bool _) rfl rfl) ?_
                          refine Lkn (t := 210) (b0 := false) rfl (by rfl) (fun h315 => ?_)
                          refine L0 (wanted_yesB rfl rfl rfl h315) rfl (y_move (v := Value.string ⟨⟨_⟩⟩) rfl rfl) ?_
                          refine L0 (wanted_yesB rfl rfl rfl h315) rfl (y_move (v := Value.string ⟨⟨_⟩⟩) rfl rfl) ?_
                          refine L0 (wanted_yesB rfl rfl rfl h315) rfl (y_sne rfl rfl rfl) ?_
                          refine L0 (wanted_none rfl) rfl (y_pickF rfl rfl h315 rfl) ?_
                          refine Lnil ?_
                          refine Wkn (t := 214) (b0 := false) rfl (by exact bnF rfl) (fun h316 => ?_)
                          refine W_condF rfl h316 ?_
                          refine W_skip ?_
                          refine W_seq ?_
                          refine W_region ?_
                          refine L0 (wanted_none rfl) rfl (y_move (v := Value.pointer _) rfl rfl) ?_
                          refine L0 (wanted_none rfl) rfl (y_move (v := Value.int _ _) rfl rfl) ?_
                          refine Lc (wanted_none rfl) (c_call rfl rfl rfl Tryd.func51 (by kernel_rfl) rfl (rget_all (hBq.drewn hs314).refs hI1 (by omega) (atq o.at_ q)) rfl ?_)
                          rintro vq w317 ⟨rfl, hc318⟩
                          have hs319 := hs314.call0 hc318
                          refine L0 (wanted_none rfl) rfl (y_move (v := Value.tuple ⟨_⟩) rfl rfl) ?_
                          refine L0 (wanted_none rfl) rfl (y_extract rfl rfl rfl) ?_
                          refine L0 (wanted_none rfl) rfl (y_extract rfl rfl rfl) ?_
                          refine L0 (wanted_none rfl) rfl (y_assign (v := Value.string ⟨⟨_⟩⟩) rfl rfl) ?_
                          refine L0 (wanted_none rfl) rfl (y_assign (v := Value.int _ _) rfl rfl) ?_
                          refine Lnil ?_
                          refine W_seq ?_
                          refine W_region ?_
                          refine L0 (wanted_none rfl) rfl (y_move (v := Value.pointer _) rfl rfl) ?_
                          refine L0 (wanted_none rfl) rfl (y_move (v := Value.int _ _) rfl rfl) ?_
                          refine Lc (wanted_none rfl) (c_call rfl rfl rfl Tryd.func52 (by kernel_rfl) rfl (get_all (hBq.drewn hs319).ours hI1 (by omega) (atq o.at_ q)) rfl ?_)
                          rintro vq w320 ⟨⟨e3, rfl, hbe3⟩, hc321⟩
                          have hs322 := hs319.call0 hc321
                          refine L0 (wanted_none rfl) rfl (y_move (v := Value.tuple ⟨_⟩) rfl rfl) ?_
                          refine L0 (wanted_none rfl) rfl (y_extract rfl rfl rfl) ?_
                          refine L0 (wanted_none rfl) rfl (y_extract rfl rfl rfl) ?_
                          refine L0 (wanted_none rfl) rfl (y_assign (v := Value.string ⟨⟨_⟩⟩) rfl rfl) ?_
                          refine L0 (wanted_none rfl) rfl (y_assign (v := _) rfl rfl) ?_
                          refine Lnil ?_
                          refine W_seq ?_
                          refine W_region ?_
                          refine L0 (wanted_none rfl) rfl (y_move (v := _) rfl rfl) ?_
                          refine L0 (wanted_none rfl) rfl (y_move (v := Value.int _ _) rfl rfl) ?_
                          refine Lc (wanted_none rfl) (c_call rfl rfl rfl Tryd.func29 (by kernel_rfl) rfl (bare_of hbe3 w320 (hEr hs322 (hBq.freshX (fr3 hbb289 hbb19 hbb2)))) rfl ?_)
                          rintro vb w323 ⟨rfl, hc324⟩
                          have hs325 := hs322.call0 hc324
                          refine L0 (wanted_none rfl) rfl (y_not rfl rfl) ?_
                          refine L0 (wanted_none rfl) rfl (y_move (v := Value.bool _) rfl rfl) ?_
                          refine Lkn (t := 231) (b0 := false) rfl (by rfl) (fun h326 => ?_)
                          refine L0 (wanted_yesB rfl rfl rfl h326) rfl (y_move (v := Value.string ⟨⟨_⟩⟩) rfl rfl) ?_
                          refine L0 (wanted_yesB rfl rfl rfl h326) rfl (y_move (v := Value.string ⟨⟨_⟩⟩) rfl rfl) ?_
                          refine L0 (wanted_yesB rfl rfl rfl h326) rfl (y_sne rfl rfl rfl) ?_
                          refine L0 (wanted_none rfl) rfl (y_pickF rfl rfl h326 rfl) ?_
                          refine Lnil ?_
                          refine Wkn (t := 235) (b0 := false) rfl (by exact bnF rfl) (fun h327 => ?_)
                          refine W_condF rfl h327 ?_
                          refine W_skip ?_
                          refine W_region ?_
                          refine L0 (wanted_none rfl) rfl (y_add64 rfl rfl rfl (by omega)) ?_
                          refine L0 (wanted_none rfl) rfl (y_move (v := Value.int _ _) rfl rfl) ?_
                          refine Lnil ?_
                          exact ⟨q + 1, by first | omega | (dsimp only; done) | (dsimp only; omega), _, A_c (iv_eq (by first | omega | (dsimp only; done) | (dsimp only; omega))) (A_c rfl (A_c rfl (A_c rfl (A_c rfl (A_c rfl (A_c rfl (A_c rfl (rfl)))))))), by omega, hBq.drewn hs325⟩
                        · have h294' := h294
                          first | replace h294' := of_decide_eq_false h294' | replace h294' := bnF' h294' | skip
                          refine W_condF rfl h294 ?_
                          refine W_exit ?_
                          refine W_region ?_
                          refine L0 (wanted_none rfl) rfl (y_move (v := Value.int _ _) rfl rfl) ?_
                          refine L0 (wanted_none rfl) rfl (y_add64 rfl rfl rfl (by omega)) ?_
                          refine L0 (wanted_none rfl) rfl (y_assign (v := Value.int _ _) rfl rfl) ?_
                          refine Lnil ?_
                          exact ⟨(i + 1, D1, m1), by first | omega | (dsimp only; done) | (dsimp only; omega), _, A_c (iv_eq (by first | omega | (dsimp only; done) | (dsimp only; omega))) (A_c rfl (A_c rfl (A_c rfl (A_c rfl (rfl))))), by first | omega | (dsimp only; done) | (dsimp only; omega), hI1, hB1.drewn (X' := [(b2, .cells ⟨icells vs si⟩ 59 (0, 0))]) ((hs293.drop (.inl hbb289)).drop (.inl hbb19))⟩
                      · have h272' := h272
                        first | replace h272' := of_decide_eq_false h272' | replace h272' := bnF' h272' | skip
                        refine W_condF rfl h272 ?_
                        refine W_seq ?_
                        refine W_region ?_
                        refine L0 (wanted_none rfl) rfl (y_eq rfl rfl rfl) ?_
                        refine L0 (wanted_none rfl) rfl (y_assign (v := Value.bool _) rfl rfl) ?_
                        refine Lnil ?_
                        refine Wsp (t := 133) rfl (fun h328 => ?_) (fun h328 => ?_)
                        · have h328' := h328
                          first | replace h328' := of_decide_eq_true h328' | replace h328' := bnT' h328' | skip
                          refine W_condT rfl h328 ?_
                          refine W_seq ?_
                          refine W_region ?_
                          refine L0 (wanted_none rfl) rfl (y_move (v := Value.pointer _) rfl rfl) ?_
                          refine L0 (wanted_none rfl) rfl (y_fieldAddr rfl Tryd.underlying65 rfl sz23 rfl) ?_
                          refine L1 (wanted_none rfl) rfl hs23 (y_load 0 rfl Tryd.underlying23 rfl rfl rfl rfl) ?_
                          refine L0 (wanted_none rfl) rfl (y_fieldAddr rfl Tryd.underlying65 rfl sz63 rfl) ?_
                          refine L1 (wanted_none rfl) rfl hs23 (y_load 0 rfl Tryd.underlying63 rfl rfl rfl rfl) ?_
                          refine Lc (wanted_none rfl) (c_call rfl rfl rfl Tryd.func42 (by kernel_rfl) rfl (crash_ok (hBB.drewn (X' := [(b19, .cells ⟨opCells o (vk i) (vl i)⟩ 65 (0, 0)), (b2, .cells ⟨icells vs si⟩ 59 (0, 0))]) hs23).ours o.keeps o.slots (vk i) (vl i) (by omega) (by omega) (fun w2 L2 h2 hf2 => keepH hKe h2 (freshA (fr2 hbb19 hbb2) hBB.freshR) hf2) (fun w2 L2 h2 hf2 => keepH hLa h2 (freshA (fr2 hbb19 hbb2) hBB.freshR) hf2) hDi.wait (by have := hDi.len; omega) hDi.z) rfl ?_)
                          rintro vq w329 ⟨uz, rfl, hR⟩
                          have hBH := (hBB.drewn (X' := [(b19, .cells ⟨opCells o (vk i) (vl i)⟩ 65 (0, 0)), (b2, .cells ⟨icells vs si⟩ 59 (0, 0))]) hs23).toOurs (D' := craD _ o.keeps o.slots) hR
                          have hs331 := hBH.st
                          refine Lnil ?_
                          refine W_region ?_
                          refine L0 (wanted_none rfl) rfl (y_move (v := Value.pointer _) rfl rfl) ?_
                          refine L0 (wanted_none rfl) rfl (y_fieldAddr rfl Tryd.underlying65 rfl sz23 rfl) ?_
                          refine L1 (wanted_none rfl) rfl hs331 (y_load 0 rfl Tryd.underlying23 rfl rfl rfl rfl) ?_
                          refine L0 (wanted_none rfl) rfl (y_fieldAddr rfl Tryd.underlying65 rfl sz63 rfl) ?_
                          refine L1 (wanted_none rfl) rfl hs331 (y_load 0 rfl Tryd.underlying63 rfl rfl rfl rfl) ?_
                          refine Lc (wanted_none rfl) (c_call rfl rfl rfl Tryd.func43 (by kernel_rfl) rfl (rcrash_ok (hBH.drewn (X' := [(b19, .cells ⟨opCells o (vk i) (vl i)⟩ 65 (0, 0)), (b2, .cells ⟨icells vs si⟩ 59 (0, 0))]) hs331).refs hDi (by omega) o.keeps o.slots (vk i) (vl i) (by omega) (by omega) (fun w2 L2 h2 hf2 => keepH hKe h2 (freshA (fr2 hbb19 hbb2) hBH.freshO) hf2) (fun w2 L2 h2 hf2 => keepH hLa h2 (freshA (fr2 hbb19 hbb2) hBH.freshO) hf2) hKe.one hLa.one) rfl ?_)
                          rintro vq w332 ⟨uz2, rz2, rfl, hO1⟩
                          have hBB := (hBH.drewn (X' := [(b19, .cells ⟨opCells o (vk i) (vl i)⟩ 65 (0, 0)), (b2, .cells ⟨icells vs si⟩ 59 (0, 0))]) hs331).toRefs hO1
                          have hII := hII.cra o.keeps o.slots
                          have hs334 := hBB.st
                          refine Lnil ?_
                          refine W_seq ?_
                          refine W_seq ?_
                          obtain ⟨D1, m1, hB1, hI1⟩ : ∃ D1 m1, Both w [(b19, .cells ⟨opCells o (vk i) (vl i)⟩ 65 (0, 0)), (b2, .cells ⟨icells vs si⟩ 59 (0, 0))] b c D1 D1 m1 w332 ∧ DInv D1 (i + 1) := ⟨_, _, hBB.drewn (X' := [(b19, .cells ⟨opCells o (vk i) (vl i)⟩ 65 (0, 0)), (b2, .cells ⟨icells vs si⟩ 59 (0, 0))]) hs334, hII⟩
                          have hs334 := hB1.st
                          refine W_region ?_
                          refine L0 (wanted_none rfl) rfl (y_move (v := Value.pointer _) rfl rfl) ?_
                          refine Lc (wanted_none rfl) (c_call rfl rfl rfl Tryd.func47 (by kernel_rfl) rfl (image_ok hB1.ours hI1.z) rfl ?_)
                          rintro vq w335 ⟨vs1, im1, rfl, hO1, hR1, hF1⟩
                          have hs337 := hO1.st.re (L' := im1 ++ ((b19, .cells ⟨opCells o (vk i) (vl i)⟩ 65 (0, 0)) :: (b2, .cells ⟨icells vs si⟩ 59 (0, 0)) :: (oursB b D1 m1 ++ refsB c D1 m1))) (fun a => by simp only [List.cons_append, List.nil_append, ct_append, ct_cons, ct_nil]; omega)
                          refine L0 (wanted_none rfl) rfl (y_move (v := Value.pointer _) rfl rfl) ?_
                          refine Lc (wanted_none rfl) (c_call rfl rfl rfl Tryd.func48 (by kernel_rfl) rfl (rimage_ok (hB1.drewn (X' := im1 ++ [(b19, .cells ⟨opCells o (vk i) (vl i)⟩ 65 (0, 0)), (b2, .cells ⟨icells vs si⟩ 59 (0, 0))]) (hs337.re (fun a => by simp only [List.cons_append, List.nil_append, ct_append, ct_cons, ct_nil]; omega))).refs hI1.z) rfl ?_)
                          rintro vq w338 ⟨vs2, im2, rfl, hO2, hR2, hF2⟩
                          have hs340 := hO2.st.re (L' := im2 ++ (im1 ++ ((b19, .cells ⟨opCells o (vk i) (vl i)⟩ 65 (0, 0)) :: (b2, .cells ⟨icells vs si⟩ 59 (0, 0)) :: (oursB b D1 m1 ++ refsB c D1 m1)))) (fun a => by simp only [List.cons_append, List.nil_append, ct_append, ct_cons, ct_nil]; omega)
                          refine Lc (wanted_none rfl) (c_call rfl rfl rfl Tryd.func46 (by kernel_rfl) rfl (sameImage_any vs1 vs2 D1.slot (imZ D1 8) w338 (fun j hj => by rw [imZ, if_pos hj, List.length_take]; have := (hI1.z j hj).2; omega) (fun j hj => (hR1 j hj).sl hs340 (fun x hx => by simp [hx])) (fun j hj => (hR2 j hj).sl hs340 (fun x hx => by simp [hx]))) rfl ?_)
                          rintro vq w341 ⟨rfl, hc342⟩
                          have hs343 := ((hs340.call0 hc342).dropL hF2).dropL hF1
                          refine L0 (wanted_none rfl) rfl (y_not rfl rfl) ?_
                          refine Lnil ?_
                          refine Wkn (t := 160) (b0 := false) rfl (by rfl) (fun h344 => ?_)
                          refine W_condF rfl h344 ?_
                          refine W_skip ?_
                          refine W_seq ?_
                          refine W_region ?_
                          refine L0 (wanted_none rfl) rfl (y_fieldAddr rfl Tryd.underlying65 rfl sz3 rfl) ?_
                          refine L1 (wanted_none rfl) rfl hs343 (y_load 0 rfl Tryd.underlying3 rfl rfl rfl rfl) ?_
                          refine Lc (wanted_none rfl) (c_buildSlice (cells := [iv o.at_, iv 0, iv 7, iv 8, iv (-1)]) hs343 rfl rfl Tryd.underlying23 sz3 zr3 (by decide) (by kernel_rfl) (fun b345 w346 hbb345 hs347 => ?_))
                          refine L0 (wanted_none rfl) rfl (y_slen rfl Tryd.underlying23 rfl) ?_
                          refine L0 (wanted_none rfl) rfl (y_move (v := Value.int _ _) rfl rfl) ?_
                          refine Lnil ?_
                          refine W_block ?_
                          refine W_loop (G := Nat) (fun q aL wl => ∃ e, aL = A 237 ((165, iv q) :: (164, iv 5) :: (163, .slice (some ⟨b345, 0, none⟩) 5 5) :: (7, iv i) :: (0, v0) :: (3, pv b2 0) :: (5, pv c 0) :: (6, pv b 0) :: e) ∧ q ≤ 5 ∧ Both w ((b345, .cells ⟨[iv o.at_, iv 0, iv 7, iv 8, iv (-1)]⟩ 3 (0, 0)) :: [(b19, .cells ⟨opCells o (vk i) (vl i)⟩ 65 (0, 0)), (b2, .cells ⟨icells vs si⟩ 59 (0, 0))]) b c D1 D1 m1 wl) (fun q => 5 - q) (0) ?_ ?_
                          · exact ⟨_, A_pins _ _ [165, 164, 163, 7, 0, 3, 5, 6], Nat.zero_le _, hB1.drewn hs347⟩
                          rintro q _ w348 ⟨ehs349, rfl, hq, hBq⟩
                          have hs349 := hBq.st
                          refine W_seq ?_
                          refine W_region ?_
                          refine L0 (wanted_none rfl) rfl (y_lt rfl rfl rfl) ?_
                          refine Lnil ?_
                          refine W_seq ?_
                          refine Wsp (t := 166) rfl (fun h350 => ?_) (fun h350 => ?_)
                          · have h350' := h350
                            first | replace h350' := of_decide_eq_true h350' | replace h350' := bnT' h350' | skip
                            refine W_condT rfl h350 ?_
                            refine W_skip ?_
                            refine W_seq ?_
                            refine W_block ?_
                            refine W_seq ?_
                            have hat := atN_le hI1 (atq o.at_ q)
                            refine W_region ?_
                            refine L0 (wanted_none rfl) rfl (y_indexSl rfl Tryd.underlying23 sz3 rfl rfl (by omega) (by omega)) ?_
                            refine L1 (wanted_none rfl) rfl hs349 (y_load 0 rfl Tryd.underlying3 rfl rfl rfl (at5 _ (by omega))) ?_
                            refine L0 (wanted_none rfl) rfl (y_assign (v := Value.int _ _) rfl rfl) ?_
                            refine Lnil ?_
                            refine W_seq ?_
                            refine W_region ?_
                            refine L0 (wanted_none rfl) rfl (y_move (v := Value.pointer _) rfl rfl) ?_
                            refine L0 (wanted_none rfl) rfl (y_move (v := Value.int _ _) rfl rfl) ?_
                            refine Lc (wanted_none rfl) (c_call rfl rfl rfl Tryd.func49 (by kernel_rfl) rfl (have_all (hBq.drewn hs349).refs (atq o.at_ q)) rfl ?_)
                            rintro vq w351 ⟨rfl, hc352⟩
                            have hs353 := hs349.call0 hc352
                            refine L0 (wanted_none rfl) rfl (y_move (v := Value.tuple ⟨_⟩) rfl rfl) ?_
                            refine L0 (wanted_none rfl) rfl (y_extract rfl rfl rfl) ?_
                            refine L0 (wanted_none rfl) rfl (y_extract rfl rfl rfl) ?_
                            refine L0 (wanted_none rfl) rfl (y_assign (v := Value.int _ _) rfl rfl) ?_
                            refine L0 (wanted_none rfl) rfl (y_assign (v := Value.int _ _) rfl rfl) ?_
                            refine Lnil ?_
                            refine W_seq ?_
                            refine W_region ?_
                            refine L0 (wanted_none rfl) rfl (y_move (v := Value.pointer _) rfl rfl) ?_
                            refine L0 (wanted_none rfl) rfl (y_move (v := Value.int _ _) rfl rfl) ?_
                            refine Lc (wanted_none rfl) (c_call rfl rfl rfl Tryd.func18 (by kernel_rfl) rfl (at_all (hBq.drewn hs353).ours (atq o.at_ q)) rfl ?_)
                            rintro vq w354 ⟨⟨e1, rfl, hbe1⟩, hc355⟩
                            have hs356 := hs353.call0 hc355
                            refine L0 (wanted_none rfl) rfl (y_move (v := Value.tuple ⟨_⟩) rfl rfl) ?_
                            refine L0 (wanted_none rfl) rfl (y_extract rfl rfl rfl) ?_
                            refine L0 (wanted_none rfl) rfl (y_extract rfl rfl rfl) ?_
                            refine L0 (wanted_none rfl) rfl (y_assign (v := Value.int _ _) rfl rfl) ?_
                            refine L0 (wanted_none rfl) rfl (y_assign (v := _) rfl rfl) ?_
                            refine Lnil ?_
                            refine W_seq ?_
                            refine W_seq ?_
                            refine W_region ?_
                            refine L0 (wanted_none rfl) rfl (y_move (v := _) rfl rfl) ?_
                            refine L0 (wanted_none rfl) rfl (y_move (v := Value.int _ _) rfl rfl) ?_
                            refine Lc (wanted_none rfl) (c_call rfl rfl rfl Tryd.func29 (by kernel_rfl) rfl (bare_of hbe1 w354 (hEr hs356 (hBq.freshX (fr3 hbb345 hbb19 hbb2)))) rfl ?_)
                            rintro vb w357 ⟨rfl, hc358⟩
                            have hs359 := hs356.call0 hc358
                            refine L0 (wanted_none rfl) rfl (y_not rfl rfl) ?_
                            refine L0 (wanted_none rfl) rfl (y_move (v := Value.bool _) rfl rfl) ?_
                            refine Lkn (t := 185) (b0 := false) rfl (by rfl) (fun h360 => ?_)
                            refine L0 (wanted_yesB rfl rfl rfl h360) rfl (y_move (v := Value.int _ _) rfl rfl) ?_
                            refine L0 (wanted_yesB rfl rfl rfl h360) rfl (y_move (v := Value.int _ _) rfl rfl) ?_
                            refine L0 (wanted_yesB rfl rfl rfl h360) rfl (y_ne rfl rfl rfl) ?_
                            refine L0 (wanted_none rfl) rfl (y_pickF rfl rfl h360 rfl) ?_
                            refine Lnil ?_
                            refine Wkn (t := 189) (b0 := false) rfl (by exact bnF rfl) (fun h361 => ?_)
                            refine W_condF rfl h361 ?_
                            refine W_skip ?_
                            refine W_seq ?_
                            refine W_region ?_
                            refine L0 (wanted_none rfl) rfl (y_move (v := Value.pointer _) rfl rfl) ?_
                            refine L0 (wanted_none rfl) rfl (y_move (v := Value.int _ _) rfl rfl) ?_
                            refine L0 (wanted_none rfl) rfl (y_move (v := Value.int _ _) rfl rfl) ?_
                            refine L0 (wanted_none rfl) rfl (y_sub64 rfl rfl rfl (by omega)) ?_
                            refine Lc (wanted_none rfl) (c_call rfl rfl rfl Tryd.func50 (by kernel_rfl) rfl (rread_all (hBq.drewn hs359).refs hI1 (atq o.at_ q) _) rfl ?_)
                            rintro vq w362 ⟨rfl, hc363⟩
                            have hs364 := hs359.call0 hc363
                            refine L0 (wanted_none rfl) rfl (y_move (v := Value.tuple ⟨_⟩) rfl rfl) ?_
                            refine L0 (wanted_none rfl) rfl (y_extract rfl rfl rfl) ?_
                            refine L0 (wanted_none rfl) rfl (y_extract rfl rfl rfl) ?_
                            refine L0 (wanted_none rfl) rfl (y_assign (v := Value.string ⟨⟨_⟩⟩) rfl rfl) ?_
                            refine L0 (wanted_none rfl) rfl (y_assign (v := Value.int _ _) rfl rfl) ?_
                            refine Lnil ?_
                            refine W_seq ?_
                            refine W_region ?_
                            refine L0 (wanted_none rfl) rfl (y_move (v := Value.pointer _) rfl rfl) ?_
                            refine L0 (wanted_none rfl) rfl (y_move (v := Value.int _ _) rfl rfl) ?_
                            refine L0 (wanted_none rfl) rfl (y_move (v := Value.int _ _) rfl rfl) ?_
                            refine L0 (wanted_none rfl) rfl (y_sub64 rfl rfl rfl (by omega)) ?_
                            refine Lc (wanted_none rfl) (c_call rfl rfl rfl Tryd.func19 (by kernel_rfl) rfl (read_all (hBq.drewn hs364).ours (atq o.at_ q) _) rfl ?_)
                            rintro vq w365 ⟨⟨e2, rfl, hbe2⟩, hc366⟩
                            have hs367 := hs364.call0 hc366
                            refine L0 (wanted_none rfl) rfl (y_move (v := Value.tuple ⟨_⟩) rfl rfl) ?_
                            refine L0 (wanted_none rfl) rfl (y_extract rfl rfl rfl) ?_
                            refine L0 (wanted_none rfl) rfl (y_extract rfl rfl rfl) ?_
                            refine L0 (wanted_none rfl) rfl (y_assign (v := Value.string ⟨⟨_⟩⟩) rfl rfl) ?_
                            refine L0 (wanted_none rfl) rfl (y_assign (v := _) rfl rfl) ?_
                            refine Lnil ?_
                            refine W_seq ?_
                            refine W_seq ?_
                            refine W_region ?_
                            refine L0 (wanted_none rfl) rfl (y_move (v := _) rfl rfl) ?_
                            refine L0 (wanted_none rfl) rfl (y_move (v := Value.int _ _) rfl rfl) ?_
                            refine Lc (wanted_none rfl) (c_call rfl rfl rfl Tryd.func29 (by kernel_rfl) rfl (bare_of hbe2 w365 (hEr hs367 (hBq.freshX (fr3 hbb345 hbb19 hbb2)))) rfl ?_)
                            rintro vb w368 ⟨rfl, hc369⟩
                            have hs370 := hs367.call0 hc369
                            refine L0 (wanted_none rfl) rfl (y_not rfl rfl) ?_
                            refine L0 (wanted_none rfl) rfl (y_move (v := Value.bool _) rfl rfl) ?_
                            refine Lkn (t := 210) (b0 := false) rfl (by rfl) (fun h371 => ?_)
                            refine L0 (wanted_yesB rfl rfl rfl h371) rfl (y_move (v := Value.string ⟨⟨_⟩⟩) rfl rfl) ?_
                            refine L0 (wanted_yesB rfl rfl rfl h371) rfl (y_move (v := Value.string ⟨⟨_⟩⟩) rfl rfl) ?_
                            refine L0 (wanted_yesB rfl rfl rfl h371) rfl (y_sne rfl rfl rfl) ?_
                            refine L0 (wanted_none rfl) rfl (y_pickF rfl rfl h371 rfl) ?_
                            refine Lnil ?_
                            refine Wkn (t := 214) (b0 := false) rfl (by exact bnF rfl) (fun h372 => ?_)
                            refine W_condF rfl h372 ?_
                            refine W_skip ?_
                            refine W_seq ?_
                            refine W_region ?_
                            refine L0 (wanted_none rfl) rfl (y_move (v := Value.pointer _) rfl rfl) ?_
                            refine L0 (wanted_none rfl) rfl (y_move (v := Value.int _ _) rfl rfl) ?_
                            refine Lc (wanted_none rfl) (c_call rfl rfl rfl Tryd.func51 (by kernel_rfl) rfl (rget_all (hBq.drewn hs370).refs hI1 (by omega) (atq o.at_ q)) rfl ?_)
                            rintro vq w373 ⟨rfl, hc374⟩
                            have hs375 := hs370.call0 hc374
                            refine L0 (wanted_none rfl) rfl (y_move (v := Value.tuple ⟨_⟩) rfl rfl) ?_
                            refine L0 (wanted_none rfl) rfl (y_extract rfl rfl rfl) ?_
                            refine L0 (wanted_none rfl) rfl (y_extract rfl rfl rfl) ?_
                            refine L0 (wanted_none rfl) rfl (y_assign (v := Value.string ⟨⟨_⟩⟩) rfl rfl) ?_
                            refine L0 (wanted_none rfl) rfl (y_assign (v := Value.int _ _) rfl rfl) ?_
                            refine Lnil ?_
                            refine W_seq ?_
                            refine W_region ?_
                            refine L0 (wanted_none rfl) rfl (y_move (v := Value.pointer _) rfl rfl) ?_
                            refine L0 (wanted_none rfl) rfl (y_move (v := Value.int _ _) rfl rfl) ?_
                            refine Lc (wanted_none rfl) (c_call rfl rfl rfl Tryd.func52 (by kernel_rfl) rfl (get_all (hBq.drewn hs375).ours hI1 (by omega) (atq o.at_ q)) rfl ?_)
                            rintro vq w376 ⟨⟨e3, rfl, hbe3⟩, hc377⟩
                            have hs378 := hs375.call0 hc377
                            refine L0 (wanted_none rfl) rfl (y_move (v := Value.tuple ⟨_⟩) rfl rfl) ?_
                            refine L0 (wanted_none rfl) rfl (y_extract rfl rfl rfl) ?_
                            refine L0 (wanted_none rfl) rfl (y_extract rfl rfl rfl) ?_
                            refine L0 (wanted_none rfl) rfl (y_assign (v := Value.string ⟨⟨_⟩⟩) rfl rfl) ?_
                            refine L0 (wanted_none rfl) rfl (y_assign (v := _) rfl rfl) ?_
                            refine Lnil ?_
                            refine W_seq ?_
                            refine W_region ?_
                            refine L0 (wanted_none rfl) rfl (y_move (v := _) rfl rfl) ?_
                            refine L0 (wanted_none rfl) rfl (y_move (v := Value.int _ _) rfl rfl) ?_
                            refine Lc (wanted_none rfl) (c_call rfl rfl rfl Tryd.func29 (by kernel_rfl) rfl (bare_of hbe3 w376 (hEr hs378 (hBq.freshX (fr3 hbb345 hbb19 hbb2)))) rfl ?_)
                            rintro vb w379 ⟨rfl, hc380⟩
                            have hs381 := hs378.call0 hc380
                            refine L0 (wanted_none rfl) rfl (y_not rfl rfl) ?_
                            refine L0 (wanted_none rfl) rfl (y_move (v := Value.bool _) rfl rfl) ?_
                            refine Lkn (t := 231) (b0 := false) rfl (by rfl) (fun h382 => ?_)
                            refine L0 (wanted_yesB rfl rfl rfl h382) rfl (y_move (v := Value.string ⟨⟨_⟩⟩) rfl rfl) ?_
                            refine L0 (wanted_yesB rfl rfl rfl h382) rfl (y_move (v := Value.string ⟨⟨_⟩⟩) rfl rfl) ?_
                            refine L0 (wanted_yesB rfl rfl rfl h382) rfl (y_sne rfl rfl rfl) ?_
                            refine L0 (wanted_none rfl) rfl (y_pickF rfl rfl h382 rfl) ?_
                            refine Lnil ?_
                            refine Wkn (t := 235) (b0 := false) rfl (by exact bnF rfl) (fun h383 => ?_)
                            refine W_condF rfl h383 ?_
                            refine W_skip ?_
                            refine W_region ?_
                            refine L0 (wanted_none rfl) rfl (y_add64 rfl rfl rfl (by omega)) ?_
                            refine L0 (wanted_none rfl) rfl (y_move (v := Value.int _ _) rfl rfl) ?_
                            refine Lnil ?_
                            exact ⟨q + 1, by first | omega | (dsimp only; done) | (dsimp only; omega), _, A_c (iv_eq (by first | omega | (dsimp only; done) | (dsimp only; omega))) (A_c rfl (A_c rfl (A_c rfl (A_c rfl (A_c rfl (A_c rfl (A_c rfl (rfl)))))))), by omega, hBq.drewn hs381⟩
                          · have h350' := h350
                            first | replace h350' := of_decide_eq_false h350' | replace h350' := bnF' h350' | skip
                            refine W_condF rfl h350 ?_
                            refine W_exit ?_
                            refine W_region ?_
                            refine L0 (wanted_none rfl) rfl (y_move (v := Value.int _ _) rfl rfl) ?_
                            refine L0 (wanted_none rfl) rfl (y_add64 rfl rfl rfl (by omega)) ?_
                            refine L0 (wanted_none rfl) rfl (y_assign (v := Value.int _ _) rfl rfl) ?_
                            refine Lnil ?_
                            exact ⟨(i + 1, D1, m1), by first | omega | (dsimp only; done) | (dsimp only; omega), _, A_c (iv_eq (by first | omega | (dsimp only; done) | (dsimp only; omega))) (A_c rfl (A_c rfl (A_c rfl (A_c rfl (rfl))))), by first | omega | (dsimp only; done) | (dsimp only; omega), hI1, hB1.drewn (X' := [(b2, .cells ⟨icells vs si⟩ 59 (0, 0))]) ((hs349.drop (.inl hbb345)).drop (.inl hbb19))⟩
                        · have h328' := h328
                          first | replace h328' := of_decide_eq_false h328' | replace h328' := bnF' h328' | skip
                          refine W_condF rfl h328 ?_
                          refine W_seq ?_
                          refine W_region ?_
                          refine L0 (wanted_none rfl) rfl (y_eq rfl rfl rfl) ?_
                          refine L0 (wanted_none rfl) rfl (y_assign (v := Value.bool _) rfl rfl) ?_
                          refine Lnil ?_
                          refine Wsp (t := 147) rfl (fun h384 => ?_) (fun h384 => ?_)
                          · have h384' := h384
                            first | replace h384' := of_decide_eq_true h384' | replace h384' := bnT' h384' | skip
                            refine W_condT rfl h384 ?_
                            refine W_seq ?_
                            refine W_region ?_
                            refine L0 (wanted_none rfl) rfl (y_move (v := Value.pointer _) rfl rfl) ?_
                            refine L1 (wanted_none rfl) rfl hs23 ((y_loadN 1 rfl Tryd.underlying59 rfl sz59 rfl rfl (by show 0 + 10 ≤ 10; omega))) ?_
                            refine Lc (wanted_none rfl) (c_call rfl rfl rfl Tryd.func44 (by kernel_rfl) rfl (lay_in (hBB.drewn (X' := [(b19, .cells ⟨opCells o (vk i) (vl i)⟩ 65 (0, 0)), (b2, .cells ⟨icells vs si⟩ 59 (0, 0))]) hs23).ours.st hBB.newb hBB.rw.new hBB.newr vs zi si (fun j hj w2 L2 h2 hf2 => (hIm j hj).keepK h2 (freshA (fr2 hbb19 hbb2) hBB.freshR) hf2) hzl hsl) rfl ?_)
                            rintro vq w385 ⟨uz, rz, rfl, hR⟩
                            have hBH := (hBB.drewn (X' := [(b19, .cells ⟨opCells o (vk i) (vl i)⟩ 65 (0, 0)), (b2, .cells ⟨icells vs si⟩ 59 (0, 0))]) hs23).toOurs (D' := layD _ zi si) hR
                            have hs387 := hBH.st
                            refine Lnil ?_
                            refine W_region ?_
                            refine L0 (wanted_none rfl) rfl (y_move (v := Value.pointer _) rfl rfl) ?_
                            refine L1 (wanted_none rfl) rfl hs387 ((y_loadN 1 rfl Tryd.underlying59 rfl sz59 rfl rfl (by show 0 + 10 ≤ 10; omega))) ?_
                            refine Lc (wanted_none rfl) (c_call rfl rfl rfl Tryd.func45 (by kernel_rfl) rfl (rlay_in (hBH.drewn (X' := [(b19, .cells ⟨opCells o (vk i) (vl i)⟩ 65 (0, 0)), (b2, .cells ⟨icells vs si⟩ 59 (0, 0))]) hs387).refs.st hBH.newc (freshA hBH.sA.new (freshA hBH.sW.new hBH.newz)) vs zi si (fun j hj w2 L2 h2 hf2 => (hIm j hj).keepK h2 (freshA (fr2 hbb19 hbb2) hBH.freshO) hf2) hzl2 hsl2) rfl ?_)
                            rintro vq w388 ⟨uz2, rz2, rfl, hO1⟩
                            have hBB := (hBH.drewn (X' := [(b19, .cells ⟨opCells o (vk i) (vl i)⟩ 65 (0, 0)), (b2, .cells ⟨icells vs si⟩ 59 (0, 0))]) hs387).toRefs hO1
                            have hII := hII.lay zi si
                            have hs390 := hBB.st
                            refine Lnil ?_
                            refine W_seq ?_
                            refine W_seq ?_
                            obtain ⟨D1, m1, hB1, hI1⟩ : ∃ D1 m1, Both w [(b19, .cells ⟨opCells o (vk i) (vl i)⟩ 65 (0, 0)), (b2, .cells ⟨icells vs si⟩ 59 (0, 0))] b c D1 D1 m1 w388 ∧ DInv D1 (i + 1) := ⟨_, _, hBB.drewn (X' := [(b19, .cells ⟨opCells o (vk i) (vl i)⟩ 65 (0, 0)), (b2, .cells ⟨icells vs si⟩ 59 (0, 0))]) hs390, hII⟩
                            have hs390 := hB1.st
                            refine W_region ?_
                            refine L0 (wanted_none rfl) rfl (y_move (v := Value.pointer _) rfl rfl) ?_
                            refine Lc (wanted_none rfl) (c_call rfl rfl rfl Tryd.func47 (by kernel_rfl) rfl (image_ok hB1.ours hI1.z) rfl ?_)
                            rintro vq w391 ⟨vs1, im1, rfl, hO1, hR1, hF1⟩
                            have hs393 := hO1.st.re (L' := im1 ++ ((b19, .cells ⟨opCells o (vk i) (vl i)⟩ 65 (0, 0)) :: (b2, .cells ⟨icells vs si⟩ 59 (0, 0)) :: (oursB b D1 m1 ++ refsB c D1 m1))) (fun a => by simp only [List.cons_append, List.nil_append, ct_append, ct_cons, ct_nil]; omega)
                            refine L0 (wanted_none rfl) rfl (y_move (v := Value.pointer _) rfl rfl) ?_
                            refine Lc (wanted_none rfl) (c_call rfl rfl rfl Tryd.func48 (by kernel_rfl) rfl (rimage_ok (hB1.drewn (X' := im1 ++ [(b19, .cells ⟨opCells o (vk i) (vl i)⟩ 65 (0, 0)), (b2, .cells ⟨icells vs si⟩ 59 (0, 0))]) (hs393.re (fun a => by simp only [List.cons_append, List.nil_append, ct_append, ct_cons, ct_nil]; omega))).refs hI1.z) rfl ?_)
                            rintro vq w394 ⟨vs2, im2, rfl, hO2, hR2, hF2⟩
                            have hs396 := hO2.st.re (L' := im2 ++ (im1 ++ ((b19, .cells ⟨opCells o (vk i) (vl i)⟩ 65 (0, 0)) :: (b2, .cells ⟨icells vs si⟩ 59 (0, 0)) :: (oursB b D1 m1 ++ refsB c D1 m1)))) (fun a => by simp only [List.cons_append, List.nil_append, ct_append, ct_cons, ct_nil]; omega)
                            refine Lc (wanted_none rfl) (c_call rfl rfl rfl Tryd.func46 (by kernel_rfl) rfl (sameImage_any vs1 vs2 D1.slot (imZ D1 8) w394 (fun j hj => by rw [imZ, if_pos hj, List.length_take]; have := (hI1.z j hj).2; omega) (fun j hj => (hR1 j hj).sl hs396 (fun x hx => by simp [hx])) (fun j hj => (hR2 j hj).sl hs396 (fun x hx => by simp [hx]))) rfl ?_)
                            rintro vq w397 ⟨rfl, hc398⟩
                            have hs399 := ((hs396.call0 hc398).dropL hF2).dropL hF1
                            refine L0 (wanted_none rfl) rfl (y_not rfl rfl) ?_
                            refine Lnil ?_
                            refine Wkn (t := 160) (b0 := false) rfl (by rfl) (fun h400 => ?_)
                            refine W_condF rfl h400 ?_
                            refine W_skip ?_
                            refine W_seq ?_
                            refine W_region ?_
                            refine L0 (wanted_none rfl) rfl (y_fieldAddr rfl Tryd.underlying65 rfl sz3 rfl) ?_
                            refine L1 (wanted_none rfl) rfl hs399 (y_load 0 rfl Tryd.underlying3 rfl rfl rfl rfl) ?_
                            refine Lc (wanted_none rfl) (c_buildSlice (cells := [iv o.at_, iv 0, iv 7, iv 8, iv (-1)]) hs399 rfl rfl Tryd.underlying23 sz3 zr3 (by decide) (by kernel_rfl) (fun b401 w402 hbb401 hs403 => ?_))
                            refine L0 (wanted_none rfl) rfl (y_slen rfl Tryd.underlying23 rfl) ?_
                            refine L0 (wanted_none rfl) rfl (y_move (v := Value.int _ _) rfl rfl) ?_
                            refine Lnil ?_
                            refine W_block ?_
                            refine W_loop (G := Nat) (fun q aL wl => ∃ e, aL = A 237 ((165, iv q) :: (164, iv 5) :: (163, .slice (some ⟨b401, 0, none⟩) 5 5) :: (7, iv i) :: (0, v0) :: (3, pv b2 0) :: (5, pv c 0) :: (6, pv b 0) :: e) ∧ q ≤ 5 ∧ Both w ((b401, .cells ⟨[iv o.at_, iv 0, iv 7, iv 8, iv (-1)]⟩ 3 (0, 0)) :: [(b19, .cells ⟨opCells o (vk i) (vl i)⟩ 65 (0, 0)), (b2, .cells ⟨icells vs si⟩ 59 (0, 0))]) b c D1 D1 m1 wl) (fun q => 5 - q) (0) ?_ ?_
                            · exact ⟨_, A_pins _ _ [165, 164, 163, 7, 0, 3, 5, 6], Nat.zero_le _, hB1.drewn hs403⟩
                            rintro q _ w404 ⟨ehs405, rfl, hq, hBq⟩
                            have hs405 := hBq.st
                            refine W_seq ?_
                            refine W_region ?_
                            refine L0 (wanted_none rfl) rfl (y_lt rfl rfl rfl) ?_
                            refine Lnil ?_
                            refine W_seq ?_
                            refine Wsp (t := 166) rfl (fun h406 => ?_) (fun h406 => ?_)
                            · have h406' := h406
                              first | replace h406' := of_decide_eq_true h406' | replace h406' := bnT' h406' | skip
                              refine W_condT rfl h406 ?_
                              refine W_skip ?_
                              refine W_seq ?_
                              refine W_block ?_
                              refine W_seq ?_
                              have hat := atN_le hI1 (atq o.at_ q)
                              refine W_region ?_
                              refine L0 (wanted_none rfl) rfl (y_indexSl rfl Tryd.underlying23 sz3 rfl rfl (by omega) (by omega)) ?_
                              refine L1 (wanted_none rfl) rfl hs405 (y_load 0 rfl Tryd.underlying3 rfl rfl rfl (at5 _ (by omega))) ?_
                              refine L0 (wanted_none rfl) rfl (y_assign (v := Value.int _ _) rfl rfl) ?_
                              refine Lnil ?_
                              refine W_seq ?_
                              refine W_region ?_
                              refine L0 (wanted_none rfl) rfl (y_move (v := Value.pointer _) rfl rfl) ?_
                              refine L0 (wanted_none rfl) rfl (y_move (v := Value.int _ _) rfl rfl) ?_
                              refine Lc (wanted_none rfl) (c_call rfl rfl rfl Tryd.func49 (by kernel_rfl) rfl (have_all (hBq.drewn hs405).refs (atq o.at_ q)) rfl ?_)
                              rintro vq w407 ⟨rfl, hc408⟩
                              have hs409 := hs405.call0 hc408
                              refine L0 (wanted_none rfl) rfl (y_move (v := Value.tuple ⟨_⟩) rfl rfl) ?_
                              refine L0 (wanted_none rfl) rfl (y_extract rfl rfl rfl) ?_
                              refine L0 (wanted_none rfl) rfl (y_extract rfl rfl rfl) ?_
                              refine L0 (wanted_none rfl) rfl (y_assign (v := Value.int _ _) rfl rfl) ?_
                              refine L0 (wanted_none rfl) rfl (y_assign (v := Value.int _ _) rfl rfl) ?_
                              refine Lnil ?_
                              refine W_seq ?_
                              refine W_region ?_
                              refine L0 (wanted_none rfl) rfl (y_move (v := Value.pointer _) rfl rfl) ?_
                              refine L0 (wanted_none rfl) rfl (y_move (v := Value.int _ _) rfl rfl) ?_
                              refine Lc (wanted_none rfl) (c_call rfl rfl rfl Tryd.func18 (by kernel_rfl) rfl (at_all (hBq.drewn hs409).ours (atq o.at_ q)) rfl ?_)
                              rintro vq w410 ⟨⟨e1, rfl, hbe1⟩, hc411⟩
                              have hs412 := hs409.call0 hc411
                              refine L0 (wanted_none rfl) rfl (y_move (v := Value.tuple ⟨_⟩) rfl rfl) ?_
                              refine L0 (wanted_none rfl) rfl (y_extract rfl rfl rfl) ?_
                              refine L0 (wanted_none rfl) rfl (y_extract rfl rfl rfl) ?_
                              refine L0 (wanted_none rfl) rfl (y_assign (v := Value.int _ _) rfl rfl) ?_
                              refine L0 (wanted_none rfl) rfl (y_assign (v := _) rfl rfl) ?_
                              refine Lnil ?_
                              refine W_seq ?_
                              refine W_seq ?_
                              refine W_region ?_
                              refine L0 (wanted_none rfl) rfl (y_move (v := _) rfl rfl) ?_
                              refine L0 (wanted_none rfl) rfl (y_move (v := Value.int _ _) rfl rfl) ?_
                              refine Lc (wanted_none rfl) (c_call rfl rfl rfl Tryd.func29 (by kernel_rfl) rfl (bare_of hbe1 w410 (hEr hs412 (hBq.freshX (fr3 hbb401 hbb19 hbb2)))) rfl ?_)
                              rintro vb w413 ⟨rfl, hc414⟩
                              have hs415 := hs412.call0 hc414
                              refine L0 (wanted_none rfl) rfl (y_not rfl rfl) ?_
                              refine L0 (wanted_none rfl) rfl (y_move (v := Value.bool _) rfl rfl) ?_
                              refine Lkn (t := 185) (b0 := false) rfl (by rfl) (fun h416 => ?_)
                              refine L0 (wanted_yesB rfl rfl rfl h416) rfl (y_move (v := Value.int _ _) rfl rfl) ?_
                              refine L0 (wanted_yesB rfl rfl rfl h416) rfl (y_move (v := Value.int _ _) rfl rfl) ?_
                              refine L0 (wanted_yesB rfl rfl rfl h416) rfl (y_ne rfl rfl rfl) ?_
                              refine L0 (wanted_none rfl) rfl (y_pickF rfl rfl h416 rfl) ?_
                              refine Lnil ?_
                              refine Wkn (t := 189) (b0 := false) rfl (by exact bnF rfl) (fun h417 => ?_)
                              refine W_condF rfl h417 ?_
                              refine W_skip ?_
                              refine W_seq ?_
                              refine W_region ?_
                              refine L0 (wanted_none rfl) rfl (y_move (v := Value.pointer _) rfl rfl) ?_
                              refine L0 (wanted_none rfl) rfl (y_move (v := Value.int _ _) rfl rfl) ?_
                              refine L0 (wanted_none rfl) rfl (y_move (v := Value.int _ _) rfl rfl) ?_
                              refine L0 (wanted_none rfl) rfl (y_sub64 rfl rfl rfl (by omega)) ?_
                              refine Lc (wanted_none rfl) (c_call rfl rfl rfl Tryd.func50 (by kernel_rfl) rfl (rread_all (hBq.drewn hs415).refs hI1 (atq o.at_ q) _) rfl ?_)
                              rintro vq w418 ⟨rfl, hc419⟩
                              have hs420 := hs415.call0 hc419
                              refine L0 (wanted_none rfl) rfl (y_move (v := Value.tuple ⟨_⟩) rfl rfl) ?_
                              refine L0 (wanted_none rfl) rfl (y_extract rfl rfl rfl) ?_
                              refine L0 (wanted_none rfl) rfl (y_extract rfl rfl rfl) ?_
                              refine L0 (wanted_none rfl) rfl (y_assign (v := Value.string ⟨⟨_⟩⟩) rfl rfl) ?_
                              refine L0 (wanted_none rfl) rfl (y_assign (v := Value.int _ _) rfl rfl) ?_
                              refine Lnil ?_
                              refine W_seq ?_
                              refine W_region ?_
                              refine L0 (wanted_none rfl) rfl (y_move (v := Value.pointer _) rfl rfl) ?_
                              refine L0 (wanted_none rfl) rfl (y_move (v := Value.int _ _) rfl rfl) ?_
                              refine L0 (wanted_none rfl) rfl (y_move (v := Value.int _ _) rfl rfl) ?_
                              refine L0 (wanted_none rfl) rfl (y_sub64 rfl rfl rfl (by omega)) ?_
                              refine Lc (wanted_none rfl) (c_call rfl rfl rfl Tryd.func19 (by kernel_rfl) rfl (read_all (hBq.drewn hs420).ours (atq o.at_ q) _) rfl ?_)
                              rintro vq w421 ⟨⟨e2, rfl, hbe2⟩, hc422⟩
                              have hs423 := hs420.call0 hc422
                              refine L0 (wanted_none rfl) rfl (y_move (v := Value.tuple ⟨_⟩) rfl rfl) ?_
                              refine L0 (wanted_none rfl) rfl (y_extract rfl rfl rfl) ?_
                              refine L0 (wanted_none rfl) rfl (y_extract rfl rfl rfl) ?_
                              refine L0 (wanted_none rfl) rfl (y_assign (v := Value.string ⟨⟨_⟩⟩) rfl rfl) ?_
                              refine L0 (wanted_none rfl) rfl (y_assign (v := _) rfl rfl) ?_
                              refine Lnil ?_
                              refine W_seq ?_
                              refine W_seq ?_
                              refine W_region ?_
                              refine L0 (wanted_none rfl) rfl (y_move (v := _) rfl rfl) ?_
                              refine L0 (wanted_none rfl) rfl (y_move (v := Value.int _ _) rfl rfl) ?_
                              refine Lc (wanted_none rfl) (c_call rfl rfl rfl Tryd.func29 (by kernel_rfl) rfl (bare_of hbe2 w421 (hEr hs423 (hBq.freshX (fr3 hbb401 hbb19 hbb2)))) rfl ?_)
                              rintro vb w424 ⟨rfl, hc425⟩
                              have hs426 := hs423.call0 hc425
                              refine L0 (wanted_none rfl) rfl (y_not rfl rfl) ?_
                              refine L0 (wanted_none rfl) rfl (y_move (v := Value.bool _) rfl rfl) ?_
                              refine Lkn (t := 210) (b0 := false) rfl (by rfl) (fun h427 => ?_)
                              refine L0 (wanted_yesB rfl rfl rfl h427) rfl (y_move (v := Value.string ⟨⟨_⟩⟩) rfl rfl) ?_
                              refine L0 (wanted_yesB rfl rfl rfl h427) rfl (y_move (v := Value.string ⟨⟨_⟩⟩) rfl rfl) ?_
                              refine L0 (wanted_yesB rfl rfl rfl h427) rfl (y_sne rfl rfl rfl) ?_
                              refine L0 (wanted_none rfl) rfl (y_pickF rfl rfl h427 rfl) ?_
                              refine Lnil ?_
                              refine Wkn (t := 214) (b0 := false) rfl (by exact bnF rfl) (fun h428 => ?_)
                              refine W_condF rfl h428 ?_
                              refine W_skip ?_
                              refine W_seq ?_
                              refine W_region ?_
                              refine L0 (wanted_none rfl) rfl (y_move (v := Value.pointer _) rfl rfl) ?_
                              refine L0 (wanted_none rfl) rfl (y_move (v := Value.int _ _) rfl rfl) ?_
                              refine Lc (wanted_none rfl) (c_call rfl rfl rfl Tryd.func51 (by kernel_rfl) rfl (rget_all (hBq.drewn hs426).refs hI1 (by omega) (atq o.at_ q)) rfl ?_)
                              rintro vq w429 ⟨rfl, hc430⟩
                              have hs431 := hs426.call0 hc430
                              refine L0 (wanted_none rfl) rfl (y_move (v := Value.tuple ⟨_⟩) rfl rfl) ?_
                              refine L0 (wanted_none rfl) rfl (y_extract rfl rfl rfl) ?_
                              refine L0 (wanted_none rfl) rfl (y_extract rfl rfl rfl) ?_
                              refine L0 (wanted_none rfl) rfl (y_assign (v := Value.string ⟨⟨_⟩⟩) rfl rfl) ?_
                              refine L0 (wanted_none rfl) rfl (y_assign (v := Value.int _ _) rfl rfl) ?_
                              refine Lnil ?_
                              refine W_seq ?_
                              refine W_region ?_
                              refine L0 (wanted_none rfl) rfl (y_move (v := Value.pointer _) rfl rfl) ?_
                              refine L0 (wanted_none rfl) rfl (y_move (v := Value.int _ _) rfl rfl) ?_
                              refine Lc (wanted_none rfl) (c_call rfl rfl rfl Tryd.func52 (by kernel_rfl) rfl (get_all (hBq.drewn hs431).ours hI1 (by omega) (atq o.at_ q)) rfl ?_)
                              rintro vq w432 ⟨⟨e3, rfl, hbe3⟩, hc433⟩
                              have hs434 := hs431.call0 hc433
                              refine L0 (wanted_none rfl) rfl (y_move (v := Value.tuple ⟨_⟩) rfl rfl) ?_
                              refine L0 (wanted_none rfl) rfl (y_extract rfl rfl rfl) ?_
                              refine L0 (wanted_none rfl) rfl (y_extract rfl rfl rfl) ?_
                              refine L0 (wanted_none rfl) rfl (y_assign (v := Value.string ⟨⟨_⟩⟩) rfl rfl) ?_
                              refine L0 (wanted_none rfl) rfl (y_assign (v := _) rfl rfl) ?_
                              refine Lnil ?_
                              refine W_seq ?_
                              refine W_region ?_
                              refine L0 (wanted_none rfl) rfl (y_move (v := _) rfl rfl) ?_
                              refine L0 (wanted_none rfl) rfl (y_move (v := Value.int _ _) rfl rfl) ?_
                              refine Lc (wanted_none rfl) (c_call rfl rfl rfl Tryd.func29 (by kernel_rfl) rfl (bare_of hbe3 w432 (hEr hs434 (hBq.freshX (fr3 hbb401 hbb19 hbb2)))) rfl ?_)
                              rintro vb w435 ⟨rfl, hc436⟩
                              have hs437 := hs434.call0 hc436
                              refine L0 (wanted_none rfl) rfl (y_not rfl rfl) ?_
                              refine L0 (wanted_none rfl) rfl (y_move (v := Value.bool _) rfl rfl) ?_
                              refine Lkn (t := 231) (b0 := false) rfl (by rfl) (fun h438 => ?_)
                              refine L0 (wanted_yesB rfl rfl rfl h438) rfl (y_move (v := Value.string ⟨⟨_⟩⟩) rfl rfl) ?_
                              refine L0 (wanted_yesB rfl rfl rfl h438) rfl (y_move (v := Value.string ⟨⟨_⟩⟩) rfl rfl) ?_
                              refine L0 (wanted_yesB rfl rfl rfl h438) rfl (y_sne rfl rfl rfl) ?_
                              refine L0 (wanted_none rfl) rfl (y_pickF rfl rfl h438 rfl) ?_
                              refine Lnil ?_
                              refine Wkn (t := 235) (b0 := false) rfl (by exact bnF rfl) (fun h439 => ?_)
                              refine W_condF rfl h439 ?_
                              refine W_skip ?_
                              refine W_region ?_
                              refine L0 (wanted_none rfl) rfl (y_add64 rfl rfl rfl (by omega)) ?_
                              refine L0 (wanted_none rfl) rfl (y_move (v := Value.int _ _) rfl rfl) ?_
                              refine Lnil ?_
                              exact ⟨q + 1, by first | omega | (dsimp only; done) | (dsimp only; omega), _, A_c (iv_eq (by first | omega | (dsimp only; done) | (dsimp only; omega))) (A_c rfl (A_c rfl (A_c rfl (A_c rfl (A_c rfl (A_c rfl (A_c rfl (rfl)))))))), by omega, hBq.drewn hs437⟩
                            · have h406' := h406
                              first | replace h406' := of_decide_eq_false h406' | replace h406' := bnF' h406' | skip
                              refine W_condF rfl h406 ?_
                              refine W_exit ?_
                              refine W_region ?_
                              refine L0 (wanted_none rfl) rfl (y_move (v := Value.int _ _) rfl rfl) ?_
                              refine L0 (wanted_none rfl) rfl (y_add64 rfl rfl rfl (by omega)) ?_
                              refine L0 (wanted_none rfl) rfl (y_assign (v := Value.int _ _) rfl rfl) ?_
                              refine Lnil ?_
                              exact ⟨(i + 1, D1, m1), by first | omega | (dsimp only; done) | (dsimp only; omega), _, A_c (iv_eq (by first | omega | (dsimp only; done) | (dsimp only; omega))) (A_c rfl (A_c rfl (A_c rfl (A_c rfl (rfl))))), by first | omega | (dsimp only; done) | (dsimp only; omega), hI1, hB1.drewn (X' := [(b2, .cells ⟨icells vs si⟩ 59 (0, 0))]) ((hs405.drop (.inl hbb401)).drop (.inl hbb19))⟩
                          · have h384' := h384
                            first | replace h384' := of_decide_eq_false h384' | replace h384' := bnF' h384' | skip
                            refine W_condF rfl h384 ?_
                            refine W_skip ?_
                            refine W_seq ?_
                            refine W_seq ?_
                            obtain ⟨D1, m1, hB1, hI1⟩ : ∃ D1 m1, Both w [(b19, .cells ⟨opCells o (vk i) (vl i)⟩ 65 (0, 0)), (b2, .cells ⟨icells vs si⟩ 59 (0, 0))] b c D1 D1 m1 w22 ∧ DInv D1 (i + 1) := ⟨_, _, hBB.drewn (X' := [(b19, .cells ⟨opCells o (vk i) (vl i)⟩ 65 (0, 0)), (b2, .cells ⟨icells vs si⟩ 59 (0, 0))]) hs23, hII⟩
                            have hs23 := hB1.st
                            refine W_region ?_
                            refine L0 (wanted_none rfl) rfl (y_move (v := Value.pointer _) rfl rfl) ?_
                            refine Lc (wanted_none rfl) (c_call rfl rfl rfl Tryd.func47 (by kernel_rfl) rfl (image_ok hB1.ours hI1.z) rfl ?_)
                            rintro vq w440 ⟨vs1, im1, rfl, hO1, hR1, hF1⟩
                            have hs442 := hO1.st.re (L' := im1 ++ ((b19, .cells ⟨opCells o (vk i) (vl i)⟩ 65 (0, 0)) :: (b2, .cells ⟨icells vs si⟩ 59 (0, 0)) :: (oursB b D1 m1 ++ refsB c D1 m1))) (fun a => by simp only [List.cons_append, List.nil_append, ct_append, ct_cons, ct_nil]; omega)
                            refine L0 (wanted_none rfl) rfl (y_move (v := Value.pointer _) rfl rfl) ?_
                            refine Lc (wanted_none rfl) (c_call rfl rfl rfl Tryd.func48 (by kernel_rfl) rfl (rimage_ok (hB1.drewn (X' := im1 ++ [(b19, .cells ⟨opCells o (vk i) (vl i)⟩ 65 (0, 0)), (b2, .cells ⟨icells vs si⟩ 59 (0, 0))]) (hs442.re (fun a => by simp only [List.cons_append, List.nil_append, ct_append, ct_cons, ct_nil]; omega))).refs hI1.z) rfl ?_)
                            rintro vq w443 ⟨vs2, im2, rfl, hO2, hR2, hF2⟩
                            have hs445 := hO2.st.re (L' := im2 ++ (im1 ++ ((b19, .cells ⟨opCells o (vk i) (vl i)⟩ 65 (0, 0)) :: (b2, .cells ⟨icells vs si⟩ 59 (0, 0)) :: (oursB b D1 m1 ++ refsB c D1 m1)))) (fun a => by simp only [List.cons_append, List.nil_append, ct_append, ct_cons, ct_nil]; omega)
                            refine Lc (wanted_none rfl) (c_call rfl rfl rfl Tryd.func46 (by kernel_rfl) rfl (sameImage_any vs1 vs2 D1.slot (imZ D1 8) w443 (fun j hj => by rw [imZ, if_pos hj, List.length_take]; have := (hI1.z j hj).2; omega) (fun j hj => (hR1 j hj).sl hs445 (fun x hx => by simp [hx])) (fun j hj => (hR2 j hj).sl hs445 (fun x hx => by simp [hx]))) rfl ?_)
                            rintro vq w446 ⟨rfl, hc447⟩
                            have hs448 := ((hs445.call0 hc447).dropL hF2).dropL hF1
                            refine L0 (wanted_none rfl) rfl (y_not rfl rfl) ?_
                            refine Lnil ?_
                            refine Wkn (t := 160) (b0 := false) rfl (by rfl) (fun h449 => ?_)
                            refine W_condF rfl h449 ?_
                            refine W_skip ?_
                            refine W_seq ?_
                            refine W_region ?_
                            refine L0 (wanted_none rfl) rfl (y_fieldAddr rfl Tryd.underlying65 rfl sz3 rfl) ?_
                            refine L1 (wanted_none rfl) rfl hs448 (y_load 0 rfl Tryd.underlying3 rfl rfl rfl rfl) ?_
                            refine Lc (wanted_none rfl) (c_buildSlice (cells := [iv o.at_, iv 0, iv 7, iv 8, iv (-1)]) hs448 rfl rfl Tryd.underlying23 sz3 zr3 (by decide) (by kernel_rfl) (fun b450 w451 hbb450 hs452 => ?_))
                            refine L0 (wanted_none rfl) rfl (y_slen rfl Tryd.underlying23 rfl) ?_
                            refine L0 (wanted_none rfl) rfl (y_move (v := Value.int _ _) rfl rfl) ?_
                            refine Lnil ?_
                            refine W_block ?_
                            refine W_loop (G := Nat) (fun q aL wl => ∃ e, aL = A 237 ((165, iv q) :: (164, iv 5) :: (163, .slice (some ⟨b450, 0, none⟩) 5 5) :: (7, iv i) :: (0, v0) :: (3, pv b2 0) :: (5, pv c 0) :: (6, pv b 0) :: e) ∧ q ≤ 5 ∧ Both w ((b450, .cells ⟨[iv o.at_, iv 0, iv 7, iv 8, iv (-1)]⟩ 3 (0, 0)) :: [(b19, .cells ⟨opCells o (vk i) (vl i)⟩ 65 (0, 0)), (b2, .cells ⟨icells vs si⟩ 59 (0, 0))]) b c D1 D1 m1 wl) (fun q => 5 - q) (0) ?_ ?_
                            · exact ⟨_, A_pins _ _ [165, 164, 163, 7, 0, 3, 5, 6], Nat.zero_le _, hB1.drewn hs452⟩
                            rintro q _ w453 ⟨ehs454, rfl, hq, hBq⟩
                            have hs454 := hBq.st
                            refine W_seq ?_
                            refine W_region ?_
                            refine L0 (wanted_none rfl) rfl (y_lt rfl rfl rfl) ?_
                            refine Lnil ?_
                            refine W_seq ?_
                            refine Wsp (t := 166) rfl (fun h455 => ?_) (fun h455 => ?_)
                            · have h455' := h455
                              first | replace h455' := of_decide_eq_true h455' | replace h455' := bnT' h455' | skip
                              refine W_condT rfl h455 ?_
                              refine W_skip ?_
                              refine W_seq ?_
                              refine W_block ?_
                              refine W_seq ?_
                              have hat := atN_le hI1 (atq o.at_ q)
                              refine W_region ?_
                              refine L0 (wanted_none rfl) rfl (y_indexSl rfl Tryd.underlying23 sz3 rfl rfl (by omega) (by omega)) ?_
                              refine L1 (wanted_none rfl) rfl hs454 (y_load 0 rfl Tryd.underlying3 rfl rfl rfl (at5 _ (by omega))) ?_
                              refine L0 (wanted_none rfl) rfl (y_assign (v := Value.int _ _) rfl rfl) ?_
                              refine Lnil ?_
                              refine W_seq ?_
                              refine W_region ?_
                              refine L0 (wanted_none rfl) rfl (y_move (v := Value.pointer _) rfl rfl) ?_
                              refine L0 (wanted_none rfl) rfl (y_move (v := Value.int _ _) rfl rfl) ?_
                              refine Lc (wanted_none rfl) (c_call rfl rfl rfl Tryd.func49 (by kernel_rfl) rfl (have_all (hBq.drewn hs454).refs (atq o.at_ q)) rfl ?_)
                              rintro vq w456 ⟨rfl, hc457⟩
                              have hs458 := hs454.call0 hc457
                              refine L0 (wanted_none rfl) rfl (y_move (v := Value.tuple ⟨_⟩) rfl rfl) ?_
                              refine L0 (wanted_none rfl) rfl (y_extract rfl rfl rfl) ?_
                              refine L0 (wanted_none rfl) rfl (y_extract rfl rfl rfl) ?_
                              refine L0 (wanted_none rfl) rfl (y_assign (v := Value.int _ _) rfl rfl) ?_
                              refine L0 (wanted_none rfl) rfl (y_assign (v := Value.int _ _) rfl rfl) ?_
                              refine Lnil ?_
                              refine W_seq ?_
                              refine W_region ?_
                              refine L0 (wanted_none rfl) rfl (y_move (v := Value.pointer _) rfl rfl) ?_
                              refine L0 (wanted_none rfl) rfl (y_move (v := Value.int _ _) rfl rfl) ?_
                              refine Lc (wanted_none rfl) (c_call rfl rfl rfl Tryd.func18 (by kernel_rfl) rfl (at_all (hBq.drewn hs458).ours (atq o.at_ q)) rfl ?_)
                              rintro vq w459 ⟨⟨e1, rfl, hbe1⟩, hc460⟩
                              have hs461 := hs458.call0 hc460
                              refine L0 (wanted_none rfl) rfl (y_move (v := Value.tuple ⟨_⟩) rfl rfl) ?_
                              refine L0 (wanted_none rfl) rfl (y_extract rfl rfl rfl) ?_
                              refine L0 (wanted_none rfl) rfl (y_extract rfl rfl rfl) ?_
                              refine L0 (wanted_none rfl) rfl (y_assign (v := Value.int _ _) rfl rfl) ?_
                              refine L0 (wanted_none rfl) rfl (y_assign (v := _) rfl rfl) ?_
                              refine Lnil ?_
                              refine W_seq ?_
                              refine W_seq ?_
                              refine W_region ?_
                              refine L0 (wanted_none rfl) rfl (y_move (v := _) rfl rfl) ?_
                              refine L0 (wanted_none rfl) rfl (y_move (v := Value.int _ _) rfl rfl) ?_
                              refine Lc (wanted_none rfl) (c_call rfl rfl rfl Tryd.func29 (by kernel_rfl) rfl (bare_of hbe1 w459 (hEr hs461 (hBq.freshX (fr3 hbb450 hbb19 hbb2)))) rfl ?_)
                              rintro vb w462 ⟨rfl, hc463⟩
                              have hs464 := hs461.call0 hc463
                              refine L0 (wanted_none rfl) rfl (y_not rfl rfl) ?_
                              refine L0 (wanted_none rfl) rfl (y_move (v := Value.bool _) rfl rfl) ?_
                              refine Lkn (t := 185) (b0 := false) rfl (by rfl) (fun h465 => ?_)
                              refine L0 (wanted_yesB rfl rfl rfl h465) rfl (y_move (v := Value.int _ _) rfl rfl) ?_
                              refine L0 (wanted_yesB rfl rfl rfl h465) rfl (y_move (v := Value.int _ _) rfl rfl) ?_
                              refine L0 (wanted_yesB rfl rfl rfl h465) rfl (y_ne rfl rfl rfl) ?_
                              refine L0 (wanted_none rfl) rfl (y_pickF rfl rfl h465 rfl) ?_
                              refine Lnil ?_
                              refine Wkn (t := 189) (b0 := false) rfl (by exact bnF rfl) (fun h466 => ?_)
                              refine W_condF rfl h466 ?_
                              refine W_skip ?_
                              refine W_seq ?_
                              refine W_region ?_
                              refine L0 (wanted_none rfl) rfl (y_move (v := Value.pointer _) rfl rfl) ?_
                              refine L0 (wanted_none rfl) rfl (y_move (v := Value.int _ _) rfl rfl) ?_
                              refine L0 (wanted_none rfl) rfl (y_move (v := Value.int _ _) rfl rfl) ?_
                              refine L0 (wanted_none rfl) rfl (y_sub64 rfl rfl rfl (by omega)) ?_
                              refine Lc (wanted_none rfl) (c_call rfl rfl rfl Tryd.func50 (by kernel_rfl) rfl (rread_all (hBq.drewn hs464).refs hI1 (atq o.at_ q) _) rfl ?_)
                              rintro vq w467 ⟨rfl, hc468⟩
                              have hs469 := hs464.call0 hc468
                              refine L0 (wanted_none rfl) rfl (y_move (v := Value.tuple ⟨_⟩) rfl rfl) ?_
                              refine L0 (wanted_none rfl) rfl (y_extract rfl rfl rfl) ?_
                              refine L0 (wanted_none rfl) rfl (y_extract rfl rfl rfl) ?_
                              refine L0 (wanted_none rfl) rfl (y_assign (v := Value.string ⟨⟨_⟩⟩) rfl rfl) ?_
                              refine L0 (wanted_none rfl) rfl (y_assign (v := Value.int _ _) rfl rfl) ?_
                              refine Lnil ?_
                              refine W_seq ?_
                              refine W_region ?_
                              refine L0 (wanted_none rfl) rfl (y_move (v := Value.pointer _) rfl rfl) ?_
                              refine L0 (wanted_none rfl) rfl (y_move (v := Value.int _ _) rfl rfl) ?_
                              refine L0 (wanted_none rfl) rfl (y_move (v := Value.int _ _) rfl rfl) ?_
                              refine L0 (wanted_none rfl) rfl (y_sub64 rfl rfl rfl (by omega)) ?_
                              refine Lc (wanted_none rfl) (c_call rfl rfl rfl Tryd.func19 (by kernel_rfl) rfl (read_all (hBq.drewn hs469).ours (atq o.at_ q) _) rfl ?_)
                              rintro vq w470 ⟨⟨e2, rfl, hbe2⟩, hc471⟩
                              have hs472 := hs469.call0 hc471
                              refine L0 (wanted_none rfl) rfl (y_move (v := Value.tuple ⟨_⟩) rfl rfl) ?_
                              refine L0 (wanted_none rfl) rfl (y_extract rfl rfl rfl) ?_
                              refine L0 (wanted_none rfl) rfl (y_extract rfl rfl rfl) ?_
                              refine L0 (wanted_none rfl) rfl (y_assign (v := Value.string ⟨⟨_⟩⟩) rfl rfl) ?_
                              refine L0 (wanted_none rfl) rfl (y_assign (v := _) rfl rfl) ?_
                              refine Lnil ?_
                              refine W_seq ?_
                              refine W_seq ?_
                              refine W_region ?_
                              refine L0 (wanted_none rfl) rfl (y_move (v := _) rfl rfl) ?_
                              refine L0 (wanted_none rfl) rfl (y_move (v := Value.int _ _) rfl rfl) ?_
                              refine Lc (wanted_none rfl) (c_call rfl rfl rfl Tryd.func29 (by kernel_rfl) rfl (bare_of hbe2 w470 (hEr hs472 (hBq.freshX (fr3 hbb450 hbb19 hbb2)))) rfl ?_)
                              rintro vb w473 ⟨rfl, hc474⟩
                              have hs475 := hs472.call0 hc474
                              refine L0 (wanted_none rfl) rfl (y_not rfl rfl) ?_
                              refine L0 (wanted_none rfl) rfl (y_move (v := Value.bool _) rfl rfl) ?_
                              refine Lkn (t := 210) (b0 := false) rfl (by rfl) (fun h476 => ?_)
                              refine L0 (wanted_yesB rfl rfl rfl h476) rfl (y_move (v := Value.string ⟨⟨_⟩⟩) rfl rfl) ?_
                              refine L0 (wanted_yesB rfl rfl rfl h476) rfl (y_move (v := Value.string ⟨⟨_⟩⟩) rfl rfl) ?_
                              refine L0 (wanted_yesB rfl rfl rfl h476) rfl (y_sne rfl rfl rfl) ?_
                              refine L0 (wanted_none rfl) rfl (y_pickF rfl rfl h476 rfl) ?_
                              refine Lnil ?_
                              refine Wkn (t := 214) (b0 := false) rfl (by exact bnF rfl) (fun h477 => ?_)
                              refine W_condF rfl h477 ?_
                              refine W_skip ?_
                              refine W_seq ?_
                              refine W_region ?_
                              refine L0 (wanted_none rfl) rfl (y_move (v := Value.pointer _) rfl rfl) ?_
                              refine L0 (wanted_none rfl) rfl (y_move (v := Value.int _ _) rfl rfl) ?_
                              refine Lc (wanted_none rfl) (c_call rfl rfl rfl Tryd.func51 (by kernel_rfl) rfl (rget_all (hBq.drewn hs475).refs hI1 (by omega) (atq o.at_ q)) rfl ?_)
                              rintro vq w478 ⟨rfl, hc479⟩
                              have hs480 := hs475.call0 hc479
                              refine L0 (wanted_none rfl) rfl (y_move (v := Value.tuple ⟨_⟩) rfl rfl) ?_
                              refine L0 (wanted_none rfl) rfl (y_extract rfl rfl rfl) ?_
                              refine L0 (wanted_none rfl) rfl (y_extract rfl rfl rfl) ?_
                              refine L0 (wanted_none rfl) rfl (y_assign (v := Value.string ⟨⟨_⟩⟩) rfl rfl) ?_
                              refine L0 (wanted_none rfl) rfl (y_assign (v := Value.int _ _) rfl rfl) ?_
                              refine Lnil ?_
                              refine W_seq ?_
                              refine W_region ?_
                              refine L0 (wanted_none rfl) rfl (y_move (v := Value.pointer _) rfl rfl) ?_
                              refine L0 (wanted_none rfl) rfl (y_move (v := Value.int _ _) rfl rfl) ?_
                              refine Lc (wanted_none rfl) (c_call rfl rfl rfl Tryd.func52 (by kernel_rfl) rfl (get_all (hBq.drewn hs480).ours hI1 (by omega) (atq o.at_ q)) rfl ?_)
                              rintro vq w481 ⟨⟨e3, rfl, hbe3⟩, hc482⟩
                              have hs483 := hs480.call0 hc482
                              refine L0 (wanted_none rfl) rfl (y_move (v := Value.tuple ⟨_⟩) rfl rfl) ?_
                              refine L0 (wanted_none rfl) rfl (y_extract rfl rfl rfl) ?_
                              refine L0 (wanted_none rfl) rfl (y_extract rfl rfl rfl) ?_
                              refine L0 (wanted_none rfl) rfl (y_assign (v := Value.string ⟨⟨_⟩⟩) rfl rfl) ?_
                              refine L0 (wanted_none rfl) rfl (y_assign (v := _) rfl rfl) ?_
                              refine Lnil ?_
                              refine W_seq ?_
                              refine W_region ?_
                              refine L0 (wanted_none rfl) rfl (y_move (v := _) rfl rfl) ?_
                              refine L0 (wanted_none rfl) rfl (y_move (v := Value.int _ _) rfl rfl) ?_
                              refine Lc (wanted_none rfl) (c_call rfl rfl rfl Tryd.func29 (by kernel_rfl) rfl (bare_of hbe3 w481 (hEr hs483 (hBq.freshX (fr3 hbb450 hbb19 hbb2)))) rfl ?_)
                              rintro vb w484 ⟨rfl, hc485⟩
                              have hs486 := hs483.call0 hc485
                              refine L0 (wanted_none rfl) rfl (y_not rfl rfl) ?_
                              refine L0 (wanted_none rfl) rfl (y_move (v := Value.bool _) rfl rfl) ?_
                              refine Lkn (t := 231) (b0 := false) rfl (by rfl) (fun h487 => ?_)
                              refine L0 (wanted_yesB rfl rfl rfl h487) rfl (y_move (v := Value.string ⟨⟨_⟩⟩) rfl rfl) ?_
                              refine L0 (wanted_yesB rfl rfl rfl h487) rfl (y_move (v := Value.string ⟨⟨_⟩⟩) rfl rfl) ?_
                              refine L0 (wanted_yesB rfl rfl rfl h487) rfl (y_sne rfl rfl rfl) ?_
                              refine L0 (wanted_none rfl) rfl (y_pickF rfl rfl h487 rfl) ?_
                              refine Lnil ?_
                              refine Wkn (t := 235) (b0 := false) rfl (by exact bnF rfl) (fun h488 => ?_)
                              refine W_condF rfl h488 ?_
                              refine W_skip ?_
                              refine W_region ?_
                              refine L0 (wanted_none rfl) rfl (y_add64 rfl rfl rfl (by omega)) ?_
                              refine L0 (wanted_none rfl) rfl (y_move (v := Value.int _ _) rfl rfl) ?_
                              refine Lnil ?_
                              exact ⟨q + 1, by first | omega | (dsimp only; done) | (dsimp only; omega), _, A_c (iv_eq (by first | omega | (dsimp only; done) | (dsimp only; omega))) (A_c rfl (A_c rfl (A_c rfl (A_c rfl (A_c rfl (A_c rfl (A_c rfl (rfl)))))))), by omega, hBq.drewn hs486⟩
                            · have h455' := h455
                              first | replace h455' := of_decide_eq_false h455' | replace h455' := bnF' h455' | skip
                              refine W_condF rfl h455 ?_
                              refine W_exit ?_
                              refine W_region ?_
                              refine L0 (wanted_none rfl) rfl (y_move (v := Value.int _ _) rfl rfl) ?_
                              refine L0 (wanted_none rfl) rfl (y_add64 rfl rfl rfl (by omega)) ?_
                              refine L0 (wanted_none rfl) rfl (y_assign (v := Value.int _ _) rfl rfl) ?_
                              refine Lnil ?_
                              exact ⟨(i + 1, D1, m1), by first | omega | (dsimp only; done) | (dsimp only; omega), _, A_c (iv_eq (by first | omega | (dsimp only; done) | (dsimp only; omega))) (A_c rfl (A_c rfl (A_c rfl (A_c rfl (rfl))))), by first | omega | (dsimp only; done) | (dsimp only; omega), hI1, hB1.drewn (X' := [(b2, .cells ⟨icells vs si⟩ 59 (0, 0))]) ((hs454.drop (.inl hbb450)).drop (.inl hbb19))⟩
      · have h18' := h18
        first | replace h18' := of_decide_eq_false h18' | replace h18' := bnF' h18' | skip
        refine W_condF rfl h18 ?_
        refine W_exit ?_
        refine W_seq ?_
        refine W_region ?_
        refine L0 (wanted_none rfl) rfl (y_assign (v := Value.bool _) rfl rfl) ?_
        refine Lnil ?_
        refine W_ret ?_
        refine fin1 (fn := Tryd.f6) rfl rfl ?_
        first | exact ⟨rfl, hs17.drop (.inl hbb2)⟩ | exact ⟨rfl, hs17.drops (fun x hx => .inl (freshL hbNOBLOCK (hB.freshX (fr1 hbb2)) x hx))⟩ | exact ⟨rfl, hs17.drops (fun x hx => .inl (hB.freshX (fr1 hbb2) x hx))⟩
end Go.Proofs.YtkolfgmpmnelmabDoor
