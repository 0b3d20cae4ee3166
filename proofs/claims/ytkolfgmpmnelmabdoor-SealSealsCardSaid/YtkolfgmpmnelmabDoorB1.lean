/-
  Walks: ref.in, ref.words, ref.mix.
-/
import Derived.Test.YtkolfgmpmnelmabDoorProg
import Derived.Test.YtkolfgmpmnelmabDoorVp
import Derived.Test.YtkolfgmpmnelmabDoorVt
import Derived.Test.YtkolfgmpmnelmabDoorP6
namespace Go.Proofs.YtkolfgmpmnelmabDoor
open Go Vx Go.Proofs
set_option linter.unusedVariables false
set_option maxRecDepth 4000
set_option maxHeartbeats 400000

theorem in_any (n lo hi : Int) (w : World) :
    C Tryd.prog 82 ⟨[iv n, iv lo, iv hi]⟩ w fun v w' => v = .bool (decide (lo ≤ n ∧ n ≤ hi)) ∧ St w [] w' := by
  refine C_enter (n := 15) Tryd.func82 rfl rfl rfl (fun w1 hs1 => ?_)
  refine W_seq ?_
  refine W_region ?_
  refine L0 (wanted_none rfl) rfl (y_assign (v := Value.bool _) rfl rfl) ?_
  refine Lnil ?_
  refine W_seq ?_
  refine W_region ?_
  refine L0 (wanted_none rfl) rfl (y_move (v := Value.int _ _) rfl rfl) ?_
  refine L0 (wanted_none rfl) rfl (y_move (v := Value.int _ _) rfl rfl) ?_
  refine L0 (wanted_none rfl) rfl (y_le rfl rfl rfl) ?_
  refine L0 (wanted_none rfl) rfl (y_move (v := Value.bool _) rfl rfl) ?_
  refine Lsp (t := 10) rfl (fun h2 => ?_) (fun h2 => ?_)
  · have h2' := h2
    first | replace h2' := of_decide_eq_true h2' | replace h2' := bnT' h2' | skip
    refine L0 (wanted_yesB rfl rfl rfl h2) rfl (y_move (v := Value.int _ _) rfl rfl) ?_
    refine L0 (wanted_yesB rfl rfl rfl h2) rfl (y_move (v := Value.int _ _) rfl rfl) ?_
    refine L0 (wanted_yesB rfl rfl rfl h2) rfl (y_le rfl rfl rfl) ?_
    refine L0 (wanted_none rfl) rfl (y_pickT rfl rfl h2 rfl) ?_
    refine L0 (wanted_none rfl) rfl (y_assign (v := Value.bool _) rfl rfl) ?_
    refine Lnil ?_
    refine W_ret ?_
    refine fin1 (fn := Tryd.f82) rfl rfl ?_
    first | exact ⟨congrArg Value.bool (by rw [Bool.eq_iff_iff, decide_eq_true_iff]; simp; omega), hs1⟩
  · have h2' := h2
    first | replace h2' := of_decide_eq_false h2' | replace h2' := bnF' h2' | skip
    refine Lno (wanted_noB rfl rfl rfl h2 (by decide)) rfl ?_
    refine Lno (wanted_noB rfl rfl rfl h2 (by decide)) rfl ?_
    refine Lno (wanted_noB rfl rfl rfl h2 (by decide)) rfl ?_
    refine L0 (wanted_none rfl) rfl (y_pickF rfl rfl h2 rfl) ?_
    refine L0 (wanted_none rfl) rfl (y_assign (v := Value.bool _) rfl rfl) ?_
    refine Lnil ?_
    refine W_ret ?_
    refine fin1 (fn := Tryd.f82) rfl rfl ?_
    first | exact ⟨congrArg Value.bool (by rw [Bool.eq_iff_iff, decide_eq_true_iff]; simp; omega), hs1⟩
theorem words_any (s : List UInt8) (hl : s.length ≤ 1099511627776) (w : World) :
    C Tryd.prog 154 ⟨[str s]⟩ w fun v w' => ∃ ent, Row w.heap.size 123 1 v (s.length / 4) ((wordsOf s (s.length / 4)).map uv) ent ∧ St w ent w' := by
  refine C_enter (n := 32) Tryd.func154 rfl rfl rfl (fun w1 hs1 => ?_)
  refine W_seq ?_
  refine W_region ?_
  refine L0 (wanted_none rfl) rfl (y_assign (v := Value.slice _ _ _) rfl rfl) ?_
  refine Lnil ?_
  refine W_seq ?_
  refine W_region ?_
  refine L0 (wanted_none rfl) rfl (y_assign (v := Value.slice _ _ _) rfl rfl) ?_
  refine Lnil ?_
  refine W_seq ?_
  refine W_seq ?_
  refine W_region ?_
  refine L0 (wanted_none rfl) rfl (y_assign (v := Value.int _ _) rfl rfl) ?_
  refine Lnil ?_
  refine W_block ?_
  refine W_loop (G := Nat × Value × Blocks) (fun g aL wl => ∃ e, aL = A 32 ((4, iv (4 * (g.1 : Int))) :: (3, g.2.1) :: (0, str s) :: e) ∧ 4 * g.1 ≤ s.length ∧ Row w.heap.size 123 1 g.2.1 g.1 ((wordsOf s g.1).map uv) g.2.2 ∧ St w g.2.2 wl) (fun g => s.length - g.1) ((0, .slice none 0 0, [])) ?_ ?_
  · exact ⟨_, A_pins _ _ [4, 3, 0], Nat.zero_le _, Row.nil _ _ _, hs1⟩
  rintro g _ w2 ⟨ehs3, rfl, hi, hrow, hs3⟩
  obtain ⟨k, v, ent⟩ := g
  dsimp only at *
  refine W_seq ?_
  refine W_seq ?_
  refine W_region ?_
  refine L0 (wanted_none rfl) rfl (y_move (v := Value.int _ _) rfl rfl) ?_
  refine L0 (wanted_none rfl) rfl (y_add64 rfl rfl rfl (by omega)) ?_
  refine L0 (wanted_none rfl) rfl (y_move (v := Value.string ⟨⟨_⟩⟩) rfl rfl) ?_
  refine L0 (wanted_none rfl) rfl (y_len rfl Tryd.underlying9 rfl) ?_
  refine L0 (wanted_none rfl) rfl (y_le rfl rfl rfl) ?_
  refine Lnil ?_
  refine Wsp (t := 11) rfl (fun h4 => ?_) (fun h4 => ?_)
  · have h4' := h4
    first | replace h4' := of_decide_eq_true h4' | replace h4' := bnT' h4' | skip
    refine W_condT rfl h4 ?_
    refine W_skip ?_
    refine W_seq ?_
    refine W_block ?_
    refine W_seq ?_
    refine W_region ?_
    refine L0 (wanted_none rfl) rfl (y_assign (v := Value.int _ _) rfl rfl) ?_
    refine Lnil ?_
    refine W_seq ?_
    refine W_seq ?_
    refine W_region ?_
    refine L0 (wanted_none rfl) rfl (y_assign (v := Value.int _ _) rfl rfl) ?_
    refine Lnil ?_
    refine W_block ?_
    refine W_loop (G := Nat) (fun g aL wl => ∃ e, aL = A 32 ((6, iv (3 - (g : Int))) :: (5, uv (rword s (4 * k) g)) :: (4, iv (4 * (k : Int))) :: (3, v) :: (0, str s) :: e) ∧ g ≤ 4 ∧ St w ent wl) (fun g => 4 - g) (0) ?_ ?_
    · exact ⟨_, A_pins _ _ [6, 5, 4, 3, 0], by omega, hs3⟩
    rintro g _ w5 ⟨ehs6, rfl, hj, hs6⟩
    refine W_seq ?_
    refine W_seq ?_
    refine W_region ?_
    refine L0 (wanted_none rfl) rfl (y_move (v := Value.int _ _) rfl rfl) ?_
    refine L0 (wanted_none rfl) rfl (y_ge rfl rfl rfl) ?_
    refine Lnil ?_
    refine Wsp (t := 15) rfl (fun h7 => ?_) (fun h7 => ?_)
    · have h7' := h7
      first | replace h7' := of_decide_eq_true h7' | replace h7' := bnT' h7' | skip
      refine W_condT rfl h7 ?_
      refine W_skip ?_
      refine W_seq ?_
      refine W_block ?_
      refine W_region ?_
      refine L0 (wanted_none rfl) rfl (y_move (v := Value.int _ _) rfl rfl) ?_
      refine L0 (wanted_none rfl) rfl (y_mul32 (u' := 256) rfl rfl rfl) ?_
      refine L0 (wanted_none rfl) rfl (y_move (v := Value.string ⟨⟨_⟩⟩) rfl rfl) ?_
      refine L0 (wanted_none rfl) rfl (y_move (v := Value.int _ _) rfl rfl) ?_
      refine L0 (wanted_none rfl) rfl (y_move (v := Value.int _ _) rfl rfl) ?_
      refine L0 (wanted_none rfl) rfl (y_add64 rfl rfl rfl (by omega)) ?_
      refine L0 (wanted_none rfl) rfl (y_sindex rfl Tryd.underlying9 rfl rfl (by omega) (by omega)) ?_
      refine L0 (wanted_none rfl) rfl (y_c8to32 rfl Tryd.underlying5 Tryd.underlying123 rfl) ?_
      refine L0 (wanted_none rfl) rfl (y_add32 rfl rfl rfl) ?_
      refine L0 (wanted_none rfl) rfl (y_assign (v := Value.int _ _) rfl rfl) ?_
      refine Lnil ?_
      refine W_region ?_
      refine L0 (wanted_none rfl) rfl (y_move (v := Value.int _ _) rfl rfl) ?_
      refine L0 (wanted_none rfl) rfl (y_sub64 rfl rfl rfl (by omega)) ?_
      refine L0 (wanted_none rfl) rfl (y_assign (v := Value.int _ _) rfl rfl) ?_
      refine Lnil ?_
      have ej : ((4 * (k : Int)) + (3 - (g : Int))).toNat = 4 * k + (3 - g) := by omega
      exact ⟨g + 1, by (try dsimp only); omega, _, A_c (iv_eq (by (try dsimp only); omega)) (A_c (by simp only [rword, ← ej]; rfl) (A_c rfl (A_c rfl (A_c rfl (rfl))))), by omega, hs6⟩
    · have h7' := h7
      first | replace h7' := of_decide_eq_false h7' | replace h7' := bnF' h7' | skip
      refine W_condF rfl h7 ?_
      refine W_exit ?_
      refine W_region ?_
      refine L0 (wanted_none rfl) rfl (y_move (v := v) rfl rfl) ?_
      refine L0 (wanted_none rfl) rfl (y_move (v := Value.int _ _) rfl rfl) ?_
      refine Lc (wanted_none rfl) (c_bs1 (v0 := uv _) hs6 rfl rfl Tryd.underlying213 sz123 zr123 rfl rfl (fun b8 w9 hbb8 hs10 => ?_))
      refine Lc (wanted_none rfl) (c_append (L0 := []) (ent := ent) hs10 hbb8 rfl rfl Tryd.underlying213 sz123 zr123 by123 rfl (by decide) rfl hrow rfl (by decide) rfl (by simp [Value.oneCell']) (by omega) (by omega) (fun v11 ent12 w13 hrow' hs14 => ?_))
      have hrow := hrow'
      refine L0 (wanted_none rfl) rfl (y_assign (v := v11) rfl rfl) ?_
      refine Lnil ?_
      refine W_region ?_
      refine L0 (wanted_none rfl) rfl (y_move (v := Value.int _ _) rfl rfl) ?_
      refine L0 (wanted_none rfl) rfl (y_add64 rfl rfl rfl (by omega)) ?_
      refine L0 (wanted_none rfl) rfl (y_assign (v := Value.int _ _) rfl rfl) ?_
      refine Lnil ?_
      have hrow2 : Row w.heap.size 123 1 v11 (k + 1) ((wordsOf s (k + 1)).map uv) ent12 := by
        have h := hrow
        obtain rfl : g = 4 := by omega
        rw [rword_wd] at h
        simp only [wordsOf, List.map_append]
        exact h
      exact ⟨(k + 1, _, _), by (try dsimp only); omega, _, A_c (iv_eq (by (try dsimp only); omega)) (A_c rfl (A_c rfl (rfl))), by (dsimp only); omega, hrow2, hs14⟩
  · have h4' := h4
    first | replace h4' := of_decide_eq_false h4' | replace h4' := bnF' h4' | skip
    refine W_condF rfl h4 ?_
    refine W_exit ?_
    refine W_seq ?_
    refine W_region ?_
    refine L0 (wanted_none rfl) rfl (y_move (v := v) rfl rfl) ?_
    refine L0 (wanted_none rfl) rfl (y_assign (v := v) rfl rfl) ?_
    refine Lnil ?_
    refine W_ret ?_
    refine fin1 (fn := Tryd.f154) rfl rfl ?_
    have hk : k = s.length / 4 := by omega
    subst hk
    exact ⟨_, hrow, hs3⟩
theorem u64of_small {a : Int} {n : Nat} (h : a = n) (hn : n < 64) : ((u64of a).toNat : Int) = n := by subst h; simp [u64of]; omega
theorem left_any (x : UInt32) (a : Int) (n : Nat) (ha : a = n) (h0 : 0 < n) (h1 : n < 32) (w : World) :
    C Tryd.prog 178 ⟨[uv x, qv (u64of a)]⟩ w fun v w' => v = uv (rot x n) ∧ St w [] w' := by
  have hq := u64of_small ha (by omega : n < 64)
  refine C_enter (n := 16) Tryd.func178 rfl rfl rfl (fun w1 hs1 => ?_)
  refine W_seq ?_
  refine W_region ?_
  refine L0 (wanted_none rfl) rfl (y_assign (v := Value.int _ _) rfl rfl) ?_
  refine Lnil ?_
  refine W_seq ?_
  refine W_region ?_
  refine L0 (wanted_none rfl) rfl (y_move (v := Value.int _ _) rfl rfl) ?_
  refine L0 (wanted_none rfl) rfl (y_c32to64 rfl Tryd.underlying123 Tryd.underlying122 rfl) ?_
  refine L0 (wanted_none rfl) rfl (y_move (v := Value.int _ _) rfl rfl) ?_
  refine L0 (wanted_none rfl) rfl (y_shl64 rfl rfl rfl (s := n) (by first | rfl | omega) (by omega)) ?_
  refine L0 (wanted_none rfl) rfl (y_move (v := Value.int _ _) rfl rfl) ?_
  refine L0 (wanted_none rfl) rfl (y_c32to64 rfl Tryd.underlying123 Tryd.underlying122 rfl) ?_
  refine L0 (wanted_none rfl) rfl (y_move (v := Value.int _ _) rfl rfl) ?_
  refine L0 (wanted_none rfl) rfl (y_shl64 rfl rfl rfl (s := n) (by first | rfl | omega) (by omega)) ?_
  refine L0 (wanted_none rfl) rfl (y_shr64 rfl rfl rfl (s := 32) (by first | rfl | omega) (by omega)) ?_
  refine L0 (wanted_none rfl) rfl (y_or64u rfl rfl rfl) ?_
  refine L0 (wanted_none rfl) rfl (y_c64to32 rfl Tryd.underlying122 Tryd.underlying123 rfl) ?_
  refine L0 (wanted_none rfl) rfl (y_assign (v := Value.int _ _) rfl rfl) ?_
  refine Lnil ?_
  refine W_ret ?_
  refine fin1 (fn := Tryd.f178) rfl rfl ?_
  rw [← left64_rot x n h0 h1]; exact ⟨rfl, hs1⟩
/-- Words at the head of a block. -/
@[reducible] def usT (cs : List UInt32) (tl : List Value) : Array Value := ⟨cs.map uv ++ tl⟩
theorem usT_get {cs : List UInt32} {tl : List Value} {i : Nat} (h : i < cs.length) : (usT cs tl)[0 + (i : Int).toNat * 1]? = some (uv (cs.getD i 0)) := by
  have : 0 + (i : Int).toNat * 1 = i := by simp
  rw [this]
  simp only [List.getElem?_toArray]
  rw [List.getElem?_append_left (by simpa using h)]
  simp [h]
theorem usT_set {cs : List UInt32} {tl : List Value} (i : Nat) (h : i < cs.length) (x : UInt32) : (usT cs tl).setIfInBounds (0 + (i : Int).toNat * 1) (uv x) = usT (cs.set i x) tl := by
  have : 0 + (i : Int).toNat * 1 = i := by simp
  rw [this]
  simp only [List.setIfInBounds_toArray]
  rw [List.set_append_left _ _ (by simpa using h), usT, List.map_set]
theorem usT_size (cs : List UInt32) (tl : List Value) : (usT cs tl).size = cs.length + tl.length := by simp [usT]
def qh (s : List UInt32) (a b c d n m : Nat) : List UInt32 := rotAt (addAt (rotAt (addAt s a b) d a n) c d) b c m
def mixI (s : List UInt32) (a b c d : Nat) : Nat → List UInt32
  | 0 => s
  | k + 1 => qh (mixI s a b c d k) a b c d (16 - 8 * k) (12 - 5 * k)
theorem mixI_two (s : List UInt32) (a b c d : Nat) : mixI s a b c d 2 = qr s a b c d := rfl
theorem mixI_len (s : List UInt32) (a b c d : Nat) : ∀ k, (mixI s a b c d k).length = s.length
  | 0 => rfl
  | k + 1 => by simp only [mixI, qh, rotAt_len, addAt_len, mixI_len s a b c d k]
set_option maxHeartbeats 4000000 in
theorem mix_any (cs : List UInt32) (tl : List Value) (bb cap a b c d : Nat) (fz : Nat × Nat) (hl : cs.length = 16) (ha : a < 16) (hb : b < 16) (hc : c < 16) (hd : d < 16) (hfz : Fz fz (16 + tl.length)) (w : World) (hw : w.heap[bb]? = some (.cells (usT cs tl) 123 fz)) :
    C Tryd.prog 155 ⟨[.slice (some ⟨bb, 0, none⟩) 16 cap, .agg ⟨[iv a, iv b, iv c, iv d]⟩]⟩ w fun v w' => v = .tuple #[] ∧ St w [(bb, .cells (usT (qr cs a b c d) tl) 123 fz)] w' := by
  refine C_enter (n := 82) Tryd.func155 rfl rfl rfl (fun w1 hs1 => ?_)
  have hs2 := hs1.borrow hw (by simp [keys])
  refine W_seq ?_
  refine W_region ?_
  refine Lc (wanted_none rfl) (c_box hs2 rfl rfl rfl (fun b2 w3 hbb2 hs4 => ?_))
  refine Lnil ?_
  refine W_seq ?_
  refine W_region ?_
  refine L0 (wanted_none rfl) rfl (y_assign (v := Value.func _ _ _) rfl rfl) ?_
  refine Lnil ?_
  refine W_seq ?_
  refine W_region ?_
  refine L0 (wanted_none rfl) rfl (y_move (v := Value.int _ _) rfl rfl) ?_
  refine Lnil ?_
  refine W_block ?_
  refine W_loop (G := Nat) (fun k aL wl => ∃ e, aL = A 82 ((10, iv k) :: (3, pv b2 0) :: (4, .func (.func 178) #[] #[]) :: (0, .slice (some ⟨bb, 0, none⟩) 16 cap) :: e) ∧ k ≤ 2 ∧ St w [(b2, .cells ⟨[iv a, iv b, iv c, iv d]⟩ 215 (0, 0)), (bb, .cells (usT (mixI cs a b c d k) tl) 123 fz)] wl) (fun k => 2 - k) (0) ?_ ?_
  · exact ⟨_, A_pins _ _ [10, 3, 4, 0], by omega, hs4⟩
  rintro k _ w5 ⟨ehs6, rfl, hk, hs6⟩
  obtain ⟨s0, e0⟩ : ∃ x, x = mixI cs a b c d k := ⟨_, rfl⟩
  rw [← e0] at hs6
  have l0 : s0.length = 16 := by rw [e0, mixI_len]; exact hl
  refine W_seq ?_
  refine W_region ?_
  refine L0 (wanted_none rfl) rfl (y_lt rfl rfl rfl) ?_
  refine Lnil ?_
  refine W_seq ?_
  refine Wsp (t := 11) rfl (fun h7 => ?_) (fun h7 => ?_)
  · have h7' := h7
    first | replace h7' := of_decide_eq_true h7' | replace h7' := bnT' h7' | skip
    refine W_condT rfl h7 ?_
    refine W_skip ?_
    refine W_seq ?_
    refine W_block ?_
    refine W_seq ?_
    refine W_region ?_
    refine L0 (wanted_none rfl) rfl (y_move (v := Value.int _ _) rfl rfl) ?_
    refine L0 (wanted_none rfl) rfl (y_assign (v := Value.int _ _) rfl rfl) ?_
    refine Lnil ?_
    refine W_seq ?_
    refine W_drawSt [(0, 0), (0, 2), (0, 4), (0, 6), (1, 1), (1, 3), (1, 5), (1, 7), (0, 8), (0, 9), (0, 10), (0, 11)] hs6 mixed (by kernel_rfl) (fun w8 hs9 => ?_)
    refine E0 (wanted_none rfl) rfl (y_indexArr rfl Tryd.underlying215 sz3 rfl rfl (by omega) (by omega)) ?_
    refine E0 (wanted_none rfl) rfl (y_indexArr rfl Tryd.underlying215 sz3 rfl rfl (by omega) (by omega)) ?_
    refine E0 (wanted_none rfl) rfl (y_indexArr rfl Tryd.underlying215 sz3 rfl rfl (by omega) (by omega)) ?_
    refine E0 (wanted_none rfl) rfl (y_indexArr rfl Tryd.underlying215 sz3 rfl rfl (by omega) (by omega)) ?_
    refine E1 hs9 (wanted_none rfl) rfl (y_load 0 rfl Tryd.underlying3 rfl rfl rfl rfl) ?_
    refine E1 hs9 (wanted_none rfl) rfl (y_load 0 rfl Tryd.underlying3 rfl rfl rfl rfl) ?_
    refine E1 hs9 (wanted_none rfl) rfl (y_load 0 rfl Tryd.underlying3 rfl rfl rfl rfl) ?_
    refine E1 hs9 (wanted_none rfl) rfl (y_load 0 rfl Tryd.underlying3 rfl rfl rfl rfl) ?_
    refine E0 (wanted_none rfl) rfl (y_assign (v := Value.int _ _) rfl rfl) ?_
    refine E0 (wanted_none rfl) rfl (y_assign (v := Value.int _ _) rfl rfl) ?_
    refine E0 (wanted_none rfl) rfl (y_assign (v := Value.int _ _) rfl rfl) ?_
    refine E0 (wanted_none rfl) rfl (y_assign (v := Value.int _ _) rfl rfl) ?_
    refine Enil ?_
    refine W_seq ?_
    refine W_drawSt [(0, 0), (0, 1), (0, 2), (0, 3), (0, 6), (0, 7), (0, 4), (0, 8), (1, 5), (1, 9), (0, 10), (0, 11), (2, 12)] hs9 mixed (by kernel_rfl) (fun w10 hs11 => ?_)
    refine E0 (wanted_none rfl) rfl (y_move (v := Value.slice _ _ _) rfl rfl) ?_
    refine E0 (wanted_none rfl) rfl (y_move (v := Value.int _ _) rfl rfl) ?_
    refine E0 (wanted_none rfl) rfl (y_move (v := Value.slice _ _ _) rfl rfl) ?_
    refine E0 (wanted_none rfl) rfl (y_move (v := Value.int _ _) rfl rfl) ?_
    refine E0 (wanted_none rfl) rfl (y_move (v := Value.slice _ _ _) rfl rfl) ?_
    refine E0 (wanted_none rfl) rfl (y_move (v := Value.int _ _) rfl rfl) ?_
    refine E0 (wanted_none rfl) rfl (y_indexSl rfl Tryd.underlying213 sz123 rfl rfl (by omega) (by omega)) ?_
    refine E0 (wanted_none rfl) rfl (y_indexSl rfl Tryd.underlying213 sz123 rfl rfl (by omega) (by omega)) ?_
    refine E1 hs11 (wanted_none rfl) rfl (y_load 1 rfl Tryd.underlying123 rfl rfl rfl (usT_get (by omega))) ?_
    refine E1 hs11 (wanted_none rfl) rfl (y_load 1 rfl Tryd.underlying123 rfl rfl rfl (usT_get (by omega))) ?_
    refine E0 (wanted_none rfl) rfl (y_add32 rfl rfl rfl) ?_
    refine E0 (wanted_none rfl) rfl (y_indexSl rfl Tryd.underlying213 sz123 rfl rfl (by omega) (by omega)) ?_
    refine E2 (wanted_none rfl) (c_store (i := 1) (v := uv _) hs11 rfl rfl rfl rfl sz123 rfl rfl (by rw [usT_size]; omega) ((by rw [usT_size, l0]; exact hfz)) (fun w12 hs13 => ?_))
    simp only [List.set_cons_succ, List.set_cons_zero] at hs13
    rw [usT_set _ (by omega)] at hs13
    obtain ⟨s1, e1⟩ : ∃ x, x = addAt s0 a b := ⟨_, rfl⟩
    change St w [_, (bb, .cells (usT (addAt s0 a b) tl) 123 fz)] _ at hs13
    rw [← e1] at hs13
    have l1 : s1.length = 16 := by rw [e1, addAt_len]; exact l0
    refine Enil ?_
    refine W_seq ?_
    refine W_drawSt [(0, 0), (0, 1), (0, 2), (0, 3), (0, 4), (0, 7), (0, 8), (0, 12), (0, 5), (0, 9), (0, 13), (1, 6), (1, 10), (0, 14), (0, 11), (0, 15), (3, 16), (0, 17), (2, 18)] hs13 mixed (by kernel_rfl) (fun w14 hs15 => ?_)
    refine E0 (wanted_none rfl) rfl (y_move (v := Value.slice _ _ _) rfl rfl) ?_
    refine E0 (wanted_none rfl) rfl (y_move (v := Value.int _ _) rfl rfl) ?_
    refine E0 (wanted_none rfl) rfl (y_move (v := Value.func _ _ _) rfl rfl) ?_
    refine E0 (wanted_none rfl) rfl (y_move (v := Value.slice _ _ _) rfl rfl) ?_
    refine E0 (wanted_none rfl) rfl (y_move (v := Value.int _ _) rfl rfl) ?_
    refine E0 (wanted_none rfl) rfl (y_move (v := Value.slice _ _ _) rfl rfl) ?_
    refine E0 (wanted_none rfl) rfl (y_move (v := Value.int _ _) rfl rfl) ?_
    refine E0 (wanted_none rfl) rfl (y_move (v := Value.int _ _) rfl rfl) ?_
    refine E0 (wanted_none rfl) rfl (y_indexSl rfl Tryd.underlying213 sz123 rfl rfl (by omega) (by omega)) ?_
    refine E0 (wanted_none rfl) rfl (y_indexSl rfl Tryd.underlying213 sz123 rfl rfl (by omega) (by omega)) ?_
    refine E0 (wanted_none rfl) rfl (y_mul64 rfl rfl rfl (by omega)) ?_
    refine E1 hs15 (wanted_none rfl) rfl (y_load 1 rfl Tryd.underlying123 rfl rfl rfl (usT_get (by omega))) ?_
    refine E1 hs15 (wanted_none rfl) rfl (y_load 1 rfl Tryd.underlying123 rfl rfl rfl (usT_get (by omega))) ?_
    refine E0 (wanted_none rfl) rfl (y_sub64 rfl rfl rfl (by omega)) ?_
    refine E0 (wanted_none rfl) rfl (y_xor32 rfl rfl rfl) ?_
    refine E0 (wanted_none rfl) rfl (y_cito64 rfl Tryd.underlying3 Tryd.underlying105 rfl) ?_
    refine E3 (wanted_none rfl) (c_call rfl rfl rfl Tryd.func178 (by kernel_rfl) rfl (left_any _ _ (16 - 8 * k) (by omega) (by omega) (by omega) w14) rfl ?_)
    rintro _ w16 ⟨rfl, hc17⟩
    have hs18 := hs15.call0 hc17
    refine ⟨fun _ => hs18, ?_⟩
    refine E0 (wanted_none rfl) rfl (y_indexSl rfl Tryd.underlying213 sz123 rfl rfl (by omega) (by omega)) ?_
    refine E2 (wanted_none rfl) (c_store (i := 1) (v := uv _) hs18 rfl rfl rfl rfl sz123 rfl rfl (by rw [usT_size]; omega) ((by rw [usT_size, l1]; exact hfz)) (fun w19 hs20 => ?_))
    simp only [List.set_cons_succ, List.set_cons_zero] at hs20
    rw [usT_set _ (by omega)] at hs20
    obtain ⟨s2, e2⟩ : ∃ x, x = rotAt s1 d a (16 - 8 * k) := ⟨_, rfl⟩
    change St w [_, (bb, .cells (usT (rotAt s1 d a (16 - 8 * k)) tl) 123 fz)] _ at hs20
    rw [← e2] at hs20
    have l2 : s2.length = 16 := by rw [e2, rotAt_len]; exact l1
    refine Enil ?_
    refine W_seq ?_
    refine W_drawSt [(0, 0), (0, 1), (0, 2), (0, 3), (0, 6), (0, 7), (0, 4), (0, 8), (1, 5), (1, 9), (0, 10), (0, 11), (2, 12)] hs20 mixed (by kernel_rfl) (fun w21 hs22 => ?_)
    refine E0 (wanted_none rfl) rfl (y_move (v := Value.slice _ _ _) rfl rfl) ?_
    refine E0 (wanted_none rfl) rfl (y_move (v := Value.int _ _) rfl rfl) ?_
    refine E0 (wanted_none rfl) rfl (y_move (v := Value.slice _ _ _) rfl rfl) ?_
    refine E0 (wanted_none rfl) rfl (y_move (v := Value.int _ _) rfl rfl) ?_
    refine E0 (wanted_none rfl) rfl (y_move (v := Value.slice _ _ _) rfl rfl) ?_
    refine E0 (wanted_none rfl) rfl (y_move (v := Value.int _ _) rfl rfl) ?_
    refine E0 (wanted_none rfl) rfl (y_indexSl rfl Tryd.underlying213 sz123 rfl rfl (by omega) (by omega)) ?_
    refine E0 (wanted_none rfl) rfl (y_indexSl rfl Tryd.underlying213 sz123 rfl rfl (by omega) (by omega)) ?_
    refine E1 hs22 (wanted_none rfl) rfl (y_load 1 rfl Tryd.underlying123 rfl rfl rfl (usT_get (by omega))) ?_
    refine E1 hs22 (wanted_none rfl) rfl (y_load 1 rfl Tryd.underlying123 rfl rfl rfl (usT_get (by omega))) ?_
    refine E0 (wanted_none rfl) rfl (y_add32 rfl rfl rfl) ?_
    refine E0 (wanted_none rfl) rfl (y_indexSl rfl Tryd.underlying213 sz123 rfl rfl (by omega) (by omega)) ?_
    refine E2 (wanted_none rfl) (c_store (i := 1) (v := uv _) hs22 rfl rfl rfl rfl sz123 rfl rfl (by rw [usT_size]; omega) ((by rw [usT_size, l2]; exact hfz)) (fun w23 hs24 => ?_))
    simp only [List.set_cons_succ, List.set_cons_zero] at hs24
    rw [usT_set _ (by omega)] at hs24
    obtain ⟨s3, e3⟩ : ∃ x, x = addAt s2 c d := ⟨_, rfl⟩
    change St w [_, (bb, .cells (usT (addAt s2 c d) tl) 123 fz)] _ at hs24
    rw [← e3] at hs24
    have l3 : s3.length = 16 := by rw [e3, addAt_len]; exact l2
    refine Enil ?_
    refine W_drawSt [(0, 0), (0, 1), (0, 2), (0, 3), (0, 4), (0, 7), (0, 8), (0, 12), (0, 5), (0, 9), (0, 13), (1, 6), (1, 10), (0, 14), (0, 11), (0, 15), (3, 16), (0, 17), (2, 18)] hs24 mixed (by kernel_rfl) (fun w25 hs26 => ?_)
    refine E0 (wanted_none rfl) rfl (y_move (v := Value.slice _ _ _) rfl rfl) ?_
    refine E0 (wanted_none rfl) rfl (y_move (v := Value.int _ _) rfl rfl) ?_
    refine E0 (wanted_none rfl) rfl (y_move (v := Value.func _ _ _) rfl rfl) ?_
    refine E0 (wanted_none rfl) rfl (y_move (v := Value.slice _ _ _) rfl rfl) ?_
    refine E0 (wanted_none rfl) rfl (y_move (v := Value.int _ _) rfl rfl) ?_
    refine E0 (wanted_none rfl) rfl (y_move (v := Value.slice _ _ _) rfl rfl) ?_
    refine E0 (wanted_none rfl) rfl (y_move (v := Value.int _ _) rfl rfl) ?_
    refine E0 (wanted_none rfl) rfl (y_move (v := Value.int _ _) rfl rfl) ?_
    refine E0 (wanted_none rfl) rfl (y_indexSl rfl Tryd.underlying213 sz123 rfl rfl (by omega) (by omega)) ?_
    refine E0 (wanted_none rfl) rfl (y_indexSl rfl Tryd.underlying213 sz123 rfl rfl (by omega) (by omega)) ?_
    refine E0 (wanted_none rfl) rfl (y_mul64 rfl rfl rfl (by omega)) ?_
    refine E1 hs26 (wanted_none rfl) rfl (y_load 1 rfl Tryd.underlying123 rfl rfl rfl (usT_get (by omega))) ?_
    refine E1 hs26 (wanted_none rfl) rfl (y_load 1 rfl Tryd.underlying123 rfl rfl rfl (usT_get (by omega))) ?_
    refine E0 (wanted_none rfl) rfl (y_sub64 rfl rfl rfl (by omega)) ?_
    refine E0 (wanted_none rfl) rfl (y_xor32 rfl rfl rfl) ?_
    refine E0 (wanted_none rfl) rfl (y_cito64 rfl Tryd.underlying3 Tryd.underlying105 rfl) ?_
    refine E3 (wanted_none rfl) (c_call rfl rfl rfl Tryd.func178 (by kernel_rfl) rfl (left_any _ _ (12 - 5 * k) (by omega) (by omega) (by omega) w25) rfl ?_)
    rintro _ w27 ⟨rfl, hc28⟩
    have hs29 := hs26.call0 hc28
    refine ⟨fun _ => hs29, ?_⟩
    refine E0 (wanted_none rfl) rfl (y_indexSl rfl Tryd.underlying213 sz123 rfl rfl (by omega) (by omega)) ?_
    refine E2 (wanted_none rfl) (c_store (i := 1) (v := uv _) hs29 rfl rfl rfl rfl sz123 rfl rfl (by rw [usT_size]; omega) ((by rw [usT_size, l3]; exact hfz)) (fun w30 hs31 => ?_))
    simp only [List.set_cons_succ, List.set_cons_zero] at hs31
    rw [usT_set _ (by omega)] at hs31
    obtain ⟨s4, e4⟩ : ∃ x, x = rotAt s3 b c (12 - 5 * k) := ⟨_, rfl⟩
    change St w [_, (bb, .cells (usT (rotAt s3 b c (12 - 5 * k)) tl) 123 fz)] _ at hs31
    rw [← e4] at hs31
    have l4 : s4.length = 16 := by rw [e4, rotAt_len]; exact l3
    refine Enil ?_
    refine W_region ?_
    refine L0 (wanted_none rfl) rfl (y_add64 rfl rfl rfl (by omega)) ?_
    refine L0 (wanted_none rfl) rfl (y_move (v := Value.int _ _) rfl rfl) ?_
    refine Lnil ?_
    have e5 : s4 = mixI cs a b c d (k + 1) := by rw [e4, e3, e2, e1, e0]; rfl
    rw [e5] at hs31
    exact ⟨k + 1, by (try dsimp only); omega, _, A_c (iv_eq (by (try dsimp only); omega)) (A_c rfl (A_c rfl (A_c rfl (rfl)))), by omega, hs31⟩
  · have h7' := h7
    first | replace h7' := of_decide_eq_false h7' | replace h7' := bnF' h7' | skip
    refine W_condF rfl h7 ?_
    refine W_exit ?_
    refine fin0 (fn := Tryd.f155) rfl ?_
    obtain rfl : k = 2 := by omega
    rw [e0, mixI_two] at hs6
    exact ⟨rfl, hs6.drop (.inl hbb2)⟩
end Go.Proofs.YtkolfgmpmnelmabDoor
