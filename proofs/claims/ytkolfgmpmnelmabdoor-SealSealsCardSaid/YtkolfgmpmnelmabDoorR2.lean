/-
  Walks: ref.times, ref.above, ref.root.
-/
import Derived.Test.YtkolfgmpmnelmabDoorProg
import Derived.Test.YtkolfgmpmnelmabDoorVq
import Derived.Test.YtkolfgmpmnelmabDoorVt
import Derived.Test.YtkolfgmpmnelmabDoorR1
import Derived.Test.YtkolfgmpmnelmabDoorB2
namespace Go.Proofs.YtkolfgmpmnelmabDoor
open Go Vx Go.Proofs
set_option linter.unusedVariables false
set_option maxRecDepth 4000
set_option maxHeartbeats 400000

@[reducible] def qs (l : List UInt64) (j : Nat) : Value := qv (l.getD j 0)
/-- How far the multiplication may go. -/
def TimesB (n i c : Nat) : Prop := i ≤ n + 3 ∧ (n ≤ i → c * 65536 ^ (i - n) < 4398046511104)
theorem TimesB.more {n i c : Nat} (h : TimesB n i c) (hc : i < n ∨ 0 < c) : i + 1 ≤ n + 3 := by
  rcases Nat.lt_or_ge i n with hi | hi
  · omega
  · have h1 := h.2 hi
    have h2 : 0 < c := by omega
    rcases Nat.lt_or_ge (i + 1) (n + 4) with h3 | h3
    · omega
    · exfalso
      have h4 : 65536 ^ 3 ≤ 65536 ^ (i - n) := Nat.pow_le_pow_right (by decide) (by omega)
      have h5 : 1 * 65536 ^ 3 ≤ c * 65536 ^ (i - n) := Nat.mul_le_mul h2 h4
      have h6 : (1 : Nat) * 65536 ^ 3 = 281474976710656 := by decide
      omega
theorem TimesB.step {v : List UInt64} {x c : UInt64} {i : Nat} {out : List UInt64} (hI : TimesI v x i c out) (hB : TimesB v.length i c.toNat) (hv : digs v) (hx : x.toNat ≤ 1099511627776) (hm : i < v.length ∨ 0 < c.toNat) :
    TimesB v.length (i + 1) (stepN v x i c / 65536).toNat := by
  refine ⟨hB.more hm, fun hi => ?_⟩
  have hcb := (hI.step hv hx).cb
  by_cases h : i < v.length
  · rw [show i + 1 - v.length = 0 from by omega]; omega
  · have h1 := hB.2 (by omega)
    have e1 : (65536 : UInt64).toNat = 65536 := rfl
    have h2 : (stepN v x i c / 65536).toNat = c.toNat / 65536 := by
      unfold stepN; rw [if_neg h, UInt64.toNat_div, e1]
    rw [h2, show i + 1 - v.length = (i - v.length) + 1 from by omega, Nat.pow_succ, Nat.mul_comm (65536 ^ _) 65536, ← Nat.mul_assoc]
    exact Nat.lt_of_le_of_lt (Nat.mul_le_mul_right _ (Nat.div_mul_le_self _ _)) h1
theorem times_any (l : List UInt64) (x : UInt64) (va : Value) (hl : l.length ≤ 1000) (hd : digs l) (hx : x.toNat ≤ 1099511627776) (w : World) (hSa : Sl w va l.length (qs l)) :
    C Tryd.prog 152 ⟨[va, qv x]⟩ w fun v w' => ∃ out ent, digs out ∧ val out = val l * x.toNat ∧ out.length ≤ l.length + 3 ∧ l.length ≤ out.length ∧ Row w.heap.size 122 1 v out.length (out.map qv) ent ∧ St w ent w' := by
  refine C_enter (n := 40) Tryd.func152 rfl rfl rfl (fun w1 hs1 => ?_)
  refine W_seq ?_
  refine W_region ?_
  refine L0 (wanted_none rfl) rfl (y_assign (v := Value.slice _ _ _) rfl rfl) ?_
  refine Lnil ?_
  refine W_seq ?_
  refine W_region ?_
  refine L0 (wanted_none rfl) rfl (y_assign (v := Value.slice _ _ _) rfl rfl) ?_
  refine Lnil ?_
  refine W_seq ?_
  refine W_region ?_
  refine L0 (wanted_none rfl) rfl (y_assign (v := Value.int _ _) rfl rfl) ?_
  refine Lnil ?_
  refine W_seq ?_
  refine W_seq ?_
  refine W_region ?_
  refine L0 (wanted_none rfl) rfl (y_assign (v := Value.int _ _) rfl rfl) ?_
  refine Lnil ?_
  refine W_block ?_
  refine W_loop (G := Nat × UInt64 × List UInt64 × Value × Blocks) (fun g aL wl => ∃ e, aL = A 40 ((7, iv (g.1 : Int)) :: (6, qv g.2.1) :: (5, g.2.2.2.1) :: (0, va) :: (1, qv x) :: e) ∧ TimesI l x g.1 g.2.1 g.2.2.1 ∧ TimesB l.length g.1 g.2.1.toNat ∧ Row w.heap.size 122 1 g.2.2.2.1 g.2.2.1.length (g.2.2.1.map qv) g.2.2.2.2 ∧ St w g.2.2.2.2 wl) (fun g => l.length + 4 - g.1) ((0, 0, [], .slice none 0 0, [])) ?_ ?_
  · exact ⟨_, A_pins _ _ [7, 6, 5, 0, 1], TimesI.init _ _, ⟨by omega, fun _ => by simp⟩, Row.nil _ _ _, hs1⟩
  rintro g _ w2 ⟨ehs3, rfl, hI, hB, hrow, hs3⟩
  obtain ⟨i, c, out, v, ent⟩ := g
  dsimp only at *
  have hBi := hB.1
  have hIl := hI.len
  refine W_seq ?_
  refine W_seq ?_
  refine W_region ?_
  refine L0 (wanted_none rfl) rfl (y_move (v := Value.int _ _) rfl rfl) ?_
  refine L0 (wanted_none rfl) rfl (y_move (v := va) rfl rfl) ?_
  refine L0 (wanted_none rfl) rfl (y_slenSl rfl Tryd.underlying211 rfl hSa) ?_
  refine L0 (wanted_none rfl) rfl (y_lt rfl rfl rfl) ?_
  refine L0 (wanted_none rfl) rfl (y_move (v := Value.bool _) rfl rfl) ?_
  refine Lsp (t := 13) rfl (fun h4 => ?_) (fun h4 => ?_)
  · have h4' := h4
    first | replace h4' := of_decide_eq_true h4' | replace h4' := bnT' h4' | skip
    refine Lno (wanted_noB rfl rfl rfl h4 (by decide)) rfl ?_
    refine Lno (wanted_noB rfl rfl rfl h4 (by decide)) rfl ?_
    refine L0 (wanted_none rfl) rfl (y_pickT rfl rfl h4 rfl) ?_
    refine Lnil ?_
    refine W_condT rfl rfl ?_
    refine W_skip ?_
    refine W_seq ?_
    refine W_block ?_
    refine W_seq ?_
    by_cases hin : i < l.length
    · skip
      refine W_region ?_
      refine L0 (wanted_none rfl) rfl (y_move (v := Value.int _ _) rfl rfl) ?_
      refine L0 (wanted_none rfl) rfl (y_assign (v := Value.int _ _) rfl rfl) ?_
      refine Lnil ?_
      refine W_seq ?_
      refine W_seq ?_
      have hst : c + l.getD i 0 * x = stepN l x i c := by unfold stepN; rw [if_pos hin]
      have hmore : i < l.length ∨ 0 < c.toNat := .inl hin
      refine W_region ?_
      refine L0 (wanted_none rfl) rfl (y_move (v := Value.int _ _) rfl rfl) ?_
      refine L0 (wanted_none rfl) rfl (y_move (v := va) rfl rfl) ?_
      refine L0 (wanted_none rfl) rfl (y_slenSl rfl Tryd.underlying211 rfl hSa) ?_
      refine L0 (wanted_none rfl) rfl (y_lt rfl rfl rfl) ?_
      refine Lnil ?_
      refine Wkn (t := 23) (b0 := true) rfl (by exact decide_eq_true (by omega)) (fun h5 => ?_)
      refine W_condT rfl h5 ?_
      refine W_region ?_
      refine L0 (wanted_none rfl) rfl (y_move (v := Value.int _ _) rfl rfl) ?_
      refine L0 (wanted_none rfl) rfl (y_move (v := va) rfl rfl) ?_
      refine L0 (wanted_none rfl) rfl (y_move (v := Value.int _ _) rfl rfl) ?_
      refine L0 (wanted_none rfl) rfl (y_indexSlAt rfl Tryd.underlying211 sz122 rfl rfl hSa (by omega) (by omega)) ?_
      refine L1 (wanted_none rfl) rfl hs3 (y_loadSl i rfl Tryd.underlying122 rfl rfl hSa (by omega) (by omega) (fun k hk => hrow.keys_new k hk)) ?_
      refine L0 (wanted_none rfl) rfl (y_move (v := Value.int _ _) rfl rfl) ?_
      refine L0 (wanted_none rfl) rfl (y_mul64u rfl rfl rfl) ?_
      refine L0 (wanted_none rfl) rfl (y_add64u rfl rfl rfl) ?_
      refine L0 (wanted_none rfl) rfl (y_assign (v := Value.int _ _) rfl rfl) ?_
      refine Lnil ?_
      refine W_seq ?_
      rw [hst]
      refine W_region ?_
      refine L0 (wanted_none rfl) rfl (y_move (v := v) rfl rfl) ?_
      refine L0 (wanted_none rfl) rfl (y_move (v := Value.int _ _) rfl rfl) ?_
      refine L0 (wanted_none rfl) rfl (y_rem64u (q' := 65536) rfl rfl rfl (by decide)) ?_
      refine Lc (wanted_none rfl) (c_bs1 (v0 := qv _) hs3 rfl rfl Tryd.underlying211 sz122 zr122 rfl rfl (fun b6 w7 hbb6 hs8 => ?_))
      refine Lc (wanted_none rfl) (c_append (L0 := []) (ent := ent) hs8 hbb6 rfl rfl Tryd.underlying211 sz122 zr122 by122 rfl (by decide) rfl hrow rfl (by decide) rfl (by simp [Value.oneCell']) (by omega) (by omega) (fun v9 ent10 w11 hrow' hs12 => ?_))
      have hrow := hrow'
      refine L0 (wanted_none rfl) rfl (y_assign (v := v9) rfl rfl) ?_
      refine Lnil ?_
      refine W_region ?_
      refine L0 (wanted_none rfl) rfl (y_move (v := Value.int _ _) rfl rfl) ?_
      refine L0 (wanted_none rfl) rfl (y_quo64u (q' := 65536) rfl rfl rfl (by decide)) ?_
      refine L0 (wanted_none rfl) rfl (y_assign (v := Value.int _ _) rfl rfl) ?_
      refine Lnil ?_
      refine W_region ?_
      refine L0 (wanted_none rfl) rfl (y_move (v := Value.int _ _) rfl rfl) ?_
      refine L0 (wanted_none rfl) rfl (y_add64 rfl rfl rfl (by omega)) ?_
      refine L0 (wanted_none rfl) rfl (y_assign (v := Value.int _ _) rfl rfl) ?_
      refine Lnil ?_
      have hrow2 : Row w.heap.size 122 1 v9 (out ++ [stepN l x i c % 65536]).length ((out ++ [stepN l x i c % 65536]).map qv) ent10 := by
        rw [List.length_append, List.map_append]; exact hrow
      exact ⟨(i + 1, stepN l x i c / 65536, out ++ [stepN l x i c % 65536], _, _), by (try dsimp only); have := hB.more hmore; omega, _, A_c (iv_eq (by (try dsimp only); omega)) (A_c rfl (A_c rfl (A_c rfl (A_c rfl (rfl))))), hI.step hd hx, TimesB.step hI hB hd hx hmore, hrow2, hs12⟩
    · skip
      refine W_region ?_
      refine L0 (wanted_none rfl) rfl (y_move (v := Value.int _ _) rfl rfl) ?_
      refine L0 (wanted_none rfl) rfl (y_assign (v := Value.int _ _) rfl rfl) ?_
      refine Lnil ?_
      refine W_seq ?_
      refine W_seq ?_
      have hst : c = stepN l x i c := by unfold stepN; rw [if_neg hin]
      have hmore : i < l.length ∨ 0 < c.toNat := .inr (by have e0 : (0 : UInt64).toNat = 0 := rfl; omega)
      refine W_region ?_
      refine L0 (wanted_none rfl) rfl (y_move (v := Value.int _ _) rfl rfl) ?_
      refine L0 (wanted_none rfl) rfl (y_move (v := va) rfl rfl) ?_
      refine L0 (wanted_none rfl) rfl (y_slenSl rfl Tryd.underlying211 rfl hSa) ?_
      refine L0 (wanted_none rfl) rfl (y_lt rfl rfl rfl) ?_
      refine Lnil ?_
      refine Wkn (t := 23) (b0 := false) rfl (by exact decide_eq_false (by omega)) (fun h13 => ?_)
      refine W_condF rfl h13 ?_
      refine W_skip ?_
      refine W_seq ?_
      rw [show (8, qv c) = (8, qv (stepN l x i c)) from by rw [← hst]]
      refine W_region ?_
      refine L0 (wanted_none rfl) rfl (y_move (v := v) rfl rfl) ?_
      refine L0 (wanted_none rfl) rfl (y_move (v := Value.int _ _) rfl rfl) ?_
      refine L0 (wanted_none rfl) rfl (y_rem64u (q' := 65536) rfl rfl rfl (by decide)) ?_
      refine Lc (wanted_none rfl) (c_bs1 (v0 := qv _) hs3 rfl rfl Tryd.underlying211 sz122 zr122 rfl rfl (fun b14 w15 hbb14 hs16 => ?_))
      refine Lc (wanted_none rfl) (c_append (L0 := []) (ent := ent) hs16 hbb14 rfl rfl Tryd.underlying211 sz122 zr122 by122 rfl (by decide) rfl hrow rfl (by decide) rfl (by simp [Value.oneCell']) (by omega) (by omega) (fun v17 ent18 w19 hrow' hs20 => ?_))
      have hrow := hrow'
      refine L0 (wanted_none rfl) rfl (y_assign (v := v17) rfl rfl) ?_
      refine Lnil ?_
      refine W_region ?_
      refine L0 (wanted_none rfl) rfl (y_move (v := Value.int _ _) rfl rfl) ?_
      refine L0 (wanted_none rfl) rfl (y_quo64u (q' := 65536) rfl rfl rfl (by decide)) ?_
      refine L0 (wanted_none rfl) rfl (y_assign (v := Value.int _ _) rfl rfl) ?_
      refine Lnil ?_
      refine W_region ?_
      refine L0 (wanted_none rfl) rfl (y_move (v := Value.int _ _) rfl rfl) ?_
      refine L0 (wanted_none rfl) rfl (y_add64 rfl rfl rfl (by omega)) ?_
      refine L0 (wanted_none rfl) rfl (y_assign (v := Value.int _ _) rfl rfl) ?_
      refine Lnil ?_
      have hrow2 : Row w.heap.size 122 1 v17 (out ++ [stepN l x i c % 65536]).length ((out ++ [stepN l x i c % 65536]).map qv) ent18 := by
        rw [List.length_append, List.map_append]; exact hrow
      exact ⟨(i + 1, stepN l x i c / 65536, out ++ [stepN l x i c % 65536], _, _), by (try dsimp only); have := hB.more hmore; omega, _, A_c (iv_eq (by (try dsimp only); omega)) (A_c rfl (A_c rfl (A_c rfl (A_c rfl (rfl))))), hI.step hd hx, TimesB.step hI hB hd hx hmore, hrow2, hs20⟩
  · have h4' := h4
    first | replace h4' := of_decide_eq_false h4' | replace h4' := bnF' h4' | skip
    refine L0 (wanted_yesB rfl rfl rfl h4) rfl (y_move (v := Value.int _ _) rfl rfl) ?_
    refine L0 (wanted_yesB rfl rfl rfl h4) rfl (y_gt rfl rfl rfl) ?_
    refine L0 (wanted_none rfl) rfl (y_pickF rfl rfl h4 rfl) ?_
    refine Lnil ?_
    refine Wsp (t := 16) rfl (fun h21 => ?_) (fun h21 => ?_)
    · have h21' := h21
      first | replace h21' := of_decide_eq_true h21' | replace h21' := bnT' h21' | skip
      refine W_condT rfl h21 ?_
      refine W_skip ?_
      refine W_seq ?_
      refine W_block ?_
      refine W_seq ?_
      by_cases hin : i < l.length
      · skip
        refine W_region ?_
        refine L0 (wanted_none rfl) rfl (y_move (v := Value.int _ _) rfl rfl) ?_
        refine L0 (wanted_none rfl) rfl (y_assign (v := Value.int _ _) rfl rfl) ?_
        refine Lnil ?_
        refine W_seq ?_
        refine W_seq ?_
        have hst : c + l.getD i 0 * x = stepN l x i c := by unfold stepN; rw [if_pos hin]
        have hmore : i < l.length ∨ 0 < c.toNat := .inl hin
        refine W_region ?_
        refine L0 (wanted_none rfl) rfl (y_move (v := Value.int _ _) rfl rfl) ?_
        refine L0 (wanted_none rfl) rfl (y_move (v := va) rfl rfl) ?_
        refine L0 (wanted_none rfl) rfl (y_slenSl rfl Tryd.underlying211 rfl hSa) ?_
        refine L0 (wanted_none rfl) rfl (y_lt rfl rfl rfl) ?_
        refine Lnil ?_
        refine Wkn (t := 23) (b0 := true) rfl (by exact decide_eq_true (by omega)) (fun h22 => ?_)
        refine W_condT rfl h22 ?_
        refine W_region ?_
        refine L0 (wanted_none rfl) rfl (y_move (v := Value.int _ _) rfl rfl) ?_
        refine L0 (wanted_none rfl) rfl (y_move (v := va) rfl rfl) ?_
        refine L0 (wanted_none rfl) rfl (y_move (v := Value.int _ _) rfl rfl) ?_
        refine L0 (wanted_none rfl) rfl (y_indexSlAt rfl Tryd.underlying211 sz122 rfl rfl hSa (by omega) (by omega)) ?_
        refine L1 (wanted_none rfl) rfl hs3 (y_loadSl i rfl Tryd.underlying122 rfl rfl hSa (by omega) (by omega) (fun k hk => hrow.keys_new k hk)) ?_
        refine L0 (wanted_none rfl) rfl (y_move (v := Value.int _ _) rfl rfl) ?_
        refine L0 (wanted_none rfl) rfl (y_mul64u rfl rfl rfl) ?_
        refine L0 (wanted_none rfl) rfl (y_add64u rfl rfl rfl) ?_
        refine L0 (wanted_none rfl) rfl (y_assign (v := Value.int _ _) rfl rfl) ?_
        refine Lnil ?_
        refine W_seq ?_
        rw [hst]
        refine W_region ?_
        refine L0 (wanted_none rfl) rfl (y_move (v := v) rfl rfl) ?_
        refine L0 (wanted_none rfl) rfl (y_move (v := Value.int _ _) rfl rfl) ?_
        refine L0 (wanted_none rfl) rfl (y_rem64u (q' := 65536) rfl rfl rfl (by decide)) ?_
        refine Lc (wanted_none rfl) (c_bs1 (v0 := qv _) hs3 rfl rfl Tryd.underlying211 sz122 zr122 rfl rfl (fun b23 w24 hbb23 hs25 => ?_))
        refine Lc (wanted_none rfl) (c_append (L0 := []) (ent := ent) hs25 hbb23 rfl rfl Tryd.underlying211 sz122 zr122 by122 rfl (by decide) rfl hrow rfl (by decide) rfl (by simp [Value.oneCell']) (by omega) (by omega) (fun v26 ent27 w28 hrow' hs29 => ?_))
        have hrow := hrow'
        refine L0 (wanted_none rfl) rfl (y_assign (v := v26) rfl rfl) ?_
        refine Lnil ?_
        refine W_region ?_
        refine L0 (wanted_none rfl) rfl (y_move (v := Value.int _ _) rfl rfl) ?_
        refine L0 (wanted_none rfl) rfl (y_quo64u (q' := 65536) rfl rfl rfl (by decide)) ?_
        refine L0 (wanted_none rfl) rfl (y_assign (v := Value.int _ _) rfl rfl) ?_
        refine Lnil ?_
        refine W_region ?_
        refine L0 (wanted_none rfl) rfl (y_move (v := Value.int _ _) rfl rfl) ?_
        refine L0 (wanted_none rfl) rfl (y_add64 rfl rfl rfl (by omega)) ?_
        refine L0 (wanted_none rfl) rfl (y_assign (v := Value.int _ _) rfl rfl) ?_
        refine Lnil ?_
        have hrow2 : Row w.heap.size 122 1 v26 (out ++ [stepN l x i c % 65536]).length ((out ++ [stepN l x i c % 65536]).map qv) ent27 := by
          rw [List.length_append, List.map_append]; exact hrow
        exact ⟨(i + 1, stepN l x i c / 65536, out ++ [stepN l x i c % 65536], _, _), by (try dsimp only); have := hB.more hmore; omega, _, A_c (iv_eq (by (try dsimp only); omega)) (A_c rfl (A_c rfl (A_c rfl (A_c rfl (rfl))))), hI.step hd hx, TimesB.step hI hB hd hx hmore, hrow2, hs29⟩
      · skip
        refine W_region ?_
        refine L0 (wanted_none rfl) rfl (y_move (v := Value.int _ _) rfl rfl) ?_
        refine L0 (wanted_none rfl) rfl (y_assign (v := Value.int _ _) rfl rfl) ?_
        refine Lnil ?_
        refine W_seq ?_
        refine W_seq ?_
        have hst : c = stepN l x i c := by unfold stepN; rw [if_neg hin]
        have hmore : i < l.length ∨ 0 < c.toNat := .inr (by have e0 : (0 : UInt64).toNat = 0 := rfl; omega)
        refine W_region ?_
        refine L0 (wanted_none rfl) rfl (y_move (v := Value.int _ _) rfl rfl) ?_
        refine L0 (wanted_none rfl) rfl (y_move (v := va) rfl rfl) ?_
        refine L0 (wanted_none rfl) rfl (y_slenSl rfl Tryd.underlying211 rfl hSa) ?_
        refine L0 (wanted_none rfl) rfl (y_lt rfl rfl rfl) ?_
        refine Lnil ?_
        refine Wkn (t := 23) (b0 := false) rfl (by exact decide_eq_false (by omega)) (fun h30 => ?_)
        refine W_condF rfl h30 ?_
        refine W_skip ?_
        refine W_seq ?_
        rw [show (8, qv c) = (8, qv (stepN l x i c)) from by rw [← hst]]
        refine W_region ?_
        refine L0 (wanted_none rfl) rfl (y_move (v := v) rfl rfl) ?_
        refine L0 (wanted_none rfl) rfl (y_move (v := Value.int _ _) rfl rfl) ?_
        refine L0 (wanted_none rfl) rfl (y_rem64u (q' := 65536) rfl rfl rfl (by decide)) ?_
        refine Lc (wanted_none rfl) (c_bs1 (v0 := qv _) hs3 rfl rfl Tryd.underlying211 sz122 zr122 rfl rfl (fun b31 w32 hbb31 hs33 => ?_))
        refine Lc (wanted_none rfl) (c_append (L0 := []) (ent := ent) hs33 hbb31 rfl rfl Tryd.underlying211 sz122 zr122 by122 rfl (by decide) rfl hrow rfl (by decide) rfl (by simp [Value.oneCell']) (by omega) (by omega) (fun v34 ent35 w36 hrow' hs37 => ?_))
        have hrow := hrow'
        refine L0 (wanted_none rfl) rfl (y_assign (v := v34) rfl rfl) ?_
        refine Lnil ?_
        refine W_region ?_
        refine L0 (wanted_none rfl) rfl (y_move (v := Value.int _ _) rfl rfl) ?_
        refine L0 (wanted_none rfl) rfl (y_quo64u (q' := 65536) rfl rfl rfl (by decide)) ?_
        refine L0 (wanted_none rfl) rfl (y_assign (v := Value.int _ _) rfl rfl) ?_
        refine Lnil ?_
        refine W_region ?_
        refine L0 (wanted_none rfl) rfl (y_move (v := Value.int _ _) rfl rfl) ?_
        refine L0 (wanted_none rfl) rfl (y_add64 rfl rfl rfl (by omega)) ?_
        refine L0 (wanted_none rfl) rfl (y_assign (v := Value.int _ _) rfl rfl) ?_
        refine Lnil ?_
        have hrow2 : Row w.heap.size 122 1 v34 (out ++ [stepN l x i c % 65536]).length ((out ++ [stepN l x i c % 65536]).map qv) ent35 := by
          rw [List.length_append, List.map_append]; exact hrow
        exact ⟨(i + 1, stepN l x i c / 65536, out ++ [stepN l x i c % 65536], _, _), by (try dsimp only); have := hB.more hmore; omega, _, A_c (iv_eq (by (try dsimp only); omega)) (A_c rfl (A_c rfl (A_c rfl (A_c rfl (rfl))))), hI.step hd hx, TimesB.step hI hB hd hx hmore, hrow2, hs37⟩
    · have h21' := h21
      first | replace h21' := of_decide_eq_false h21' | replace h21' := bnF' h21' | skip
      refine W_condF rfl h21 ?_
      refine W_exit ?_
      refine W_seq ?_
      refine W_region ?_
      refine L0 (wanted_none rfl) rfl (y_move (v := v) rfl rfl) ?_
      refine L0 (wanted_none rfl) rfl (y_assign (v := v) rfl rfl) ?_
      refine Lnil ?_
      refine W_ret ?_
      refine fin1 (fn := Tryd.f152) rfl rfl ?_
      refine ⟨out, ent, hI.dg, hI.done (by omega) (by omega), by have := hI.len; omega, by have := hI.len; omega, hrow, hs3⟩
theorem one_digs : digs [1] := fun d hd => by rw [List.mem_singleton.1 hd]; decide
theorem row_one {B E : Nat} {b : Nat} {v : Value} (hB : B ≤ b) : Row B E 1 (.slice (some ⟨b, 0, none⟩) 1 1) 1 [v] [(b, .cells ⟨[v]⟩ E (0, 0))] :=
  Row.of_block (xs := [v]) hB (by simp)
theorem row_rep {B E : Nat} {b m : Nat} {v : Value} (hB : B ≤ b) (hm : m ≤ 9223372036854775807) : Row B E 1 (.slice (some ⟨b, 0, none⟩) m m) m (List.replicate m v) [(b, .cells ⟨List.replicate m v⟩ E (0, 0))] := by
  have h := Row.of_block (E := E) (xs := List.replicate m v) hB (by simpa using hm)
  simpa using h
set_option maxHeartbeats 1000000 in
theorem above_any (x p : UInt64) (k : Nat) (hk : k ≤ 3) (hx : x.toNat ≤ 1099511627776) (hp : p.toNat < 65536) (w : World) :
    C Tryd.prog 129 ⟨[qv x, iv k, qv p]⟩ w fun v w' => v = .bool (decide (p.toNat * 65536 ^ (2 * k) < x.toNat ^ k)) ∧ St w [] w' := by
  refine C_enter (n := 65) Tryd.func129 rfl rfl rfl (fun w1 hs1 => ?_)
  refine W_seq ?_
  refine W_region ?_
  refine L0 (wanted_none rfl) rfl (y_assign (v := Value.bool _) rfl rfl) ?_
  refine Lnil ?_
  refine W_seq ?_
  refine W_region ?_
  refine Lc (wanted_none rfl) (c_bs1 (v0 := qv 1) hs1 rfl rfl Tryd.underlying211 sz122 zr122 rfl rfl (fun b2 w3 hbb2 hs4 => ?_))
  have hrow1 : Row w.heap.size 122 1 (.slice (some ⟨b2, 0, none⟩) 1 1) 1 (([1] : List UInt64).map qv) [(b2, .cells ⟨[qv 1]⟩ 122 (0, 0))] := row_one hbb2
  refine L0 (wanted_none rfl) rfl (y_assign (v := Value.slice _ _ _) rfl rfl) ?_
  refine Lnil ?_
  refine W_seq ?_
  refine W_seq ?_
  refine W_region ?_
  refine L0 (wanted_none rfl) rfl (y_move (v := Value.int _ _) rfl rfl) ?_
  refine L0 (wanted_none rfl) rfl (y_move (v := Value.int _ _) rfl rfl) ?_
  refine Lnil ?_
  refine W_block ?_
  refine W_loop (G := Nat × List UInt64 × Value × Blocks) (fun g aL wl => ∃ e, aL = A 65 ((12, iv (g.1 : Int)) :: (11, iv k) :: (7, g.2.2.1) :: (0, qv x) :: (1, iv k) :: (2, qv p) :: e) ∧ g.1 ≤ k ∧ digs g.2.1 ∧ val g.2.1 = x.toNat ^ g.1 ∧ g.2.1.length ≤ 1 + 3 * g.1 ∧ 0 < g.2.1.length ∧ Row w.heap.size 122 1 g.2.2.1 g.2.1.length (g.2.1.map qv) g.2.2.2 ∧ St w g.2.2.2 wl) (fun g => k - g.1) ((0, [1], .slice (some ⟨b2, 0, none⟩) 1 1, [(b2, .cells ⟨[qv 1]⟩ 122 (0, 0))])) ?_ ?_
  · exact ⟨_, A_pins _ _ [12, 11, 7, 0, 1, 2], Nat.zero_le _, one_digs, rfl, by simp, by simp, hrow1, hs4⟩
  rintro g _ w5 ⟨ehs6, rfl, hi, hd, hv, hl, h0, hrow, hs6⟩
  obtain ⟨i, V, v, ent⟩ := g
  dsimp only at *
  refine W_seq ?_
  refine W_region ?_
  refine L0 (wanted_none rfl) rfl (y_lt rfl rfl rfl) ?_
  refine Lnil ?_
  refine W_seq ?_
  refine Wsp (t := 13) rfl (fun h7 => ?_) (fun h7 => ?_)
  · have h7' := h7
    first | replace h7' := of_decide_eq_true h7' | replace h7' := bnT' h7' | skip
    refine W_condT rfl h7 ?_
    refine W_skip ?_
    refine W_seq ?_
    refine W_block ?_
    refine W_region ?_
    refine L0 (wanted_none rfl) rfl (y_move (v := v) rfl rfl) ?_
    refine L0 (wanted_none rfl) rfl (y_move (v := Value.int _ _) rfl rfl) ?_
    refine Lc (wanted_none rfl) (c_call rfl rfl rfl Tryd.func152 (by kernel_rfl) rfl (times_any V x v (by omega) hd hx w5 (hrow.sl hs6 (fun _ h => h) 0)) rfl ?_)
    rintro vT w8 ⟨V2, entT, hd2, hv2, hl2, hg2, hrow2, hc9⟩
    have hrow20 := hrow2
    replace hrow2 := hrow2.weaken hs6.size
    have hs10 := (hs6.call_new hc9 (fun k hk => hrow20.keys_new k hk)).dropR (fun x hx => hrow.new x hx)
    refine L0 (wanted_none rfl) rfl (y_assign (v := vT) rfl rfl) ?_
    refine Lnil ?_
    refine W_region ?_
    refine L0 (wanted_none rfl) rfl (y_add64 rfl rfl rfl (by omega)) ?_
    refine L0 (wanted_none rfl) rfl (y_move (v := Value.int _ _) rfl rfl) ?_
    refine Lnil ?_
    exact ⟨(i + 1, V2, vT, entT), by (try dsimp only); omega, _, A_c (iv_eq (by (try dsimp only); omega)) (A_c rfl (A_c rfl (A_c rfl (A_c rfl (A_c rfl (rfl)))))), by (dsimp only); omega, hd2, by (dsimp only); rw [hv2, hv, Nat.pow_succ], by (dsimp only); omega, by (dsimp only); omega, hrow2, hs10⟩
  · have h7' := h7
    first | replace h7' := of_decide_eq_false h7' | replace h7' := bnF' h7' | skip
    refine W_condF rfl h7 ?_
    refine W_exit ?_
    refine W_seq ?_
    obtain rfl : i = k := by omega
    refine W_region ?_
    refine L0 (wanted_none rfl) rfl (y_move (v := Value.int _ _) rfl rfl) ?_
    refine L0 (wanted_none rfl) rfl (y_mul64 rfl rfl rfl (by omega)) ?_
    refine Lc (wanted_none rfl) (c_makeSlice (2 * i) hs6 rfl rfl Tryd.underlying211 sz122 zr122 by122 rfl rfl rfl (by omega) (by omega) (by omega) (fun b11 w12 hbb11 hs13 => ?_))
    refine L0 (wanted_none rfl) rfl (y_move (v := Value.int _ _) rfl rfl) ?_
    refine Lc (wanted_none rfl) (c_bs1 (v0 := qv p) hs13 rfl rfl Tryd.underlying211 sz122 zr122 rfl rfl (fun b14 w15 hbb14 hs16 => ?_))
    refine Lc (wanted_none rfl) (c_appendG (L0 := (b14, .cells ⟨[qv p]⟩ 122 (0, 0)) :: ent) (ent := [(b11, .cells ⟨List.replicate (2 * i) (Value.int .u64 0)⟩ 122 (0, 0))]) hs16 ((List.perm_append_comm (l₁ := [_])).cons _) rfl rfl Tryd.underlying211 sz122 zr122 by122 rfl rfl (row_rep hbb11 (by omega)) (Nat.le_refl _) (fun x hx => by rw [List.mem_singleton.1 hx]; exact .inl hbb11) rfl (Src.ofBlock (kk := 1) (hs16.get 0 rfl) rfl) (by simp [Value.oneCell']) (by omega) (by omega) (fun vW entW w17 hrowW0' hn19 hs18 => ?_))
    have hrowW0 := hrowW0'
    have hnew_hrowW0 := hn19
    have hrowW : Row w.heap.size 122 1 vW (2 * i + 1) ((List.replicate (2 * i) 0 ++ [p]).map qv) entW := by
      rw [List.map_append, List.map_replicate]; exact hrowW0
    replace hs18 := St.drop (L := ent ++ entW) hs18 (.inl hbb14)
    refine L0 (wanted_none rfl) rfl (y_assign (v := vW) rfl rfl) ?_
    refine Lnil ?_
    refine W_seq ?_
    refine W_block ?_
    refine W_loop (G := List UInt64 × Value × Blocks) (fun g aL wl => ∃ e, aL = A 65 ((7, g.2.1) :: (8, vW) :: (0, qv x) :: (1, iv i) :: (2, qv p) :: e) ∧ digs g.1 ∧ val g.1 = x.toNat ^ i ∧ g.1.length ≤ 16 ∧ Row w.heap.size 122 1 g.2.1 g.1.length (g.1.map qv) g.2.2 ∧ St w (g.2.2 ++ entW) wl) (fun g => 2 * i + 1 - g.1.length) ((V, v, ent)) ?_ ?_
    · exact ⟨_, A_pins _ _ [7, 8, 0, 1, 2], hd, hv, by (dsimp only); omega, hrow, hs18⟩
    rintro g _ w20 ⟨ehs21, rfl, hd, hv, hl, hrow, hs21⟩
    skip
    obtain ⟨V, v, ent⟩ := g
    dsimp only at *
    refine W_seq ?_
    refine W_seq ?_
    refine W_region ?_
    refine L0 (wanted_none rfl) rfl (y_move (v := v) rfl rfl) ?_
    refine L0 (wanted_none rfl) rfl (y_slenRow rfl Tryd.underlying211 rfl hrow) ?_
    refine L0 (wanted_none rfl) rfl (y_move (v := vW) rfl rfl) ?_
    refine L0 (wanted_none rfl) rfl (y_slenRow rfl Tryd.underlying211 rfl hrowW) ?_
    refine L0 (wanted_none rfl) rfl (y_lt rfl rfl rfl) ?_
    refine Lnil ?_
    refine Wsp (t := 28) rfl (fun h22 => ?_) (fun h22 => ?_)
    · have h22' := h22
      first | replace h22' := of_decide_eq_true h22' | replace h22' := bnT' h22' | skip
      refine W_condT rfl h22 ?_
      refine W_skip ?_
      refine W_block ?_
      refine W_region ?_
      refine L0 (wanted_none rfl) rfl (y_move (v := v) rfl rfl) ?_
      refine Lc (wanted_none rfl) (c_bs1 (v0 := qv 0) hs21 rfl rfl Tryd.underlying211 sz122 zr122 rfl rfl (fun b23 w24 hbb23 hs25 => ?_))
      refine Lc (wanted_none rfl) (c_appendG (L0 := (b23, .cells ⟨[qv 0]⟩ 122 (0, 0)) :: entW) (ent := ent) hs25 (List.perm_append_comm.cons _) rfl rfl Tryd.underlying211 sz122 zr122 by122 rfl rfl hrow (Nat.le_refl _) (fun x hx => .inl (hrow.new x hx)) rfl (Src.ofBlock (kk := 1) (hs25.get 0 rfl) rfl) (by simp [Value.oneCell']) (by omega) (by omega) (fun vP entP w26 hrow2' hn28 hs27 => ?_))
      have hrow2 := hrow2'
      have hnew_hrow2 := hn28
      replace hs27 := (St.drop (L := entW ++ entP) hs27 (.inl hbb23)).swap
      refine L0 (wanted_none rfl) rfl (y_assign (v := vP) rfl rfl) ?_
      refine Lnil ?_
      exact ⟨(V ++ [0], vP, entP), by (dsimp only); rw [List.length_append]; simp only [List.length_cons, List.length_nil]; omega, _, A_c rfl (A_c rfl (A_c rfl (A_c rfl (A_c rfl (rfl))))), digs_append hd (digs_zeros 1), by rw [val_append]; simpa [val] using hv, by (dsimp only); rw [List.length_append]; simp only [List.length_cons, List.length_nil]; omega, by (dsimp only); rw [List.map_append, List.length_append]; exact hrow2, hs27⟩
    · have h22' := h22
      first | replace h22' := of_decide_eq_false h22' | replace h22' := bnF' h22' | skip
      refine W_condF rfl h22 ?_
      refine W_exit ?_
      refine W_seq ?_
      refine W_block ?_
      have hdW0 : digs (List.replicate (2 * i) 0 ++ [p]) := digs_append (digs_zeros _) (fun d hd => by rw [List.mem_singleton.1 hd]; exact hp)
      have hvW0 : val (List.replicate (2 * i) 0 ++ [p]) = p.toNat * 65536 ^ (2 * i) := by rw [val_append, val_zeros, List.length_replicate]; simp [val, Nat.mul_comm]
      have hlW0 : (List.replicate (2 * i) (0 : UInt64) ++ [p]).length = 2 * i + 1 := by simp
      rw [← hlW0] at hrowW
      refine W_loop (G := List UInt64 × Value × Blocks) (fun g aL wl => ∃ e, aL = A 65 ((7, v) :: (8, g.2.1) :: (0, qv x) :: (1, iv i) :: (2, qv p) :: e) ∧ digs g.1 ∧ val g.1 = p.toNat * 65536 ^ (2 * i) ∧ g.1.length ≤ V.length ∧ 0 < g.1.length ∧ Row w.heap.size 122 1 g.2.1 g.1.length (g.1.map qv) g.2.2 ∧ St w (ent ++ g.2.2) wl) (fun g => V.length - g.1.length) ((List.replicate (2 * i) 0 ++ [p], vW, entW)) ?_ ?_
      · exact ⟨_, A_pins _ _ [7, 8, 0, 1, 2], hdW0, hvW0, by (dsimp only); omega, by (dsimp only); omega, hrowW, hs21⟩
      rintro g _ w29 ⟨ehs30, rfl, hdW, hvW, hlW, h0W, hrowW, hs30⟩
      obtain ⟨W, vW, entW⟩ := g
      dsimp only at *
      refine W_seq ?_
      refine W_seq ?_
      refine W_region ?_
      refine L0 (wanted_none rfl) rfl (y_move (v := vW) rfl rfl) ?_
      refine L0 (wanted_none rfl) rfl (y_slenRow rfl Tryd.underlying211 rfl hrowW) ?_
      refine L0 (wanted_none rfl) rfl (y_move (v := v) rfl rfl) ?_
      refine L0 (wanted_none rfl) rfl (y_slenRow rfl Tryd.underlying211 rfl hrow) ?_
      refine L0 (wanted_none rfl) rfl (y_lt rfl rfl rfl) ?_
      refine Lnil ?_
      refine Wsp (t := 36) rfl (fun h31 => ?_) (fun h31 => ?_)
      · have h31' := h31
        first | replace h31' := of_decide_eq_true h31' | replace h31' := bnT' h31' | skip
        refine W_condT rfl h31 ?_
        refine W_skip ?_
        refine W_block ?_
        refine W_region ?_
        refine L0 (wanted_none rfl) rfl (y_move (v := vW) rfl rfl) ?_
        refine Lc (wanted_none rfl) (c_bs1 (v0 := qv 0) hs30 rfl rfl Tryd.underlying211 sz122 zr122 rfl rfl (fun b32 w33 hbb32 hs34 => ?_))
        refine Lc (wanted_none rfl) (c_appendG (L0 := (b32, .cells ⟨[qv 0]⟩ 122 (0, 0)) :: ent) (ent := entW) hs34 (List.Perm.refl _) rfl rfl Tryd.underlying211 sz122 zr122 by122 rfl rfl hrowW (Nat.le_refl _) (fun x hx => .inl (hrowW.new x hx)) rfl (Src.ofBlock (kk := 1) (hs34.get 0 rfl) rfl) (by simp [Value.oneCell']) (by omega) (by omega) (fun vP entP w35 hrow2' hn37 hs36 => ?_))
        have hrow2 := hrow2'
        have hnew_hrow2 := hn37
        replace hs36 := (St.drop (L := ent ++ entP) hs36 (.inl hbb32))
        refine L0 (wanted_none rfl) rfl (y_assign (v := vP) rfl rfl) ?_
        refine Lnil ?_
        exact ⟨(W ++ [0], vP, entP), by (dsimp only); rw [List.length_append]; simp only [List.length_cons, List.length_nil]; omega, _, A_c rfl (A_c rfl (A_c rfl (A_c rfl (A_c rfl (rfl))))), digs_append hdW (digs_zeros 1), by rw [val_append]; simpa [val] using hvW, by (dsimp only); rw [List.length_append]; simp only [List.length_cons, List.length_nil]; omega, by (dsimp only); rw [List.length_append]; simp only [List.length_cons, List.length_nil]; omega, by (dsimp only); rw [List.map_append, List.length_append]; exact hrow2, hs36⟩
      · have h31' := h31
        first | replace h31' := of_decide_eq_false h31' | replace h31' := bnF' h31' | skip
        refine W_condF rfl h31 ?_
        refine W_exit ?_
        refine W_seq ?_
        refine W_seq ?_
        have hWV : W.length = V.length := by omega
        obtain ⟨gv, capv, curv, fzv, rfl, rfl, hgv, hlv, hfv, hmv, hcv⟩ := row_block hrow (by omega) 0
        obtain ⟨gw, capw, curw, fzw, rfl, rfl, hgw, hlw, hfw, hmw, hcw⟩ := row_block hrowW (by omega) 0
        refine W_region ?_
        refine L0 (wanted_none rfl) rfl (y_move (v := Value.slice _ _ _) rfl rfl) ?_
        refine L0 (wanted_none rfl) rfl (y_slenRow rfl Tryd.underlying211 rfl hrow) ?_
        refine L0 (wanted_none rfl) rfl (y_sub64 rfl rfl rfl (by omega)) ?_
        refine L0 (wanted_none rfl) rfl (y_assign (v := Value.int _ _) rfl rfl) ?_
        refine Lnil ?_
        refine W_block ?_
        refine W_loop (G := Nat) (fun n aL wl => ∃ e, aL = A 65 ((9, iv ((n : Int) - 1)) :: (7, .slice (some ⟨gv, 0, none⟩) V.length capv) :: (8, .slice (some ⟨gw, 0, none⟩) W.length capw) :: e) ∧ n ≤ V.length ∧ V.drop n = W.drop n ∧ St w [(gv, .cells curv 122 fzv), (gw, .cells curw 122 fzw)] wl) (fun n => n) (V.length) ?_ ?_
        · exact ⟨_, A_pins _ _ [9, 7, 8], Nat.le_refl _, by rw [List.drop_length, ← hWV, List.drop_length], hs30⟩
        rintro n _ w38 ⟨ehs39, rfl, hj, hdr, hs39⟩
        refine W_seq ?_
        refine W_seq ?_
        refine W_region ?_
        refine L0 (wanted_none rfl) rfl (y_move (v := Value.int _ _) rfl rfl) ?_
        refine L0 (wanted_none rfl) rfl (y_ge rfl rfl rfl) ?_
        refine Lnil ?_
        refine Wsp (t := 44) rfl (fun h40 => ?_) (fun h40 => ?_)
        · have h40' := h40
          first | replace h40' := of_decide_eq_true h40' | replace h40' := bnT' h40' | skip
          refine W_condT rfl h40 ?_
          refine W_skip ?_
          refine W_seq ?_
          refine W_block ?_
          refine W_seq ?_
          obtain ⟨i, rfl⟩ : ∃ i : Nat, n = i + 1 := ⟨n - 1, by omega⟩
          rw [show (((i + 1 : Nat) : Int) - 1) = (i : Int) from by omega]
          have hiV : i < V.length := by omega
          refine W_drawSt [(0, 0), (0, 1), (0, 4), (0, 5), (0, 2), (0, 6), (1, 3), (1, 7), (0, 8)] hs39 mixed (by kernel_rfl) (fun w41 hs42 => ?_)
          refine E0 (wanted_none rfl) rfl (y_move (v := Value.slice _ _ _) rfl rfl) ?_
          refine E0 (wanted_none rfl) rfl (y_move (v := Value.int _ _) rfl rfl) ?_
          refine E0 (wanted_none rfl) rfl (y_move (v := Value.slice _ _ _) rfl rfl) ?_
          refine E0 (wanted_none rfl) rfl (y_move (v := Value.int _ _) rfl rfl) ?_
          refine E0 (wanted_none rfl) rfl (y_indexSl rfl Tryd.underlying211 sz122 rfl rfl (by omega) (by omega)) ?_
          refine E0 (wanted_none rfl) rfl (y_indexSl rfl Tryd.underlying211 sz122 rfl rfl (by omega) (by omega)) ?_
          refine E1 hs42 (wanted_none rfl) rfl (y_load 0 rfl Tryd.underlying122 rfl rfl rfl (by rw [ix1]; exact hcv _ (by omega))) ?_
          refine E1 hs42 (wanted_none rfl) rfl (y_load 1 rfl Tryd.underlying122 rfl rfl rfl (by rw [ix1]; exact hcw _ (by omega))) ?_
          refine E0 (wanted_none rfl) rfl (y_ne rfl rfl rfl) ?_
          refine Enil ?_
          refine Wsp (t := 55) rfl (fun h43 => ?_) (fun h43 => ?_)
          · have h43' := h43
            first | replace h43' := of_decide_eq_true h43' | replace h43' := bnT' h43' | skip
            refine W_condT rfl h43 ?_
            refine W_seq ?_
            refine W_drawSt [(0, 0), (0, 1), (0, 4), (0, 5), (0, 2), (0, 6), (1, 3), (1, 7), (0, 8), (0, 9)] hs42 mixed (by kernel_rfl) (fun w44 hs45 => ?_)
            refine E0 (wanted_none rfl) rfl (y_move (v := Value.slice _ _ _) rfl rfl) ?_
            refine E0 (wanted_none rfl) rfl (y_move (v := Value.int _ _) rfl rfl) ?_
            refine E0 (wanted_none rfl) rfl (y_move (v := Value.slice _ _ _) rfl rfl) ?_
            refine E0 (wanted_none rfl) rfl (y_move (v := Value.int _ _) rfl rfl) ?_
            refine E0 (wanted_none rfl) rfl (y_indexSl rfl Tryd.underlying211 sz122 rfl rfl (by omega) (by omega)) ?_
            refine E0 (wanted_none rfl) rfl (y_indexSl rfl Tryd.underlying211 sz122 rfl rfl (by omega) (by omega)) ?_
            refine E1 hs45 (wanted_none rfl) rfl (y_load 0 rfl Tryd.underlying122 rfl rfl rfl (by rw [ix1]; exact hcv _ (by omega))) ?_
            refine E1 hs45 (wanted_none rfl) rfl (y_load 1 rfl Tryd.underlying122 rfl rfl rfl (by rw [ix1]; exact hcw _ (by omega))) ?_
            refine E0 (wanted_none rfl) rfl (y_gt rfl rfl rfl) ?_
            refine E0 (wanted_none rfl) rfl (y_assign (v := Value.bool _) rfl rfl) ?_
            refine Enil ?_
            refine W_ret ?_
            refine fin1 (fn := Tryd.f129) rfl rfl ?_
            have hne : V.getD i 0 ≠ W.getD i 0 := fun he => by
              have h43 : ¬ ((V.getD i 0).toNat : Int) = (W.getD i 0).toNat := by assumption
              exact h43 (by rw [he])
            have hab := above_at hd hdW hWV.symm hiV hdr hne
            rw [hv, hvW, UInt64.lt_iff_toNat_lt] at hab
            refine ⟨congrArg Value.bool ?_, (hs45.drop (.inl hgv)).drop (.inl hgw)⟩
            rw [Bool.eq_iff_iff, decide_eq_true_iff, decide_eq_true_iff, ← hab]; omega
          · have h43' := h43
            first | replace h43' := of_decide_eq_false h43' | replace h43' := bnF' h43' | skip
            refine W_condF rfl h43 ?_
            refine W_skip ?_
            refine W_region ?_
            refine L0 (wanted_none rfl) rfl (y_move (v := Value.int _ _) rfl rfl) ?_
            refine L0 (wanted_none rfl) rfl (y_sub64 rfl rfl rfl (by omega)) ?_
            refine L0 (wanted_none rfl) rfl (y_assign (v := Value.int _ _) rfl rfl) ?_
            refine Lnil ?_
            have hdr2 : V.drop i = W.drop i := by
              refine drop_succ_eq hWV.symm hiV hdr ?_
              apply UInt64.toNat_inj.1
              omega
            exact ⟨i, by (try dsimp only); omega, _, A_c rfl (A_c rfl (A_c rfl (rfl))), by omega, hdr2, hs42⟩
        · have h40' := h40
          first | replace h40' := of_decide_eq_false h40' | replace h40' := bnF' h40' | skip
          refine W_condF rfl h40 ?_
          refine W_exit ?_
          refine W_seq ?_
          refine W_region ?_
          refine L0 (wanted_none rfl) rfl (y_assign (v := Value.bool _) rfl rfl) ?_
          refine Lnil ?_
          refine W_ret ?_
          refine fin1 (fn := Tryd.f129) rfl rfl ?_
          obtain rfl : n = 0 := by omega
          rw [List.drop_zero, List.drop_zero] at hdr
          refine ⟨congrArg Value.bool ?_, (hs39.drop (.inl hgv)).drop (.inl hgw)⟩
          rw [← hv, ← hvW, hdr]; simp
theorem above_nat (x p : UInt64) (k : Nat) (hk : k ≤ 3) (hx : x.toNat ≤ 1099511627776) (hp : p.toNat < 65536) (w : World) :
    C Tryd.prog 129 ⟨[qv x, iv k, qv p]⟩ w fun v w' => v = .bool (decide (p.toNat * 65536 ^ (2 * k) < x.toNat ^ k)) ∧ St w [] w' := above_any x p k hk hx hp w
theorem mid_nat {a b : UInt64} (ha : a.toNat ≤ 1099511627776) (hb : b.toNat ≤ 1099511627776) : ((a + b) / 2).toNat = (a.toNat + b.toNat) / 2 := by
  have e : (2 : UInt64).toNat = 2 := rfl
  rw [UInt64.toNat_div, UInt64.toNat_add, e, Nat.mod_eq_of_lt (by omega)]
theorem root_any (p : UInt64) (k : Nat) (h2 : 2 ≤ k) (hk : k ≤ 3) (hp : p.toNat < 65536) (w : World) :
    C Tryd.prog 81 ⟨[qv p, iv k]⟩ w fun v w' => (∃ x, v = uv x ∧ isRoot p.toNat k x) ∧ St w [] w' := by
  have hbig : p.toNat * 65536 ^ (2 * k) < 1099511627776 ^ k := by
    have h : k = 2 ∨ k = 3 := by omega
    rcases h with rfl | rfl <;> omega
  refine C_enter (n := 24) Tryd.func81 rfl rfl rfl (fun w1 hs1 => ?_)
  refine W_seq ?_
  refine W_region ?_
  refine L0 (wanted_none rfl) rfl (y_assign (v := Value.int _ _) rfl rfl) ?_
  refine Lnil ?_
  refine W_seq ?_
  refine W_region ?_
  refine L0 (wanted_none rfl) rfl (y_assign (v := Value.int _ _) rfl rfl) ?_
  refine L0 (wanted_none rfl) rfl (y_assign (v := Value.int _ _) rfl rfl) ?_
  refine Lnil ?_
  refine W_seq ?_
  refine W_block ?_
  refine W_loop (G := UInt64 × UInt64) (fun g aL wl => ∃ e, aL = A 24 ((5, qv g.1) :: (6, qv g.2) :: (0, qv p) :: (1, iv k) :: e) ∧ g.1.toNat < g.2.toNat ∧ g.2.toNat ≤ 1099511627776 ∧ g.1.toNat ^ k ≤ p.toNat * 65536 ^ (2 * k) ∧ p.toNat * 65536 ^ (2 * k) < g.2.toNat ^ k ∧ St w [] wl) (fun g => g.2.toNat - g.1.toNat) ((0, 1099511627776)) ?_ ?_
  · exact ⟨_, A_pins _ _ [5, 6, 0, 1], by decide, by decide, by (show (0 : Nat) ^ k ≤ _); rw [Nat.zero_pow (by omega)]; exact Nat.zero_le _, hbig, hs1⟩
  rintro g _ w2 ⟨ehs3, rfl, hlt, hhi, hlo, hup, hs3⟩
  obtain ⟨a, b⟩ := g
  dsimp only at *
  have hmid := mid_nat (a := a) (b := b) (by omega) (by omega)
  have e1 : (1 : UInt64).toNat = 1 := rfl
  have ha1 : (a + 1).toNat = a.toNat + 1 := by rw [UInt64.toNat_add, e1, Nat.mod_eq_of_lt (by omega)]
  refine W_seq ?_
  refine W_seq ?_
  refine W_region ?_
  refine L0 (wanted_none rfl) rfl (y_move (v := Value.int _ _) rfl rfl) ?_
  refine L0 (wanted_none rfl) rfl (y_add64u (q' := 1) rfl rfl rfl) ?_
  refine L0 (wanted_none rfl) rfl (y_move (v := Value.int _ _) rfl rfl) ?_
  refine L0 (wanted_none rfl) rfl (y_lt rfl rfl rfl) ?_
  refine Lnil ?_
  refine Wsp (t := 11) rfl (fun h4 => ?_) (fun h4 => ?_)
  · have h4' := h4
    first | replace h4' := of_decide_eq_true h4' | replace h4' := bnT' h4' | skip
    refine W_condT rfl h4 ?_
    refine W_skip ?_
    refine W_block ?_
    refine W_seq ?_
    by_cases hab : p.toNat * 65536 ^ (2 * k) < ((a + b) / 2).toNat ^ k
    · skip
      refine W_region ?_
      refine L0 (wanted_none rfl) rfl (y_move (v := Value.int _ _) rfl rfl) ?_
      refine L0 (wanted_none rfl) rfl (y_move (v := Value.int _ _) rfl rfl) ?_
      refine L0 (wanted_none rfl) rfl (y_add64u rfl rfl rfl) ?_
      refine L0 (wanted_none rfl) rfl (y_quo64u (q' := 2) rfl rfl rfl (by decide)) ?_
      refine L0 (wanted_none rfl) rfl (y_assign (v := Value.int _ _) rfl rfl) ?_
      refine Lnil ?_
      refine W_seq ?_
      refine W_region ?_
      refine L0 (wanted_none rfl) rfl (y_move (v := Value.int _ _) rfl rfl) ?_
      refine L0 (wanted_none rfl) rfl (y_move (v := Value.int _ _) rfl rfl) ?_
      refine L0 (wanted_none rfl) rfl (y_move (v := Value.int _ _) rfl rfl) ?_
      refine Lc (wanted_none rfl) (c_call rfl rfl rfl Tryd.func129 (by kernel_rfl) rfl (above_any ((a + b) / 2) p k hk (by omega) hp w2) rfl ?_)
      rintro _ w5 ⟨rfl, hc6⟩
      have hs7 := hs3.call0 hc6
      refine Lnil ?_
      refine Wkn (t := 19) (b0 := true) rfl (by exact decide_eq_true hab) (fun h8 => ?_)
      refine W_condT rfl h8 ?_
      refine W_region ?_
      refine L0 (wanted_none rfl) rfl (y_move (v := Value.int _ _) rfl rfl) ?_
      refine L0 (wanted_none rfl) rfl (y_assign (v := Value.int _ _) rfl rfl) ?_
      refine Lnil ?_
      exact ⟨(a, (a + b) / 2), by (dsimp only); omega, _, A_c rfl (A_c rfl (A_c rfl (A_c rfl (rfl)))), by (dsimp only); omega, by (dsimp only); omega, hlo, hab, hs7⟩
    · skip
      refine W_region ?_
      refine L0 (wanted_none rfl) rfl (y_move (v := Value.int _ _) rfl rfl) ?_
      refine L0 (wanted_none rfl) rfl (y_move (v := Value.int _ _) rfl rfl) ?_
      refine L0 (wanted_none rfl) rfl (y_add64u rfl rfl rfl) ?_
      refine L0 (wanted_none rfl) rfl (y_quo64u (q' := 2) rfl rfl rfl (by decide)) ?_
      refine L0 (wanted_none rfl) rfl (y_assign (v := Value.int _ _) rfl rfl) ?_
      refine Lnil ?_
      refine W_seq ?_
      refine W_region ?_
      refine L0 (wanted_none rfl) rfl (y_move (v := Value.int _ _) rfl rfl) ?_
      refine L0 (wanted_none rfl) rfl (y_move (v := Value.int _ _) rfl rfl) ?_
      refine L0 (wanted_none rfl) rfl (y_move (v := Value.int _ _) rfl rfl) ?_
      refine Lc (wanted_none rfl) (c_call rfl rfl rfl Tryd.func129 (by kernel_rfl) rfl (above_any ((a + b) / 2) p k hk (by omega) hp w2) rfl ?_)
      rintro _ w9 ⟨rfl, hc10⟩
      have hs11 := hs3.call0 hc10
      refine Lnil ?_
      refine Wkn (t := 19) (b0 := false) rfl (by exact decide_eq_false hab) (fun h12 => ?_)
      refine W_condF rfl h12 ?_
      refine W_region ?_
      refine L0 (wanted_none rfl) rfl (y_move (v := Value.int _ _) rfl rfl) ?_
      refine L0 (wanted_none rfl) rfl (y_assign (v := Value.int _ _) rfl rfl) ?_
      refine Lnil ?_
      exact ⟨((a + b) / 2, b), by (dsimp only); omega, _, A_c rfl (A_c rfl (A_c rfl (A_c rfl (rfl)))), by (dsimp only); omega, hhi, by (dsimp only); omega, hup, hs11⟩
  · have h4' := h4
    first | replace h4' := of_decide_eq_false h4' | replace h4' := bnF' h4' | skip
    refine W_condF rfl h4 ?_
    refine W_exit ?_
    refine W_seq ?_
    refine W_region ?_
    refine L0 (wanted_none rfl) rfl (y_move (v := Value.int _ _) rfl rfl) ?_
    refine L0 (wanted_none rfl) rfl (y_c64to32 rfl Tryd.underlying122 Tryd.underlying123 rfl) ?_
    refine L0 (wanted_none rfl) rfl (y_assign (v := Value.int _ _) rfl rfl) ?_
    refine Lnil ?_
    refine W_ret ?_
    refine fin1 (fn := Tryd.f81) rfl rfl ?_
    have hb1 : b.toNat = a.toNat + 1 := by omega
    rw [hb1] at hup
    refine ⟨⟨_, rfl, a.toNat, ?_, hlo, hup⟩, hs3⟩
    apply UInt32.toNat_inj.1
    rw [UInt64.toNat_toUInt32, UInt32.toNat_ofNat']
end Go.Proofs.YtkolfgmpmnelmabDoor
