/-
  Walk: keep.SpaceFits, and its plain law.
-/
import Derived.Test.YtkolfgmpmnelmaaX7
namespace Go.Proofs.Ytkolfgmpmnelmaa
open Go Vx Go.Proofs
set_option linter.unusedVariables false
set_option maxRecDepth 4000
set_option maxHeartbeats 400000

def skipOf (l : List Int) (but : Int) : Nat → Int
  | 0 => 0
  | i + 1 => skipOf l but i + if (i : Int) = but then 0 else max (16 - max (l.getD i 0) 0) 0
theorem free_skip (l : List Int) (but : Int) : ∀ n : Nat, freeOf l n = skipOf l but n + if 0 ≤ but ∧ but < n then max (16 - max (l.getD but.toNat 0) 0) 0 else 0
  | 0 => by simp [freeOf, skipOf]; omega
  | i + 1 => by
    rw [freeOf, skipOf, free_skip l but i]
    by_cases h : (i : Int) = but
    · subst h
      rw [if_neg (by omega), if_pos rfl, if_pos (by omega), Int.toNat_natCast]; try omega
    · rw [if_neg h]
      by_cases h2 : 0 ≤ but ∧ but < i
      · rw [if_pos h2, if_pos (by omega)]; omega
      · rw [if_neg h2, if_neg (by omega)]; omega
theorem skip_nonneg (l : List Int) (but : Int) : ∀ n, 0 ≤ skipOf l but n
  | 0 => Int.le_refl _
  | i + 1 => by have := skip_nonneg l but i; rw [skipOf]; split <;> omega
theorem skip_pos (l : List Int) (but : Int) : ∀ n : Nat, 0 < skipOf l but n ↔ ∃ i, i < n ∧ l.getD i 0 < 16 ∧ (i : Int) ≠ but
  | 0 => by simp [skipOf]
  | n + 1 => by
    have ih := skip_pos l but n
    have h0 := skip_nonneg l but n
    constructor
    · intro h
      rw [skipOf] at h
      by_cases h1 : 0 < skipOf l but n
      · obtain ⟨i, a, b, c⟩ := ih.1 h1; exact ⟨i, by omega, b, c⟩
      · refine ⟨n, by omega, ?_, ?_⟩
        · split at h <;> omega
        · intro h2; rw [if_pos h2] at h; omega
    · rintro ⟨i, a, b, c⟩
      rw [skipOf]
      by_cases h1 : i < n
      · have := ih.2 ⟨i, h1, b, c⟩; split <;> omega
      · obtain rfl : i = n := by omega
        rw [if_neg c]; omega
theorem openF_spec (l : List Int) (but : Int) : ∀ k i : Nat, (∃ j, i ≤ j ∧ j < i + k ∧ l.getD j 0 < 16 ∧ (j : Int) ≠ but ∧ openF l but i k = ((j : Int), true)) ∨ ((∀ j, i ≤ j → j < i + k → ¬ (l.getD j 0 < 16 ∧ (j : Int) ≠ but)) ∧ openF l but i k = (0, false))
  | 0, i => .inr ⟨fun j h1 h2 => by omega, rfl⟩
  | k + 1, i => by
    by_cases h : l.getD i 0 < 16 ∧ (i : Int) ≠ but
    · exact .inl ⟨i, by omega, by omega, h.1, h.2, by rw [openF, if_pos h]⟩
    · rw [openF, if_neg h]
      rcases openF_spec l but k (i + 1) with ⟨j, a, b, c, d, e⟩ | ⟨a, e⟩
      · exact .inl ⟨j, by omega, by omega, c, d, e⟩
      · refine .inr ⟨fun j h1 h2 => ?_, e⟩
        rcases Nat.eq_or_lt_of_le h1 with rfl | h3
        · exact h
        · exact a j h3 (by omega)
theorem open_facts (l : List Int) (but : Int) : ∃ x f, openF l but 0 l.length = (x, f) ∧ (f = true ↔ 0 < skipOf l but l.length) ∧ (f = true → 0 ≤ x ∧ x < l.length ∧ l.getD x.toNat 0 < 16 ∧ x ≠ but) := by
  rcases openF_spec l but l.length 0 with ⟨j, a, b, c, d, e⟩ | ⟨a, e⟩
  · exact ⟨j, true, e, ⟨fun _ => (skip_pos l but l.length).2 ⟨j, by omega, c, d⟩, fun _ => rfl⟩, fun _ => ⟨by omega, by omega, by rw [Int.toNat_natCast]; exact c, d⟩⟩
  · refine ⟨0, false, e, ⟨fun h => by (cases h), fun h => ?_⟩, fun h => by (cases h)⟩
    obtain ⟨i, h1, h2, h3⟩ := (skip_pos l but l.length).1 h
    exact absurd ⟨h2, h3⟩ (a i (Nat.zero_le _) (by omega))
theorem best_full {l v : List Int} {b : Int} (h : Best l v 0 l.length b) (i : Nat) (h1 : i < l.length) (h2 : i < v.length) (h3 : 16 ≤ l.getD i 0) : 0 ≤ b ∧ v.getD (max b 0).toNat 0 ≤ v.getD i 0 ∧ ((i : Int) < b → v.getD (max b 0).toNat 0 < v.getD i 0) ∧ (max b 0).toNat < v.length ∧ b < v.length := by
  rcases h with ⟨_, h4⟩ | ⟨k, rfl, k1, k2, k3, k4, k5⟩
  · exact absurd ⟨h3, h2⟩ (h4 i (Nat.zero_le _) h1)
  · have e : (max (k : Int) 0).toNat = k := by omega
    have h6 := k3.2
    rw [e]
    exact ⟨by omega, k4 i (Nat.zero_le _) h1 ⟨h3, h2⟩, fun h5 => k5 i (Nat.zero_le _) (by omega) ⟨h3, h2⟩, h6, by omega⟩
theorem best_found {l v : List Int} {b : Int} (h : Best l v 0 l.length b) (h0 : 0 ≤ b) : b < l.length ∧ 16 ≤ l.getD (max b 0).toNat 0 := by
  rcases h with ⟨h1, _⟩ | ⟨k, rfl, k1, k2, k3, k4, k5⟩
  · omega
  · have e : (max (k : Int) 0).toNat = k := by omega
    rw [e]; exact ⟨by omega, k3.1⟩
theorem lvI_get (T : Tb) {i : Nat} (h : i < 8) : (lvI T 24).getD i 0 = ((inT T i 24).length : Int) := by
  rw [lvI, List.getD_eq_getElem?_getD, List.getElem?_map, List.getElem?_range h]; rfl
theorem freeOne (x : Int) : freeOf [x] 1 = max (16 - max x 0) 0 := by simp [freeOf]
theorem law_open {f : Bool} {s r : Int} (hf : f = true ↔ 0 < s) (h : r = s) : (!(f == decide (0 < r))) = false := by
  subst h
  by_cases h : 0 < r
  · rw [hf.2 h, decide_eq_true h]; rfl
  · have : f = false := by cases f; rfl; exact absurd (hf.1 rfl) h
    rw [this, decide_eq_false h]; rfl
theorem sub_sl {w : World} {l : List Int} {va : Value} {B O cap : Nat} {but : Int} (h : Sl w va l.length (nums l)) (hva : va = .slice (some ⟨B, O, none⟩) l.length cap) (h0 : 0 ≤ but) (h1 : but < l.length) :
    Sl w (.slice (some ⟨B, O + but.toNat * 1, none⟩) ((but + 1).toNat - but.toNat) (cap - but.toNat)) [l.getD but.toNat 0].length (nums [l.getD but.toNat 0]) := by
  rw [show (but + 1).toNat - but.toNat = 1 from by omega]
  refine Sl.of fun j hj => ?_
  have hj0 : j = 0 := by have h2 : j < 1 := hj; omega
  subst hj0
  subst hva
  have := h.2 but.toNat (by omega)
  rw [Nat.mul_one, Nat.add_zero]
  exact this
theorem fits_in (l v : List Int) (but : Int) (hbut : 0 ≤ but ∧ but < l.length) (T : Tb) (va vb : Value) (hb1 : I64 l) (hcap : ∃ a cap, va = .slice a l.length cap ∧ l.length ≤ cap) (w : World) (hSa : Sl w va l.length (nums l)) (hSb : Sl w vb v.length (nums v)) :
    C Try.prog 7 ⟨[va, vb, iv but, .agg ⟨tbl T⟩]⟩ w fun r w' => r = .bool true ∧ St w [] w' := by
  refine C_enter (n := 175) Try.func7 rfl rfl rfl (fun w1 hs1 => ?_)
  obtain ⟨x, f, hE, hf, hx⟩ := open_facts l but
  have hsk := free_skip l but l.length
  have hfb := freeOf_bound l l.length
  refine W_seq ?_
  refine W_region ?_
  refine Lc (wanted_none rfl) (c_box hs1 rfl rfl rfl (fun b2 w3 hbb2 hs4 => ?_))
  refine L0 (wanted_none rfl) rfl (y_assign (v := Value.bool _) rfl rfl) ?_
  refine Lnil ?_
  refine W_seq ?_
  refine W_seq ?_
  refine W_region ?_
  refine L0 (wanted_none rfl) rfl (y_move (v := va) rfl rfl) ?_
  refine L0 (wanted_none rfl) rfl (y_slenSl rfl Try.underlying34 rfl hSa) ?_
  refine L0 (wanted_none rfl) rfl (y_gt rfl rfl rfl) ?_
  refine L0 (wanted_none rfl) rfl (y_move (v := Value.bool _) rfl rfl) ?_
  refine Lsp (t := 20) rfl (fun h5 => ?_) (fun h5 => ?_)
  · have h5' := h5
    first | replace h5' := of_decide_eq_true h5' | replace h5' := bnT' h5' | skip
    refine Lno (wanted_noB rfl rfl rfl h5 (by decide)) rfl ?_
    refine Lno (wanted_noB rfl rfl rfl h5 (by decide)) rfl ?_
    refine Lno (wanted_noB rfl rfl rfl h5 (by decide)) rfl ?_
    refine L0 (wanted_none rfl) rfl (y_pickT rfl rfl h5 rfl) ?_
    refine Lnil ?_
    refine W_condT rfl rfl ?_
    refine W_seq ?_
    refine W_region ?_
    refine L0 (wanted_none rfl) rfl (y_assign (v := Value.bool _) rfl rfl) ?_
    refine Lnil ?_
    refine W_ret ?_
    refine fin1 (fn := Try.f7) rfl rfl ?_
    exact ⟨rfl, hs4.drop (.inl hbb2)⟩
  · have h5' := h5
    first | replace h5' := of_decide_eq_false h5' | replace h5' := bnF' h5' | skip
    refine L0 (wanted_yesB rfl rfl rfl h5) rfl (y_move (v := vb) rfl rfl) ?_
    refine L0 (wanted_yesB rfl rfl rfl h5) rfl (y_slenSl rfl Try.underlying34 rfl hSb) ?_
    refine L0 (wanted_yesB rfl rfl rfl h5) rfl (y_gt rfl rfl rfl) ?_
    refine L0 (wanted_none rfl) rfl (y_pickF rfl rfl h5 rfl) ?_
    refine Lnil ?_
    refine Wsp (t := 24) rfl (fun h6 => ?_) (fun h6 => ?_)
    · have h6' := h6
      first | replace h6' := of_decide_eq_true h6' | replace h6' := bnT' h6' | skip
      refine W_condT rfl h6 ?_
      refine W_seq ?_
      refine W_region ?_
      refine L0 (wanted_none rfl) rfl (y_assign (v := Value.bool _) rfl rfl) ?_
      refine Lnil ?_
      refine W_ret ?_
      refine fin1 (fn := Try.f7) rfl rfl ?_
      exact ⟨rfl, forget hs4 (by intro x hx; simp only [List.mem_cons, List.not_mem_nil, or_false] at hx; rcases hx with rfl | rfl <;> assumption)⟩
    · have h6' := h6
      first | replace h6' := of_decide_eq_false h6' | replace h6' := bnF' h6' | skip
      refine W_condF rfl h6 ?_
      refine W_skip ?_
      refine W_seq ?_
      refine W_seq ?_
      refine W_region ?_
      refine Lc (wanted_none rfl) (c_call rfl rfl rfl Try.func38 (by kernel_rfl) rfl (spaced_any w3) rfl ?_)
      rintro _ w7 ⟨rfl, hc8⟩
      have hs9 := hs4.call0 hc8
      refine L0 (wanted_none rfl) rfl (y_not rfl rfl) ?_
      refine Lnil ?_
      refine Wkn (t := 26) (b0 := false) rfl (by rfl) (fun h10 => ?_)
      refine W_condF rfl h10 ?_
      refine W_skip ?_
      refine W_seq ?_
      refine W_region ?_
      refine L0 (wanted_none rfl) rfl (y_move (v := va) rfl rfl) ?_
      refine L0 (wanted_none rfl) rfl (y_move (v := Value.int _ _) rfl rfl) ?_
      refine Lc (wanted_none rfl) (c_call rfl rfl rfl Try.func28 (by kernel_rfl) rfl (open_space l but va (by omega) w7 (hSa.keep hs9 (by intro k hk; simp [keys] at hk; omega))) rfl ?_)
      rintro _ w11 ⟨rfl, hc12⟩
      rw [hE]
      have hs13 := hs9.call0 hc12
      refine L0 (wanted_none rfl) rfl (y_move (v := Value.tuple ⟨_⟩) rfl rfl) ?_
      refine L0 (wanted_none rfl) rfl (y_extract rfl rfl rfl) ?_
      refine L0 (wanted_none rfl) rfl (y_extract rfl rfl rfl) ?_
      refine L0 (wanted_none rfl) rfl (y_assign (v := Value.int _ _) rfl rfl) ?_
      refine L0 (wanted_none rfl) rfl (y_assign (v := Value.bool _) rfl rfl) ?_
      refine Lnil ?_
      refine W_seq ?_
      refine W_region ?_
      refine L0 (wanted_none rfl) rfl (y_move (v := va) rfl rfl) ?_
      refine Lc (wanted_none rfl) (c_call rfl rfl rfl Try.func29 (by kernel_rfl) rfl (free_any l va (by omega) hb1 w11 (hSa.keep hs13 (by intro k hk; simp [keys] at hk; omega))) rfl ?_)
      rintro _ w14 ⟨rfl, hc15⟩
      have hs16 := hs13.call0 hc15
      refine L0 (wanted_none rfl) rfl (y_assign (v := Value.int _ _) rfl rfl) ?_
      refine Lnil ?_
      refine W_seq ?_
      refine W_seq ?_
      refine W_region ?_
      refine L0 (wanted_none rfl) rfl (y_move (v := Value.int _ _) rfl rfl) ?_
      refine L0 (wanted_none rfl) rfl (y_ge rfl rfl rfl) ?_
      refine L0 (wanted_none rfl) rfl (y_move (v := Value.bool _) rfl rfl) ?_
      refine Lkn (t := 37) (b0 := true) rfl (by first | exact decide_eq_true (by omega) | exact bnT (by omega) | (simp; omega)) (fun h17 => ?_)
      refine L0 (wanted_yesB rfl rfl rfl h17) rfl (y_move (v := Value.int _ _) rfl rfl) ?_
      refine L0 (wanted_yesB rfl rfl rfl h17) rfl (y_move (v := va) rfl rfl) ?_
      refine L0 (wanted_yesB rfl rfl rfl h17) rfl (y_slenSl rfl Try.underlying34 rfl hSa) ?_
      refine L0 (wanted_yesB rfl rfl rfl h17) rfl (y_lt rfl rfl rfl) ?_
      refine L0 (wanted_none rfl) rfl (y_pickT rfl rfl h17 rfl) ?_
      refine Lnil ?_
      refine Wkn (t := 42) (b0 := true) rfl (by first | exact decide_eq_true (by omega) | exact bnT (by omega) | (simp; omega)) (fun h18 => ?_)
      refine W_condT rfl h18 ?_
      have hf1 : freeOf [l.getD but.toNat 0] [l.getD but.toNat 0].length = max (16 - max (l.getD but.toNat 0) 0) 0 := freeOne _
      obtain ⟨B, O, cap, hva, hcap2⟩ : ∃ B O cap, va = .slice (some ⟨B, O, none⟩) l.length cap ∧ l.length ≤ cap := by
        obtain ⟨a, cap, rfl, hc⟩ := hcap
        obtain ⟨⟨a2, cap2, e1, e2⟩, _⟩ := hSa
        cases e1
        exact ⟨_, _, cap, by rw [e2 (by omega)], hc⟩
      refine W_region ?_
      refine L0 (wanted_none rfl) rfl (y_move (v := Value.int _ _) rfl rfl) ?_
      refine L0 (wanted_none rfl) rfl (y_move (v := va) rfl rfl) ?_
      refine L0 (wanted_none rfl) rfl (y_move (v := Value.int _ _) rfl rfl) ?_
      refine L0 (wanted_none rfl) rfl (y_move (v := Value.int _ _) rfl rfl) ?_
      refine L0 (wanted_none rfl) rfl (y_add64 rfl rfl rfl (by omega)) ?_
      refine L0 (wanted_none rfl) rfl (y_slslice rfl Try.underlying34 sz3 hva rfl rfl (by omega)) ?_
      refine Lc (wanted_none rfl) (c_call rfl rfl rfl Try.func29 (by kernel_rfl) rfl (free_any [l.getD but.toNat 0] _ (by simp) (fun j => by match j with | 0 => exact hb1 _ | j + 1 => exact ⟨by simp, by simp⟩) w14 (sub_sl (hSa.keep hs16 (by intro k hk; simp [keys] at hk; omega)) hva (by omega) (by omega))) rfl ?_)
      rintro _ w19 ⟨rfl, hc20⟩
      have hs21 := hs16.call0 hc20
      refine L0 (wanted_none rfl) rfl (y_sub64 rfl rfl rfl (by omega)) ?_
      refine L0 (wanted_none rfl) rfl (y_assign (v := Value.int _ _) rfl rfl) ?_
      refine Lnil ?_
      refine W_seq ?_
      refine W_seq ?_
      refine W_region ?_
      refine L0 (wanted_none rfl) rfl (y_move (v := Value.bool _) rfl rfl) ?_
      refine L0 (wanted_none rfl) rfl (y_move (v := Value.int _ _) rfl rfl) ?_
      refine L0 (wanted_none rfl) rfl (y_gt rfl rfl rfl) ?_
      refine L0 (wanted_none rfl) rfl (y_bne rfl Try.underlying4 rfl rfl) ?_
      refine L0 (wanted_none rfl) rfl (y_move (v := Value.bool _) rfl rfl) ?_
      refine Lkn (t := 55) (b0 := false) rfl (by exact law_open hf (by first | (rw [if_neg (by omega)] at hsk; omega) | (rw [if_pos (by omega)] at hsk; omega))) (fun h22 => ?_)
      refine L0 (wanted_yesB rfl rfl rfl h22) rfl (y_move (v := Value.bool _) rfl rfl) ?_
      refine L0 (wanted_yesB rfl rfl rfl h22) rfl (y_move (v := Value.bool _) rfl rfl) ?_
      refine Lsp (t := 57) rfl (fun h23 => ?_) (fun h23 => ?_)
      · have h23' := h23
        first | replace h23' := of_decide_eq_true h23' | replace h23' := bnT' h23' | skip
        refine L0 (wanted_yesB rfl rfl rfl h23) rfl (y_move (v := Value.int _ _) rfl rfl) ?_
        refine L0 (wanted_yesB rfl rfl rfl h23) rfl (y_lt rfl rfl rfl) ?_
        refine L0 (wanted_yesB rfl rfl rfl h23) rfl (y_move (v := Value.bool _) rfl rfl) ?_
        refine Lkn (t := 60) (b0 := false) rfl (by exact decide_eq_false (by obtain ⟨q1, q2, q3, q4⟩ := hx (by assumption); omega)) (fun h24 => ?_)
        refine L0 (wanted_yesB rfl rfl rfl h24) rfl (y_move (v := Value.int _ _) rfl rfl) ?_
        refine L0 (wanted_yesB rfl rfl rfl h24) rfl (y_move (v := va) rfl rfl) ?_
        refine L0 (wanted_yesB rfl rfl rfl h24) rfl (y_slenSl rfl Try.underlying34 rfl hSa) ?_
        refine L0 (wanted_yesB rfl rfl rfl h24) rfl (y_ge rfl rfl rfl) ?_
        refine L0 (wanted_yesB rfl rfl rfl h23) rfl (y_pickF rfl rfl h24 rfl) ?_
        refine L0 (wanted_yesB rfl rfl rfl h23) rfl (y_move (v := Value.bool _) rfl rfl) ?_
        refine Lkn (t := 66) (b0 := false) rfl (by exact decide_eq_false (by obtain ⟨q1, q2, q3, q4⟩ := hx (by assumption); omega)) (fun h25 => ?_)
        refine L0 (wanted_yesB rfl rfl rfl h25) rfl (y_move (v := va) rfl rfl) ?_
        refine L0 (wanted_yesB rfl rfl rfl h25) rfl (y_move (v := Value.int _ _) rfl rfl) ?_
        obtain ⟨q1, q2, q3, q4⟩ := hx (by assumption)
        refine L0 (wanted_yesB rfl rfl rfl h25) rfl (y_indexSlAt rfl Try.underlying34 sz3 rfl rfl hSa (by omega) (by omega)) ?_
        refine L1 (wanted_yesB rfl rfl rfl h25) rfl hs21 (y_loadSl x.toNat rfl Try.underlying3 rfl rfl hSa (by omega) (by omega) (by intro k hk; first | (simp [keys] at hk; done) | (simp [keys] at hk; omega))) ?_
        refine L0 (wanted_yesB rfl rfl rfl h25) rfl (y_ge rfl rfl rfl) ?_
        refine L0 (wanted_yesB rfl rfl rfl h23) rfl (y_pickF rfl rfl h25 rfl) ?_
        refine L0 (wanted_yesB rfl rfl rfl h23) rfl (y_move (v := Value.bool _) rfl rfl) ?_
        refine Lkn (t := 73) (b0 := false) rfl (by exact decide_eq_false (by obtain ⟨q1, q2, q3, q4⟩ := hx (by assumption); omega)) (fun h26 => ?_)
        refine L0 (wanted_yesB rfl rfl rfl h26) rfl (y_move (v := Value.int _ _) rfl rfl) ?_
        refine L0 (wanted_yesB rfl rfl rfl h26) rfl (y_move (v := Value.int _ _) rfl rfl) ?_
        refine L0 (wanted_yesB rfl rfl rfl h26) rfl (y_eq rfl rfl rfl) ?_
        refine L0 (wanted_yesB rfl rfl rfl h23) rfl (y_pickF rfl rfl h26 rfl) ?_
        refine L0 (wanted_yesB rfl rfl rfl h22) rfl (y_pickT rfl rfl h23 rfl) ?_
        refine L0 (wanted_none rfl) rfl (y_pickF rfl rfl h22 rfl) ?_
        refine Lnil ?_
        refine Wkn (t := 79) (b0 := false) rfl (by exact decide_eq_false (by obtain ⟨q1, q2, q3, q4⟩ := hx (by assumption); omega)) (fun h27 => ?_)
        refine W_condF rfl h27 ?_
        refine W_skip ?_
        refine W_seq ?_
        refine W_region ?_
        refine L0 (wanted_none rfl) rfl (y_move (v := va) rfl rfl) ?_
        refine L0 (wanted_none rfl) rfl (y_move (v := vb) rfl rfl) ?_
        refine Lc (wanted_none rfl) (c_call rfl rfl rfl Try.func32 (by kernel_rfl) rfl (victim_any l v va vb (by omega) (by omega) w19 (hSa.keep hs21 (by intro k hk; simp [keys] at hk; omega)) (hSb.keep hs21 (by intro k hk; simp [keys] at hk; omega))) rfl ?_)
        rintro vt w28 ⟨⟨b, hB, rfl⟩, hc29⟩
        have hs30 := hs21.call0 hc29
        refine L0 (wanted_none rfl) rfl (y_move (v := Value.tuple ⟨_⟩) rfl rfl) ?_
        refine L0 (wanted_none rfl) rfl (y_extract rfl rfl rfl) ?_
        refine L0 (wanted_none rfl) rfl (y_extract rfl rfl rfl) ?_
        refine L0 (wanted_none rfl) rfl (y_assign (v := Value.int _ _) rfl rfl) ?_
        refine L0 (wanted_none rfl) rfl (y_assign (v := Value.bool _) rfl rfl) ?_
        refine Lnil ?_
        refine W_seq ?_
        refine W_seq ?_
        refine W_region ?_
        refine L0 (wanted_none rfl) rfl (y_assign (v := Value.int _ _) rfl rfl) ?_
        refine Lnil ?_
        refine W_block ?_
        refine W_loop (G := Nat) (fun i aL wl => ∃ e, aL = A 175 ((14, iv i) :: (0, va) :: (1, vb) :: (12, iv (max b 0)) :: (13, .bool (decide (0 ≤ b))) :: (7, pv b2 0) :: e) ∧ i ≤ l.length ∧ St w [(b2, .cells ⟨tbl T⟩ 59 (0, 0))] wl) (fun i => l.length - i) (0) ?_ ?_
        · exact ⟨_, A_pins _ _ [14, 0, 1, 12, 13, 7], Nat.zero_le _, hs30⟩
        rintro i _ w31 ⟨ehs32, rfl, hi, hs32⟩
        refine W_seq ?_
        refine W_seq ?_
        refine W_region ?_
        refine L0 (wanted_none rfl) rfl (y_move (v := Value.int _ _) rfl rfl) ?_
        refine L0 (wanted_none rfl) rfl (y_move (v := va) rfl rfl) ?_
        refine L0 (wanted_none rfl) rfl (y_slenSl rfl Try.underlying34 rfl hSa) ?_
        refine L0 (wanted_none rfl) rfl (y_lt rfl rfl rfl) ?_
        refine L0 (wanted_none rfl) rfl (y_move (v := Value.bool _) rfl rfl) ?_
        refine Lsp (t := 90) rfl (fun h33 => ?_) (fun h33 => ?_)
        · have h33' := h33
          first | replace h33' := of_decide_eq_true h33' | replace h33' := bnT' h33' | skip
          refine L0 (wanted_yesB rfl rfl rfl h33) rfl (y_move (v := Value.int _ _) rfl rfl) ?_
          refine L0 (wanted_yesB rfl rfl rfl h33) rfl (y_move (v := vb) rfl rfl) ?_
          refine L0 (wanted_yesB rfl rfl rfl h33) rfl (y_slenSl rfl Try.underlying34 rfl hSb) ?_
          refine L0 (wanted_yesB rfl rfl rfl h33) rfl (y_lt rfl rfl rfl) ?_
          refine L0 (wanted_none rfl) rfl (y_pickT rfl rfl h33 rfl) ?_
          refine Lnil ?_
          refine Wsp (t := 95) rfl (fun h34 => ?_) (fun h34 => ?_)
          · have h34' := h34
            first | replace h34' := of_decide_eq_true h34' | replace h34' := bnT' h34' | skip
            refine W_condT rfl h34 ?_
            refine W_skip ?_
            refine W_seq ?_
            refine W_block ?_
            refine W_seq ?_
            refine W_drawSt [(0, 0), (0, 1), (0, 2), (1, 3), (0, 4), (0, 5), (0, 6), (0, 7), (0, 8), (0, 9), (0, 10), (0, 13), (0, 14), (0, 11), (0, 15), (1, 12), (1, 16), (0, 17), (0, 18), (0, 19), (0, 20), (0, 21), (0, 24), (0, 25), (0, 22), (0, 26), (1, 23), (1, 27), (0, 28), (0, 29), (0, 30), (0, 31), (0, 32), (0, 33), (0, 34), (0, 35)] hs32 mixed (by kernel_rfl) (fun w35 hs36 => ?_)
            refine E0 (wanted_none rfl) rfl (y_move (v := va) rfl rfl) ?_
            refine E0 (wanted_none rfl) rfl (y_move (v := Value.int _ _) rfl rfl) ?_
            refine E0 (wanted_none rfl) rfl (y_indexSlAt rfl Try.underlying34 sz3 rfl rfl hSa (by omega) (by omega)) ?_
            refine E1 hs36 (wanted_none rfl) rfl (y_loadSl i rfl Try.underlying3 rfl rfl hSa (by omega) (by omega) (by intro k hk; first | (simp [keys] at hk; done) | (simp [keys] at hk; omega))) ?_
            refine E0 (wanted_none rfl) rfl (y_ge rfl rfl rfl) ?_
            refine E0 (wanted_none rfl) rfl (y_move (v := Value.bool _) rfl rfl) ?_
            refine Esp (t := 103) rfl (fun h37 => ?_) (fun h37 => ?_)
            · have h37' := h37
              first | replace h37' := of_decide_eq_true h37' | replace h37' := bnT' h37' | skip
              refine E0 (wanted_yesB rfl rfl rfl h37) rfl (y_move (v := Value.bool _) rfl rfl) ?_
              refine E0 (wanted_yesB rfl rfl rfl h37) rfl (y_not rfl rfl) ?_
              refine E0 (wanted_yesB rfl rfl rfl h37) rfl (y_move (v := Value.bool _) rfl rfl) ?_
              refine Ekn (t := 106) (b0 := false) rfl (by exact bnF (by obtain ⟨q1, q2, q3, q4, q5⟩ := best_full hB i (by omega) (by omega) (by omega); omega)) (fun h38 => ?_)
              refine E0 (wanted_yesB rfl rfl rfl h38) rfl (y_move (v := vb) rfl rfl) ?_
              refine E0 (wanted_yesB rfl rfl rfl h38) rfl (y_move (v := Value.int _ _) rfl rfl) ?_
              refine E0 (wanted_yesB rfl rfl rfl h38) rfl (y_move (v := vb) rfl rfl) ?_
              refine E0 (wanted_yesB rfl rfl rfl h38) rfl (y_move (v := Value.int _ _) rfl rfl) ?_
              refine E0 (wanted_yesB rfl rfl rfl h38) rfl (y_indexSlAt rfl Try.underlying34 sz3 rfl rfl hSb (by omega) (by omega)) ?_
              obtain ⟨q1, q2, q3, q4, q5⟩ := best_full hB i (by omega) (by omega) (by omega)
              refine E0 (wanted_yesB rfl rfl rfl h38) rfl (y_indexSlAt rfl Try.underlying34 sz3 rfl rfl hSb (by omega) (by omega)) ?_
              refine E1 hs36 (wanted_yesB rfl rfl rfl h38) rfl (y_loadSl i rfl Try.underlying3 rfl rfl hSb (by omega) (by omega) (by intro k hk; first | (simp [keys] at hk; done) | (simp [keys] at hk; omega))) ?_
              refine E1 hs36 (wanted_yesB rfl rfl rfl h38) rfl (y_loadSl (max b 0).toNat rfl Try.underlying3 rfl rfl hSb (by omega) (by omega) (by intro k hk; first | (simp [keys] at hk; done) | (simp [keys] at hk; omega))) ?_
              refine E0 (wanted_yesB rfl rfl rfl h38) rfl (y_lt rfl rfl rfl) ?_
              refine E0 (wanted_yesB rfl rfl rfl h37) rfl (y_pickF rfl rfl h38 rfl) ?_
              refine E0 (wanted_yesB rfl rfl rfl h37) rfl (y_move (v := Value.bool _) rfl rfl) ?_
              refine Ekn (t := 117) (b0 := false) rfl (by exact decide_eq_false (by obtain ⟨q1, q2, q3, q4, q5⟩ := best_full hB i (by omega) (by omega) (by omega); omega)) (fun h39 => ?_)
              refine E0 (wanted_yesB rfl rfl rfl h39) rfl (y_move (v := vb) rfl rfl) ?_
              refine E0 (wanted_yesB rfl rfl rfl h39) rfl (y_move (v := Value.int _ _) rfl rfl) ?_
              refine E0 (wanted_yesB rfl rfl rfl h39) rfl (y_move (v := vb) rfl rfl) ?_
              refine E0 (wanted_yesB rfl rfl rfl h39) rfl (y_move (v := Value.int _ _) rfl rfl) ?_
              refine E0 (wanted_yesB rfl rfl rfl h39) rfl (y_indexSlAt rfl Try.underlying34 sz3 rfl rfl hSb (by omega) (by omega)) ?_
              refine E0 (wanted_yesB rfl rfl rfl h39) rfl (y_indexSlAt rfl Try.underlying34 sz3 rfl rfl hSb (by omega) (by omega)) ?_
              refine E1 hs36 (wanted_yesB rfl rfl rfl h39) rfl (y_loadSl i rfl Try.underlying3 rfl rfl hSb (by omega) (by omega) (by intro k hk; first | (simp [keys] at hk; done) | (simp [keys] at hk; omega))) ?_
              refine E1 hs36 (wanted_yesB rfl rfl rfl h39) rfl (y_loadSl (max b 0).toNat rfl Try.underlying3 rfl rfl hSb (by omega) (by omega) (by intro k hk; first | (simp [keys] at hk; done) | (simp [keys] at hk; omega))) ?_
              refine E0 (wanted_yesB rfl rfl rfl h39) rfl (y_eq rfl rfl rfl) ?_
              refine E0 (wanted_yesB rfl rfl rfl h39) rfl (y_move (v := Value.bool _) rfl rfl) ?_
              refine Esp (t := 127) rfl (fun h40 => ?_) (fun h40 => ?_)
              · have h40' := h40
                first | replace h40' := of_decide_eq_true h40' | replace h40' := bnT' h40' | skip
                refine E0 (wanted_yesB rfl rfl rfl h40) rfl (y_move (v := Value.int _ _) rfl rfl) ?_
                refine E0 (wanted_yesB rfl rfl rfl h40) rfl (y_move (v := Value.int _ _) rfl rfl) ?_
                refine E0 (wanted_yesB rfl rfl rfl h40) rfl (y_lt rfl rfl rfl) ?_
                refine E0 (wanted_yesB rfl rfl rfl h39) rfl (y_pickT rfl rfl h40 rfl) ?_
                refine E0 (wanted_yesB rfl rfl rfl h37) rfl (y_pickF rfl rfl h39 rfl) ?_
                refine E0 (wanted_none rfl) rfl (y_pickT rfl rfl h37 rfl) ?_
                refine Enil ?_
                refine Wkn (t := 133) (b0 := false) rfl (by exact decide_eq_false (by obtain ⟨q1, q2, q3, q4, q5⟩ := best_full hB i (by omega) (by omega) (by omega); omega)) (fun h41 => ?_)
                refine W_condF rfl h41 ?_
                refine W_skip ?_
                refine W_region ?_
                refine L0 (wanted_none rfl) rfl (y_move (v := Value.int _ _) rfl rfl) ?_
                refine L0 (wanted_none rfl) rfl (y_add64 rfl rfl rfl (by omega)) ?_
                refine L0 (wanted_none rfl) rfl (y_assign (v := Value.int _ _) rfl rfl) ?_
                refine Lnil ?_
                exact ⟨i + 1, by first | omega | (dsimp only; done) | (dsimp only; omega), _, A_c (iv_eq (by first | omega | (dsimp only; done) | (dsimp only; omega))) (A_c rfl (A_c rfl (A_c rfl (A_c rfl (A_c rfl (rfl)))))), by omega, hs36⟩
              · have h40' := h40
                first | replace h40' := of_decide_eq_false h40' | replace h40' := bnF' h40' | skip
                refine Eno (wanted_noB rfl rfl rfl h40 (by decide)) rfl ?_
                refine Eno (wanted_noB rfl rfl rfl h40 (by decide)) rfl ?_
                refine Eno (wanted_noB rfl rfl rfl h40 (by decide)) rfl ?_
                refine E0 (wanted_yesB rfl rfl rfl h39) rfl (y_pickF rfl rfl h40 rfl) ?_
                refine E0 (wanted_yesB rfl rfl rfl h37) rfl (y_pickF rfl rfl h39 rfl) ?_
                refine E0 (wanted_none rfl) rfl (y_pickT rfl rfl h37 rfl) ?_
                refine Enil ?_
                refine W_condF rfl rfl ?_
                refine W_skip ?_
                refine W_region ?_
                refine L0 (wanted_none rfl) rfl (y_move (v := Value.int _ _) rfl rfl) ?_
                refine L0 (wanted_none rfl) rfl (y_add64 rfl rfl rfl (by omega)) ?_
                refine L0 (wanted_none rfl) rfl (y_assign (v := Value.int _ _) rfl rfl) ?_
                refine Lnil ?_
                exact ⟨i + 1, by first | omega | (dsimp only; done) | (dsimp only; omega), _, A_c (iv_eq (by first | omega | (dsimp only; done) | (dsimp only; omega))) (A_c rfl (A_c rfl (A_c rfl (A_c rfl (A_c rfl (rfl)))))), by omega, hs36⟩
            · have h37' := h37
              first | replace h37' := of_decide_eq_false h37' | replace h37' := bnF' h37' | skip
              refine Eno (wanted_noB rfl rfl rfl h37 (by decide)) rfl ?_
              refine Eno (wanted_noB rfl rfl rfl h37 (by decide)) rfl ?_
              refine Eno (wanted_noB rfl rfl rfl h37 (by decide)) rfl ?_
              refine Eno (wanted_noU rfl rfl rfl) rfl ?_
              refine Eno (wanted_noU rfl rfl rfl) rfl ?_
              refine Eno (wanted_noU rfl rfl rfl) rfl ?_
              refine Eno (wanted_noU rfl rfl rfl) rfl ?_
              refine Eno (wanted_noU rfl rfl rfl) rfl ?_
              refine Eno (wanted_noU rfl rfl rfl) rfl ?_
              refine E1no hs36 (wanted_noU rfl rfl rfl) rfl ?_
              refine E1no hs36 (wanted_noU rfl rfl rfl) rfl ?_
              refine Eno (wanted_noU rfl rfl rfl) rfl ?_
              refine Eno (wanted_noB rfl rfl rfl h37 (by decide)) rfl ?_
              refine Eno (wanted_noB rfl rfl rfl h37 (by decide)) rfl ?_
              refine Eno (wanted_noU rfl rfl rfl) rfl ?_
              refine Eno (wanted_noU rfl rfl rfl) rfl ?_
              refine Eno (wanted_noU rfl rfl rfl) rfl ?_
              refine Eno (wanted_noU rfl rfl rfl) rfl ?_
              refine Eno (wanted_noU rfl rfl rfl) rfl ?_
              refine Eno (wanted_noU rfl rfl rfl) rfl ?_
              refine E1no hs36 (wanted_noU rfl rfl rfl) rfl ?_
              refine E1no hs36 (wanted_noU rfl rfl rfl) rfl ?_
              refine Eno (wanted_noU rfl rfl rfl) rfl ?_
              refine Eno (wanted_noU rfl rfl rfl) rfl ?_
              refine Eno (wanted_noU rfl rfl rfl) rfl ?_
              refine Eno (wanted_noU rfl rfl rfl) rfl ?_
              refine Eno (wanted_noU rfl rfl rfl) rfl ?_
              refine Eno (wanted_noU rfl rfl rfl) rfl ?_
              refine Eno (wanted_noB rfl rfl rfl h37 (by decide)) rfl ?_
              refine E0 (wanted_none rfl) rfl (y_pickF rfl rfl h37 rfl) ?_
              refine Enil ?_
              refine W_condF rfl rfl ?_
              refine W_skip ?_
              refine W_region ?_
              refine L0 (wanted_none rfl) rfl (y_move (v := Value.int _ _) rfl rfl) ?_
              refine L0 (wanted_none rfl) rfl (y_add64 rfl rfl rfl (by omega)) ?_
              refine L0 (wanted_none rfl) rfl (y_assign (v := Value.int _ _) rfl rfl) ?_
              refine Lnil ?_
              exact ⟨i + 1, by first | omega | (dsimp only; done) | (dsimp only; omega), _, A_c (iv_eq (by first | omega | (dsimp only; done) | (dsimp only; omega))) (A_c rfl (A_c rfl (A_c rfl (A_c rfl (A_c rfl (rfl)))))), by omega, hs36⟩
          · have h34' := h34
            first | replace h34' := of_decide_eq_false h34' | replace h34' := bnF' h34' | skip
            refine W_condF rfl h34 ?_
            refine W_exit ?_
            refine W_seq ?_
            refine W_seq ?_
            refine W_region ?_
            refine L0 (wanted_none rfl) rfl (y_move (v := Value.bool _) rfl rfl) ?_
            refine L0 (wanted_none rfl) rfl (y_move (v := Value.bool _) rfl rfl) ?_
            refine Lsp (t := 135) rfl (fun h42 => ?_) (fun h42 => ?_)
            · have h42' := h42
              first | replace h42' := of_decide_eq_true h42' | replace h42' := bnT' h42' | skip
              refine L0 (wanted_yesB rfl rfl rfl h42) rfl (y_move (v := Value.int _ _) rfl rfl) ?_
              refine L0 (wanted_yesB rfl rfl rfl h42) rfl (y_move (v := va) rfl rfl) ?_
              refine L0 (wanted_yesB rfl rfl rfl h42) rfl (y_slenSl rfl Try.underlying34 rfl hSa) ?_
              refine L0 (wanted_yesB rfl rfl rfl h42) rfl (y_ge rfl rfl rfl) ?_
              refine L0 (wanted_yesB rfl rfl rfl h42) rfl (y_move (v := Value.bool _) rfl rfl) ?_
              refine Lkn (t := 140) (b0 := false) rfl (by exact decide_eq_false (by obtain ⟨q1, q2⟩ := best_found hB (by omega); omega)) (fun h43 => ?_)
              refine L0 (wanted_yesB rfl rfl rfl h43) rfl (y_move (v := va) rfl rfl) ?_
              refine L0 (wanted_yesB rfl rfl rfl h43) rfl (y_move (v := Value.int _ _) rfl rfl) ?_
              obtain ⟨q1, q2⟩ := best_found hB (by omega)
              refine L0 (wanted_yesB rfl rfl rfl h43) rfl (y_indexSlAt rfl Try.underlying34 sz3 rfl rfl hSa (by omega) (by omega)) ?_
              refine L1 (wanted_yesB rfl rfl rfl h43) rfl hs32 (y_loadSl (max b 0).toNat rfl Try.underlying3 rfl rfl hSa (by omega) (by omega) (by intro k hk; first | (simp [keys] at hk; done) | (simp [keys] at hk; omega))) ?_
              refine L0 (wanted_yesB rfl rfl rfl h43) rfl (y_lt rfl rfl rfl) ?_
              refine L0 (wanted_yesB rfl rfl rfl h42) rfl (y_pickF rfl rfl h43 rfl) ?_
              refine L0 (wanted_none rfl) rfl (y_pickT rfl rfl h42 rfl) ?_
              refine Lnil ?_
              refine Wkn (t := 147) (b0 := false) rfl (by exact decide_eq_false (by obtain ⟨q1, q2⟩ := best_found hB (by omega); omega)) (fun h44 => ?_)
              refine W_condF rfl h44 ?_
              refine W_skip ?_
              refine W_seq ?_
              refine W_region ?_
              refine L1 (wanted_none rfl) rfl hs32 ((y_loadT 0 rfl rfl rfl)) ?_
              refine Lc (wanted_none rfl) (c_call rfl rfl rfl Try.func34 (by kernel_rfl) rfl (live_any T w31) rfl ?_)
              rintro vA w45 ⟨eA, hrA, hc46⟩
              obtain ⟨g, capA, cur, fz, rfl, rfl, hg, hgl, hfz, hsz, hget⟩ := row_block hrA (by decide) 0
              have hg2 : w.heap.size ≤ g := Nat.le_trans hs32.size hg
              have hs47 := (hs32.call_new hc46 (row_keys hrA)).perm (List.perm_append_comm (l₁ := [_]))
              refine L0 (wanted_none rfl) rfl (y_assign (v := Value.slice _ _ _) rfl rfl) ?_
              refine Lnil ?_
              refine W_seq ?_
              refine W_seq ?_
              refine W_region ?_
              refine L0 (wanted_none rfl) rfl (y_assign (v := Value.int _ _) rfl rfl) ?_
              refine Lnil ?_
              refine W_block ?_
              refine W_loop (G := Nat) (fun i aL wl => ∃ e, aL = A 175 ((16, iv i) :: (7, pv b2 0) :: (15, .slice (some ⟨g, 0, none⟩) 8 capA) :: e) ∧ i ≤ 8 ∧ St w [(b2, .cells ⟨tbl T⟩ 59 (0, 0)), (g, .cells cur 3 fz)] wl) (fun i => 8 - i) (0) ?_ ?_
              · exact ⟨_, A_pins _ _ [16, 7, 15], Nat.zero_le _, hs47⟩
              rintro i _ w48 ⟨ehs49, rfl, hi, hs49⟩
              refine W_seq ?_
              refine W_seq ?_
              refine W_region ?_
              refine L0 (wanted_none rfl) rfl (y_move (v := Value.int _ _) rfl rfl) ?_
              refine L0 (wanted_none rfl) rfl (y_lt rfl rfl rfl) ?_
              refine Lnil ?_
              refine Wsp (t := 151) rfl (fun h50 => ?_) (fun h50 => ?_)
              · have h50' := h50
                first | replace h50' := of_decide_eq_true h50' | replace h50' := bnT' h50' | skip
                refine W_condT rfl h50 ?_
                refine W_skip ?_
                refine W_seq ?_
                refine W_block ?_
                refine W_seq ?_
                refine W_drawSt [(0, 0), (0, 1), (0, 2), (0, 3), (1, 4), (0, 5), (0, 8), (0, 9), (0, 10), (1, 11), (3, 6), (0, 7), (0, 12), (0, 13), (0, 14), (1, 15), (0, 16), (3, 17), (3, 18), (0, 19), (0, 20)] hs49 mixed (by kernel_rfl) (fun w51 hs52 => ?_)
                refine E0 (wanted_none rfl) rfl (y_move (v := Value.slice _ _ _) rfl rfl) ?_
                refine E0 (wanted_none rfl) rfl (y_slen rfl Try.underlying34 rfl) ?_
                refine E0 (wanted_none rfl) rfl (y_ne rfl rfl rfl) ?_
                refine E0 (wanted_none rfl) rfl (y_move (v := Value.bool _) rfl rfl) ?_
                refine Ekn (t := 157) (b0 := false) rfl (by exact bnF rfl) (fun h53 => ?_)
                refine E1 hs52 (wanted_yesB rfl rfl rfl h53) rfl ((y_loadT 0 rfl rfl rfl)) ?_
                refine E0 (wanted_yesB rfl rfl rfl h53) rfl (y_move (v := Value.int _ _) rfl rfl) ?_
                refine E0 (wanted_yesB rfl rfl rfl h53) rfl (y_move (v := Value.slice _ _ _) rfl rfl) ?_
                refine E0 (wanted_yesB rfl rfl rfl h53) rfl (y_move (v := Value.int _ _) rfl rfl) ?_
                refine E0 (wanted_yesB rfl rfl rfl h53) rfl (y_indexSl rfl Try.underlying34 sz3 rfl rfl (by omega) (by omega)) ?_
                refine E1 hs52 (wanted_yesB rfl rfl rfl h53) rfl (y_load 1 rfl Try.underlying3 rfl rfl rfl (by rw [ix1]; exact hget i (by omega))) ?_
                refine E3 (wanted_yesB rfl rfl rfl h53) (c_call rfl rfl rfl Try.func36 (by kernel_rfl) rfl (in_any T i w51) rfl ?_)
                rintro vC w54 ⟨eC, hrC, hc55⟩
                have hC : Sl w54 vC (inT T i 24).length (nums (inT T i 24)) := hrC.sl hc55 (fun x hx => hx) 0
                have hs56 := (hs52.call_new hc55 (row_keys hrC)).dropL (M := eC) (fun x hx => Nat.le_trans hs52.size (hrC.new x hx))
                refine ⟨fun _ => hs56, ?_⟩
                refine E0 (wanted_yesB rfl rfl rfl h53) rfl (y_slenSl rfl Try.underlying34 rfl hC) ?_
                refine E0 (wanted_yesB rfl rfl rfl h53) rfl (y_ne rfl rfl rfl) ?_
                refine E0 (wanted_none rfl) rfl (y_pickF rfl rfl h53 rfl) ?_
                refine E0 (wanted_none rfl) rfl (y_move (v := Value.bool _) rfl rfl) ?_
                refine Ekn (t := 168) (b0 := false) rfl (by exact bnF (lvI_get T (by omega)).symm) (fun h57 => ?_)
                refine E1 hs56 (wanted_yesB rfl rfl rfl h57) rfl ((y_loadT 0 rfl rfl rfl)) ?_
                refine E0 (wanted_yesB rfl rfl rfl h57) rfl (y_move (v := Value.int _ _) rfl rfl) ?_
                refine E3 (wanted_yesB rfl rfl rfl h57) (c_call rfl rfl rfl Try.func36 (by kernel_rfl) rfl (in_any T i w54) rfl ?_)
                rintro vE w58 ⟨eE, hrE, hc59⟩
                have hEE : Sl w58 vE (inT T i 24).length (nums (inT T i 24)) := hrE.sl hc59 (fun x hx => hx) 0
                have hs60 := (hs56.call_new hc59 (row_keys hrE)).dropL (M := eE) (fun x hx => Nat.le_trans hs56.size (hrE.new x hx))
                refine ⟨fun _ => hs60, ?_⟩
                refine E3 (wanted_yesB rfl rfl rfl h57) (c_call rfl rfl rfl Try.func39 (by kernel_rfl) rfl (isSorted_any (inT T i 24) vE (by have := inT_len T i 24; omega) (fun j k a b => inT_sortedN T i 24 j k a b) w58 hEE) rfl ?_)
                rintro _ w61 ⟨rfl, hc62⟩
                have hs63 := hs60.call0 hc62
                refine ⟨fun _ => hs63, ?_⟩
                refine E0 (wanted_yesB rfl rfl rfl h57) rfl (y_not rfl rfl) ?_
                refine E0 (wanted_none rfl) rfl (y_pickF rfl rfl h57 rfl) ?_
                refine Enil ?_
                refine Wkn (t := 174) (b0 := false) rfl (by rfl) (fun h64 => ?_)
                refine W_condF rfl h64 ?_
                refine W_skip ?_
                refine W_region ?_
                refine L0 (wanted_none rfl) rfl (y_move (v := Value.int _ _) rfl rfl) ?_
                refine L0 (wanted_none rfl) rfl (y_add64 rfl rfl rfl (by omega)) ?_
                refine L0 (wanted_none rfl) rfl (y_assign (v := Value.int _ _) rfl rfl) ?_
                refine Lnil ?_
                exact ⟨i + 1, by first | omega | (dsimp only; done) | (dsimp only; omega), _, A_c (iv_eq (by first | omega | (dsimp only; done) | (dsimp only; omega))) (A_c rfl (A_c rfl (rfl))), by omega, hs63⟩
              · have h50' := h50
                first | replace h50' := of_decide_eq_false h50' | replace h50' := bnF' h50' | skip
                refine W_condF rfl h50 ?_
                refine W_exit ?_
                refine W_seq ?_
                refine W_region ?_
                refine L0 (wanted_none rfl) rfl (y_assign (v := Value.bool _) rfl rfl) ?_
                refine Lnil ?_
                refine W_ret ?_
                refine fin1 (fn := Try.f7) rfl rfl ?_
                exact ⟨rfl, forget hs49 (by intro x hx; simp only [List.mem_cons, List.not_mem_nil, or_false] at hx; rcases hx with rfl | rfl <;> assumption)⟩
            · have h42' := h42
              first | replace h42' := of_decide_eq_false h42' | replace h42' := bnF' h42' | skip
              refine Lno (wanted_noB rfl rfl rfl h42 (by decide)) rfl ?_
              refine Lno (wanted_noB rfl rfl rfl h42 (by decide)) rfl ?_
              refine Lno (wanted_noB rfl rfl rfl h42 (by decide)) rfl ?_
              refine Lno (wanted_noB rfl rfl rfl h42 (by decide)) rfl ?_
              refine Lno (wanted_noB rfl rfl rfl h42 (by decide)) rfl ?_
              refine Lno (wanted_noU rfl rfl rfl) rfl ?_
              refine Lno (wanted_noU rfl rfl rfl) rfl ?_
              refine Lno (wanted_noU rfl rfl rfl) rfl ?_
              refine Lno (wanted_noU rfl rfl rfl) rfl ?_
              refine Lno (wanted_noU rfl rfl rfl) rfl ?_
              refine Lno (wanted_noB rfl rfl rfl h42 (by decide)) rfl ?_
              refine L0 (wanted_none rfl) rfl (y_pickF rfl rfl h42 rfl) ?_
              refine Lnil ?_
              refine W_condF rfl rfl ?_
              refine W_skip ?_
              refine W_seq ?_
              refine W_region ?_
              refine L1 (wanted_none rfl) rfl hs32 ((y_loadT 0 rfl rfl rfl)) ?_
              refine Lc (wanted_none rfl) (c_call rfl rfl rfl Try.func34 (by kernel_rfl) rfl (live_any T w31) rfl ?_)
              rintro vA w65 ⟨eA, hrA, hc66⟩
              obtain ⟨g, capA, cur, fz, rfl, rfl, hg, hgl, hfz, hsz, hget⟩ := row_block hrA (by decide) 0
              have hg2 : w.heap.size ≤ g := Nat.le_trans hs32.size hg
              have hs67 := (hs32.call_new hc66 (row_keys hrA)).perm (List.perm_append_comm (l₁ := [_]))
              refine L0 (wanted_none rfl) rfl (y_assign (v := Value.slice _ _ _) rfl rfl) ?_
              refine Lnil ?_
              refine W_seq ?_
              refine W_seq ?_
              refine W_region ?_
              refine L0 (wanted_none rfl) rfl (y_assign (v := Value.int _ _) rfl rfl) ?_
              refine Lnil ?_
              refine W_block ?_
              refine W_loop (G := Nat) (fun i aL wl => ∃ e, aL = A 175 ((16, iv i) :: (7, pv b2 0) :: (15, .slice (some ⟨g, 0, none⟩) 8 capA) :: e) ∧ i ≤ 8 ∧ St w [(b2, .cells ⟨tbl T⟩ 59 (0, 0)), (g, .cells cur 3 fz)] wl) (fun i => 8 - i) (0) ?_ ?_
              · exact ⟨_, A_pins _ _ [16, 7, 15], Nat.zero_le _, hs67⟩
              rintro i _ w68 ⟨ehs69, rfl, hi, hs69⟩
              refine W_seq ?_
              refine W_seq ?_
              refine W_region ?_
              refine L0 (wanted_none rfl) rfl (y_move (v := Value.int _ _) rfl rfl) ?_
              refine L0 (wanted_none rfl) rfl (y_lt rfl rfl rfl) ?_
              refine Lnil ?_
              refine Wsp (t := 151) rfl (fun h70 => ?_) (fun h70 => ?_)
              · have h70' := h70
                first | replace h70' := of_decide_eq_true h70' | replace h70' := bnT' h70' | skip
                refine W_condT rfl h70 ?_
                refine W_skip ?_
                refine W_seq ?_
                refine W_block ?_
                refine W_seq ?_
                refine W_drawSt [(0, 0), (0, 1), (0, 2), (0, 3), (1, 4), (0, 5), (0, 8), (0, 9), (0, 10), (1, 11), (3, 6), (0, 7), (0, 12), (0, 13), (0, 14), (1, 15), (0, 16), (3, 17), (3, 18), (0, 19), (0, 20)] hs69 mixed (by kernel_rfl) (fun w71 hs72 => ?_)
                refine E0 (wanted_none rfl) rfl (y_move (v := Value.slice _ _ _) rfl rfl) ?_
                refine E0 (wanted_none rfl) rfl (y_slen rfl Try.underlying34 rfl) ?_
                refine E0 (wanted_none rfl) rfl (y_ne rfl rfl rfl) ?_
                refine E0 (wanted_none rfl) rfl (y_move (v := Value.bool _) rfl rfl) ?_
                refine Ekn (t := 157) (b0 := false) rfl (by exact bnF rfl) (fun h73 => ?_)
                refine E1 hs72 (wanted_yesB rfl rfl rfl h73) rfl ((y_loadT 0 rfl rfl rfl)) ?_
                refine E0 (wanted_yesB rfl rfl rfl h73) rfl (y_move (v := Value.int _ _) rfl rfl) ?_
                refine E0 (wanted_yesB rfl rfl rfl h73) rfl (y_move (v := Value.slice _ _ _) rfl rfl) ?_
                refine E0 (wanted_yesB rfl rfl rfl h73) rfl (y_move (v := Value.int _ _) rfl rfl) ?_
                refine E0 (wanted_yesB rfl rfl rfl h73) rfl (y_indexSl rfl Try.underlying34 sz3 rfl rfl (by omega) (by omega)) ?_
                refine E1 hs72 (wanted_yesB rfl rfl rfl h73) rfl (y_load 1 rfl Try.underlying3 rfl rfl rfl (by rw [ix1]; exact hget i (by omega))) ?_
                refine E3 (wanted_yesB rfl rfl rfl h73) (c_call rfl rfl rfl Try.func36 (by kernel_rfl) rfl (in_any T i w71) rfl ?_)
                rintro vC w74 ⟨eC, hrC, hc75⟩
                have hC : Sl w74 vC (inT T i 24).length (nums (inT T i 24)) := hrC.sl hc75 (fun x hx => hx) 0
                have hs76 := (hs72.call_new hc75 (row_keys hrC)).dropL (M := eC) (fun x hx => Nat.le_trans hs72.size (hrC.new x hx))
                refine ⟨fun _ => hs76, ?_⟩
                refine E0 (wanted_yesB rfl rfl rfl h73) rfl (y_slenSl rfl Try.underlying34 rfl hC) ?_
                refine E0 (wanted_yesB rfl rfl rfl h73) rfl (y_ne rfl rfl rfl) ?_
                refine E0 (wanted_none rfl) rfl (y_pickF rfl rfl h73 rfl) ?_
                refine E0 (wanted_none rfl) rfl (y_move (v := Value.bool _) rfl rfl) ?_
                refine Ekn (t := 168) (b0 := false) rfl (by exact bnF (lvI_get T (by omega)).symm) (fun h77 => ?_)
                refine E1 hs76 (wanted_yesB rfl rfl rfl h77) rfl ((y_loadT 0 rfl rfl rfl)) ?_
                refine E0 (wanted_yesB rfl rfl rfl h77) rfl (y_move (v := Value.int _ _) rfl rfl) ?_
                refine E3 (wanted_yesB rfl rfl rfl h77) (c_call rfl rfl rfl Try.func36 (by kernel_rfl) rfl (in_any T i w74) rfl ?_)
                rintro vE w78 ⟨eE, hrE, hc79⟩
                have hEE : Sl w78 vE (inT T i 24).length (nums (inT T i 24)) := hrE.sl hc79 (fun x hx => hx) 0
                have hs80 := (hs76.call_new hc79 (row_keys hrE)).dropL (M := eE) (fun x hx => Nat.le_trans hs76.size (hrE.new x hx))
                refine ⟨fun _ => hs80, ?_⟩
                refine E3 (wanted_yesB rfl rfl rfl h77) (c_call rfl rfl rfl Try.func39 (by kernel_rfl) rfl (isSorted_any (inT T i 24) vE (by have := inT_len T i 24; omega) (fun j k a b => inT_sortedN T i 24 j k a b) w78 hEE) rfl ?_)
                rintro _ w81 ⟨rfl, hc82⟩
                have hs83 := hs80.call0 hc82
                refine ⟨fun _ => hs83, ?_⟩
                refine E0 (wanted_yesB rfl rfl rfl h77) rfl (y_not rfl rfl) ?_
                refine E0 (wanted_none rfl) rfl (y_pickF rfl rfl h77 rfl) ?_
                refine Enil ?_
                refine Wkn (t := 174) (b0 := false) rfl (by rfl) (fun h84 => ?_)
                refine W_condF rfl h84 ?_
                refine W_skip ?_
                refine W_region ?_
                refine L0 (wanted_none rfl) rfl (y_move (v := Value.int _ _) rfl rfl) ?_
                refine L0 (wanted_none rfl) rfl (y_add64 rfl rfl rfl (by omega)) ?_
                refine L0 (wanted_none rfl) rfl (y_assign (v := Value.int _ _) rfl rfl) ?_
                refine Lnil ?_
                exact ⟨i + 1, by first | omega | (dsimp only; done) | (dsimp only; omega), _, A_c (iv_eq (by first | omega | (dsimp only; done) | (dsimp only; omega))) (A_c rfl (A_c rfl (rfl))), by omega, hs83⟩
              · have h70' := h70
                first | replace h70' := of_decide_eq_false h70' | replace h70' := bnF' h70' | skip
                refine W_condF rfl h70 ?_
                refine W_exit ?_
                refine W_seq ?_
                refine W_region ?_
                refine L0 (wanted_none rfl) rfl (y_assign (v := Value.bool _) rfl rfl) ?_
                refine Lnil ?_
                refine W_ret ?_
                refine fin1 (fn := Try.f7) rfl rfl ?_
                exact ⟨rfl, forget hs69 (by intro x hx; simp only [List.mem_cons, List.not_mem_nil, or_false] at hx; rcases hx with rfl | rfl <;> assumption)⟩
        · have h33' := h33
          first | replace h33' := of_decide_eq_false h33' | replace h33' := bnF' h33' | skip
          refine Lno (wanted_noB rfl rfl rfl h33 (by decide)) rfl ?_
          refine Lno (wanted_noB rfl rfl rfl h33 (by decide)) rfl ?_
          refine Lno (wanted_noB rfl rfl rfl h33 (by decide)) rfl ?_
          refine Lno (wanted_noB rfl rfl rfl h33 (by decide)) rfl ?_
          refine L0 (wanted_none rfl) rfl (y_pickF rfl rfl h33 rfl) ?_
          refine Lnil ?_
          refine W_condF rfl rfl ?_
          refine W_exit ?_
          refine W_seq ?_
          refine W_seq ?_
          refine W_region ?_
          refine L0 (wanted_none rfl) rfl (y_move (v := Value.bool _) rfl rfl) ?_
          refine L0 (wanted_none rfl) rfl (y_move (v := Value.bool _) rfl rfl) ?_
          refine Lsp (t := 135) rfl (fun h85 => ?_) (fun h85 => ?_)
          · have h85' := h85
            first | replace h85' := of_decide_eq_true h85' | replace h85' := bnT' h85' | skip
            refine L0 (wanted_yesB rfl rfl rfl h85) rfl (y_move (v := Value.int _ _) rfl rfl) ?_
            refine L0 (wanted_yesB rfl rfl rfl h85) rfl (y_move (v := va) rfl rfl) ?_
            refine L0 (wanted_yesB rfl rfl rfl h85) rfl (y_slenSl rfl Try.underlying34 rfl hSa) ?_
            refine L0 (wanted_yesB rfl rfl rfl h85) rfl (y_ge rfl rfl rfl) ?_
            refine L0 (wanted_yesB rfl rfl rfl h85) rfl (y_move (v := Value.bool _) rfl rfl) ?_
            refine Lkn (t := 140) (b0 := false) rfl (by exact decide_eq_false (by obtain ⟨q1, q2⟩ := best_found hB (by omega); omega)) (fun h86 => ?_)
            refine L0 (wanted_yesB rfl rfl rfl h86) rfl (y_move (v := va) rfl rfl) ?_
            refine L0 (wanted_yesB rfl rfl rfl h86) rfl (y_move (v := Value.int _ _) rfl rfl) ?_
            obtain ⟨q1, q2⟩ := best_found hB (by omega)
            refine L0 (wanted_yesB rfl rfl rfl h86) rfl (y_indexSlAt rfl Try.underlying34 sz3 rfl rfl hSa (by omega) (by omega)) ?_
            refine L1 (wanted_yesB rfl rfl rfl h86) rfl hs32 (y_loadSl (max b 0).toNat rfl Try.underlying3 rfl rfl hSa (by omega) (by omega) (by intro k hk; first | (simp [keys] at hk; done) | (simp [keys] at hk; omega))) ?_
            refine L0 (wanted_yesB rfl rfl rfl h86) rfl (y_lt rfl rfl rfl) ?_
            refine L0 (wanted_yesB rfl rfl rfl h85) rfl (y_pickF rfl rfl h86 rfl) ?_
            refine L0 (wanted_none rfl) rfl (y_pickT rfl rfl h85 rfl) ?_
            refine Lnil ?_
            refine Wkn (t := 147) (b0 := false) rfl (by exact decide_eq_false (by obtain ⟨q1, q2⟩ := best_found hB (by omega); omega)) (fun h87 => ?_)
            refine W_condF rfl h87 ?_
            refine W_skip ?_
            refine W_seq ?_
            refine W_region ?_
            refine L1 (wanted_none rfl) rfl hs32 ((y_loadT 0 rfl rfl rfl)) ?_
            refine Lc (wanted_none rfl) (c_call rfl rfl rfl Try.func34 (by kernel_rfl) rfl (live_any T w31) rfl ?_)
            rintro vA w88 ⟨eA, hrA, hc89⟩
            obtain ⟨g, capA, cur, fz, rfl, rfl, hg, hgl, hfz, hsz, hget⟩ := row_block hrA (by decide) 0
            have hg2 : w.heap.size ≤ g := Nat.le_trans hs32.size hg
            have hs90 := (hs32.call_new hc89 (row_keys hrA)).perm (List.perm_append_comm (l₁ := [_]))
            refine L0 (wanted_none rfl) rfl (y_assign (v := Value.slice _ _ _) rfl rfl) ?_
            refine Lnil ?_
            refine W_seq ?_
            refine W_seq ?_
            refine W_region ?_
            refine L0 (wanted_none rfl) rfl (y_assign (v := Value.int _ _) rfl rfl) ?_
            refine Lnil ?_
            refine W_block ?_
            refine W_loop (G := Nat) (fun i aL wl => ∃ e, aL = A 175 ((16, iv i) :: (7, pv b2 0) :: (15, .slice (some ⟨g, 0, none⟩) 8 capA) :: e) ∧ i ≤ 8 ∧ St w [(b2, .cells ⟨tbl T⟩ 59 (0, 0)), (g, .cells cur 3 fz)] wl) (fun i => 8 - i) (0) ?_ ?_
            · exact ⟨_, A_pins _ _ [16, 7, 15], Nat.zero_le _, hs90⟩
            rintro i _ w91 ⟨ehs92, rfl, hi, hs92⟩
            refine W_seq ?_
            refine W_seq ?_
            refine W_region ?_
            refine L0 (wanted_none rfl) rfl (y_move (v := Value.int _ _) rfl rfl) ?_
            refine L0 (wanted_none rfl) rfl (y_lt rfl rfl rfl) ?_
            refine Lnil ?_
            refine Wsp (t := 151) rfl (fun h93 => ?_) (fun h93 => ?_)
            · have h93' := h93
              first | replace h93' := of_decide_eq_true h93' | replace h93' := bnT' h93' | skip
              refine W_condT rfl h93 ?_
              refine W_skip ?_
              refine W_seq ?_
              refine W_block ?_
              refine W_seq ?_
              refine W_drawSt [(0, 0), (0, 1), (0, 2), (0, 3), (1, 4), (0, 5), (0, 8), (0, 9), (0, 10), (1, 11), (3, 6), (0, 7), (0, 12), (0, 13), (0, 14), (1, 15), (0, 16), (3, 17), (3, 18), (0, 19), (0, 20)] hs92 mixed (by kernel_rfl) (fun w94 hs95 => ?_)
              refine E0 (wanted_none rfl) rfl (y_move (v := Value.slice _ _ _) rfl rfl) ?_
              refine E0 (wanted_none rfl) rfl (y_slen rfl Try.underlying34 rfl) ?_
              refine E0 (wanted_none rfl) rfl (y_ne rfl rfl rfl) ?_
              refine E0 (wanted_none rfl) rfl (y_move (v := Value.bool _) rfl rfl) ?_
              refine Ekn (t := 157) (b0 := false) rfl (by exact bnF rfl) (fun h96 => ?_)
              refine E1 hs95 (wanted_yesB rfl rfl rfl h96) rfl ((y_loadT 0 rfl rfl rfl)) ?_
              refine E0 (wanted_yesB rfl rfl rfl h96) rfl (y_move (v := Value.int _ _) rfl rfl) ?_
              refine E0 (wanted_yesB rfl rfl rfl h96) rfl (y_move (v := Value.slice _ _ _) rfl rfl) ?_
              refine E0 (wanted_yesB rfl rfl rfl h96) rfl (y_move (v := Value.int _ _) rfl rfl) ?_
              refine E0 (wanted_yesB rfl rfl rfl h96) rfl (y_indexSl rfl Try.underlying34 sz3 rfl rfl (by omega) (by omega)) ?_
              refine E1 hs95 (wanted_yesB rfl rfl rfl h96) rfl (y_load 1 rfl Try.underlying3 rfl rfl rfl (by rw [ix1]; exact hget i (by omega))) ?_
              refine E3 (wanted_yesB rfl rfl rfl h96) (c_call rfl rfl rfl Try.func36 (by kernel_rfl) rfl (in_any T i w94) rfl ?_)
              rintro vC w97 ⟨eC, hrC, hc98⟩
              have hC : Sl w97 vC (inT T i 24).length (nums (inT T i 24)) := hrC.sl hc98 (fun x hx => hx) 0
              have hs99 := (hs95.call_new hc98 (row_keys hrC)).dropL (M := eC) (fun x hx => Nat.le_trans hs95.size (hrC.new x hx))
              refine ⟨fun _ => hs99, ?_⟩
              refine E0 (wanted_yesB rfl rfl rfl h96) rfl (y_slenSl rfl Try.underlying34 rfl hC) ?_
              refine E0 (wanted_yesB rfl rfl rfl h96) rfl (y_ne rfl rfl rfl) ?_
              refine E0 (wanted_none rfl) rfl (y_pickF rfl rfl h96 rfl) ?_
              refine E0 (wanted_none rfl) rfl (y_move (v := Value.bool _) rfl rfl) ?_
              refine Ekn (t := 168) (b0 := false) rfl (by exact bnF (lvI_get T (by omega)).symm) (fun h100 => ?_)
              refine E1 hs99 (wanted_yesB rfl rfl rfl h100) rfl ((y_loadT 0 rfl rfl rfl)) ?_
              refine E0 (wanted_yesB rfl rfl rfl h100) rfl (y_move (v := Value.int _ _) rfl rfl) ?_
              refine E3 (wanted_yesB rfl rfl rfl h100) (c_call rfl rfl rfl Try.func36 (by kernel_rfl) rfl (in_any T i w97) rfl ?_)
              rintro vE w101 ⟨eE, hrE, hc102⟩
              have hEE : Sl w101 vE (inT T i 24).length (nums (inT T i 24)) := hrE.sl hc102 (fun x hx => hx) 0
              have hs103 := (hs99.call_new hc102 (row_keys hrE)).dropL (M := eE) (fun x hx => Nat.le_trans hs99.size (hrE.new x hx))
              refine ⟨fun _ => hs103, ?_⟩
              refine E3 (wanted_yesB rfl rfl rfl h100) (c_call rfl rfl rfl Try.func39 (by kernel_rfl) rfl (isSorted_any (inT T i 24) vE (by have := inT_len T i 24; omega) (fun j k a b => inT_sortedN T i 24 j k a b) w101 hEE) rfl ?_)
              rintro _ w104 ⟨rfl, hc105⟩
              have hs106 := hs103.call0 hc105
              refine ⟨fun _ => hs106, ?_⟩
              refine E0 (wanted_yesB rfl rfl rfl h100) rfl (y_not rfl rfl) ?_
              refine E0 (wanted_none rfl) rfl (y_pickF rfl rfl h100 rfl) ?_
              refine Enil ?_
              refine Wkn (t := 174) (b0 := false) rfl (by rfl) (fun h107 => ?_)
              refine W_condF rfl h107 ?_
              refine W_skip ?_
              refine W_region ?_
              refine L0 (wanted_none rfl) rfl (y_move (v := Value.int _ _) rfl rfl) ?_
              refine L0 (wanted_none rfl) rfl (y_add64 rfl rfl rfl (by omega)) ?_
              refine L0 (wanted_none rfl) rfl (y_assign (v := Value.int _ _) rfl rfl) ?_
              refine Lnil ?_
              exact ⟨i + 1, by first | omega | (dsimp only; done) | (dsimp only; omega), _, A_c (iv_eq (by first | omega | (dsimp only; done) | (dsimp only; omega))) (A_c rfl (A_c rfl (rfl))), by omega, hs106⟩
            · have h93' := h93
              first | replace h93' := of_decide_eq_false h93' | replace h93' := bnF' h93' | skip
              refine W_condF rfl h93 ?_
              refine W_exit ?_
              refine W_seq ?_
              refine W_region ?_
              refine L0 (wanted_none rfl) rfl (y_assign (v := Value.bool _) rfl rfl) ?_
              refine Lnil ?_
              refine W_ret ?_
              refine fin1 (fn := Try.f7) rfl rfl ?_
              exact ⟨rfl, forget hs92 (by intro x hx; simp only [List.mem_cons, List.not_mem_nil, or_false] at hx; rcases hx with rfl | rfl <;> assumption)⟩
          · have h85' := h85
            first | replace h85' := of_decide_eq_false h85' | replace h85' := bnF' h85' | skip
            refine Lno (wanted_noB rfl rfl rfl h85 (by decide)) rfl ?_
            refine Lno (wanted_noB rfl rfl rfl h85 (by decide)) rfl ?_
            refine Lno (wanted_noB rfl rfl rfl h85 (by decide)) rfl ?_
            refine Lno (wanted_noB rfl rfl rfl h85 (by decide)) rfl ?_
            refine Lno (wanted_noB rfl rfl rfl h85 (by decide)) rfl ?_
            refine Lno (wanted_noU rfl rfl rfl) rfl ?_
            refine Lno (wanted_noU rfl rfl rfl) rfl ?_
            refine Lno (wanted_noU rfl rfl rfl) rfl ?_
            refine Lno (wanted_noU rfl rfl rfl) rfl ?_
            refine Lno (wanted_noU rfl rfl rfl) rfl ?_
            refine Lno (wanted_noB rfl rfl rfl h85 (by decide)) rfl ?_
            refine L0 (wanted_none rfl) rfl (y_pickF rfl rfl h85 rfl) ?_
            refine Lnil ?_
            refine W_condF rfl rfl ?_
            refine W_skip ?_
            refine W_seq ?_
            refine W_region ?_
            refine L1 (wanted_none rfl) rfl hs32 ((y_loadT 0 rfl rfl rfl)) ?_
            refine Lc (wanted_none rfl) (c_call rfl rfl rfl Try.func34 (by kernel_rfl) rfl (live_any T w31) rfl ?_)
            rintro vA w108 ⟨eA, hrA, hc109⟩
            obtain ⟨g, capA, cur, fz, rfl, rfl, hg, hgl, hfz, hsz, hget⟩ := row_block hrA (by decide) 0
            have hg2 : w.heap.size ≤ g := Nat.le_trans hs32.size hg
            have hs110 := (hs32.call_new hc109 (row_keys hrA)).perm (List.perm_append_comm (l₁ := [_]))
            refine L0 (wanted_none rfl) rfl (y_assign (v := Value.slice _ _ _) rfl rfl) ?_
            refine Lnil ?_
            refine W_seq ?_
            refine W_seq ?_
            refine W_region ?_
            refine L0 (wanted_none rfl) rfl (y_assign (v := Value.int _ _) rfl rfl) ?_
            refine Lnil ?_
            refine W_block ?_
            refine W_loop (G := Nat) (fun i aL wl => ∃ e, aL = A 175 ((16, iv i) :: (7, pv b2 0) :: (15, .slice (some ⟨g, 0, none⟩) 8 capA) :: e) ∧ i ≤ 8 ∧ St w [(b2, .cells ⟨tbl T⟩ 59 (0, 0)), (g, .cells cur 3 fz)] wl) (fun i => 8 - i) (0) ?_ ?_
            · exact ⟨_, A_pins _ _ [16, 7, 15], Nat.zero_le _, hs110⟩
            rintro i _ w111 ⟨ehs112, rfl, hi, hs112⟩
            refine W_seq ?_
            refine W_seq ?_
            refine W_region ?_
            refine L0 (wanted_none rfl) rfl (y_move (v := Value.int _ _) rfl rfl) ?_
            refine L0 (wanted_none rfl) rfl (y_lt rfl rfl rfl) ?_
            refine Lnil ?_
            refine Wsp (t := 151) rfl (fun h113 => ?_) (fun h113 => ?_)
            · have h113' := h113
              first | replace h113' := of_decide_eq_true h113' | replace h113' := bnT' h113' | skip
              refine W_condT rfl h113 ?_
              refine W_skip ?_
              refine W_seq ?_
              refine W_block ?_
              refine W_seq ?_
              refine W_drawSt [(0, 0), (0, 1), (0, 2), (0, 3), (1, 4), (0, 5), (0, 8), (0, 9), (0, 10), (1, 11), (3, 6), (0, 7), (0, 12), (0, 13), (0, 14), (1, 15), (0, 16), (3, 17), (3, 18), (0, 19), (0, 20)] hs112 mixed (by kernel_rfl) (fun w114 hs115 => ?_)
              refine E0 (wanted_none rfl) rfl (y_move (v := Value.slice _ _ _) rfl rfl) ?_
              refine E0 (wanted_none rfl) rfl (y_slen rfl Try.underlying34 rfl) ?_
              refine E0 (wanted_none rfl) rfl (y_ne rfl rfl rfl) ?_
              refine E0 (wanted_none rfl) rfl (y_move (v := Value.bool _) rfl rfl) ?_
              refine Ekn (t := 157) (b0 := false) rfl (by exact bnF rfl) (fun h116 => ?_)
              refine E1 hs115 (wanted_yesB rfl rfl rfl h116) rfl ((y_loadT 0 rfl rfl rfl)) ?_
              refine E0 (wanted_yesB rfl rfl rfl h116) rfl (y_move (v := Value.int _ _) rfl rfl) ?_
              refine E0 (wanted_yesB rfl rfl rfl h116) rfl (y_move (v := Value.slice _ _ _) rfl rfl) ?_
              refine E0 (wanted_yesB rfl rfl rfl h116) rfl (y_move (v := Value.int _ _) rfl rfl) ?_
              refine E0 (wanted_yesB rfl rfl rfl h116) rfl (y_indexSl rfl Try.underlying34 sz3 rfl rfl (by omega) (by omega)) ?_
              refine E1 hs115 (wanted_yesB rfl rfl rfl h116) rfl (y_load 1 rfl Try.underlying3 rfl rfl rfl (by rw [ix1]; exact hget i (by omega))) ?_
              refine E3 (wanted_yesB rfl rfl rfl h116) (c_call rfl rfl rfl Try.func36 (by kernel_rfl) rfl (in_any T i w114) rfl ?_)
              rintro vC w117 ⟨eC, hrC, hc118⟩
              have hC : Sl w117 vC (inT T i 24).length (nums (inT T i 24)) := hrC.sl hc118 (fun x hx => hx) 0
              have hs119 := (hs115.call_new hc118 (row_keys hrC)).dropL (M := eC) (fun x hx => Nat.le_trans hs115.size (hrC.new x hx))
              refine ⟨fun _ => hs119, ?_⟩
              refine E0 (wanted_yesB rfl rfl rfl h116) rfl (y_slenSl rfl Try.underlying34 rfl hC) ?_
              refine E0 (wanted_yesB rfl rfl rfl h116) rfl (y_ne rfl rfl rfl) ?_
              refine E0 (wanted_none rfl) rfl (y_pickF rfl rfl h116 rfl) ?_
              refine E0 (wanted_none rfl) rfl (y_move (v := Value.bool _) rfl rfl) ?_
              refine Ekn (t := 168) (b0 := false) rfl (by exact bnF (lvI_get T (by omega)).symm) (fun h120 => ?_)
              refine E1 hs119 (wanted_yesB rfl rfl rfl h120) rfl ((y_loadT 0 rfl rfl rfl)) ?_
              refine E0 (wanted_yesB rfl rfl rfl h120) rfl (y_move (v := Value.int _ _) rfl rfl) ?_
              refine E3 (wanted_yesB rfl rfl rfl h120) (c_call rfl rfl rfl Try.func36 (by kernel_rfl) rfl (in_any T i w117) rfl ?_)
              rintro vE w121 ⟨eE, hrE, hc122⟩
              have hEE : Sl w121 vE (inT T i 24).length (nums (inT T i 24)) := hrE.sl hc122 (fun x hx => hx) 0
              have hs123 := (hs119.call_new hc122 (row_keys hrE)).dropL (M := eE) (fun x hx => Nat.le_trans hs119.size (hrE.new x hx))
              refine ⟨fun _ => hs123, ?_⟩
              refine E3 (wanted_yesB rfl rfl rfl h120) (c_call rfl rfl rfl Try.func39 (by kernel_rfl) rfl (isSorted_any (inT T i 24) vE (by have := inT_len T i 24; omega) (fun j k a b => inT_sortedN T i 24 j k a b) w121 hEE) rfl ?_)
              rintro _ w124 ⟨rfl, hc125⟩
              have hs126 := hs123.call0 hc125
              refine ⟨fun _ => hs126, ?_⟩
              refine E0 (wanted_yesB rfl rfl rfl h120) rfl (y_not rfl rfl) ?_
              refine E0 (wanted_none rfl) rfl (y_pickF rfl rfl h120 rfl) ?_
              refine Enil ?_
              refine Wkn (t := 174) (b0 := false) rfl (by rfl) (fun h127 => ?_)
              refine W_condF rfl h127 ?_
              refine W_skip ?_
              refine W_region ?_
              refine L0 (wanted_none rfl) rfl (y_move (v := Value.int _ _) rfl rfl) ?_
              refine L0 (wanted_none rfl) rfl (y_add64 rfl rfl rfl (by omega)) ?_
              refine L0 (wanted_none rfl) rfl (y_assign (v := Value.int _ _) rfl rfl) ?_
              refine Lnil ?_
              exact ⟨i + 1, by first | omega | (dsimp only; done) | (dsimp only; omega), _, A_c (iv_eq (by first | omega | (dsimp only; done) | (dsimp only; omega))) (A_c rfl (A_c rfl (rfl))), by omega, hs126⟩
            · have h113' := h113
              first | replace h113' := of_decide_eq_false h113' | replace h113' := bnF' h113' | skip
              refine W_condF rfl h113 ?_
              refine W_exit ?_
              refine W_seq ?_
              refine W_region ?_
              refine L0 (wanted_none rfl) rfl (y_assign (v := Value.bool _) rfl rfl) ?_
              refine Lnil ?_
              refine W_ret ?_
              refine fin1 (fn := Try.f7) rfl rfl ?_
              exact ⟨rfl, forget hs112 (by intro x hx; simp only [List.mem_cons, List.not_mem_nil, or_false] at hx; rcases hx with rfl | rfl <;> assumption)⟩
      · have h23' := h23
        first | replace h23' := of_decide_eq_false h23' | replace h23' := bnF' h23' | skip
        refine Lno (wanted_noB rfl rfl rfl h23 (by decide)) rfl ?_
        refine Lno (wanted_noB rfl rfl rfl h23 (by decide)) rfl ?_
        refine Lno (wanted_noB rfl rfl rfl h23 (by decide)) rfl ?_
        refine Lno (wanted_noU rfl rfl rfl) rfl ?_
        refine Lno (wanted_noU rfl rfl rfl) rfl ?_
        refine Lno (wanted_noU rfl rfl rfl) rfl ?_
        refine Lno (wanted_noU rfl rfl rfl) rfl ?_
        refine Lno (wanted_noB rfl rfl rfl h23 (by decide)) rfl ?_
        refine Lno (wanted_noB rfl rfl rfl h23 (by decide)) rfl ?_
        refine Lno (wanted_noU rfl rfl rfl) rfl ?_
        refine Lno (wanted_noU rfl rfl rfl) rfl ?_
        refine Lno (wanted_noU rfl rfl rfl) rfl ?_
        refine Lno (wanted_noU rfl rfl rfl) rfl ?_
        refine Lno (wanted_noU rfl rfl rfl) rfl ?_
        refine Lno (wanted_noB rfl rfl rfl h23 (by decide)) rfl ?_
        refine Lno (wanted_noB rfl rfl rfl h23 (by decide)) rfl ?_
        refine Lno (wanted_noU rfl rfl rfl) rfl ?_
        refine Lno (wanted_noU rfl rfl rfl) rfl ?_
        refine Lno (wanted_noU rfl rfl rfl) rfl ?_
        refine Lno (wanted_noB rfl rfl rfl h23 (by decide)) rfl ?_
        refine L0 (wanted_yesB rfl rfl rfl h22) rfl (y_pickF rfl rfl h23 rfl) ?_
        refine L0 (wanted_none rfl) rfl (y_pickF rfl rfl h22 rfl) ?_
        refine Lnil ?_
        refine W_condF rfl rfl ?_
        refine W_skip ?_
        refine W_seq ?_
        refine W_region ?_
        refine L0 (wanted_none rfl) rfl (y_move (v := va) rfl rfl) ?_
        refine L0 (wanted_none rfl) rfl (y_move (v := vb) rfl rfl) ?_
        refine Lc (wanted_none rfl) (c_call rfl rfl rfl Try.func32 (by kernel_rfl) rfl (victim_any l v va vb (by omega) (by omega) w19 (hSa.keep hs21 (by intro k hk; simp [keys] at hk; omega)) (hSb.keep hs21 (by intro k hk; simp [keys] at hk; omega))) rfl ?_)
        rintro vt w128 ⟨⟨b, hB, rfl⟩, hc129⟩
        have hs130 := hs21.call0 hc129
        refine L0 (wanted_none rfl) rfl (y_move (v := Value.tuple ⟨_⟩) rfl rfl) ?_
        refine L0 (wanted_none rfl) rfl (y_extract rfl rfl rfl) ?_
        refine L0 (wanted_none rfl) rfl (y_extract rfl rfl rfl) ?_
        refine L0 (wanted_none rfl) rfl (y_assign (v := Value.int _ _) rfl rfl) ?_
        refine L0 (wanted_none rfl) rfl (y_assign (v := Value.bool _) rfl rfl) ?_
        refine Lnil ?_
        refine W_seq ?_
        refine W_seq ?_
        refine W_region ?_
        refine L0 (wanted_none rfl) rfl (y_assign (v := Value.int _ _) rfl rfl) ?_
        refine Lnil ?_
        refine W_block ?_
        refine W_loop (G := Nat) (fun i aL wl => ∃ e, aL = A 175 ((14, iv i) :: (0, va) :: (1, vb) :: (12, iv (max b 0)) :: (13, .bool (decide (0 ≤ b))) :: (7, pv b2 0) :: e) ∧ i ≤ l.length ∧ St w [(b2, .cells ⟨tbl T⟩ 59 (0, 0))] wl) (fun i => l.length - i) (0) ?_ ?_
        · exact ⟨_, A_pins _ _ [14, 0, 1, 12, 13, 7], Nat.zero_le _, hs130⟩
        rintro i _ w131 ⟨ehs132, rfl, hi, hs132⟩
        refine W_seq ?_
        refine W_seq ?_
        refine W_region ?_
        refine L0 (wanted_none rfl) rfl (y_move (v := Value.int _ _) rfl rfl) ?_
        refine L0 (wanted_none rfl) rfl (y_move (v := va) rfl rfl) ?_
        refine L0 (wanted_none rfl) rfl (y_slenSl rfl Try.underlying34 rfl hSa) ?_
        refine L0 (wanted_none rfl) rfl (y_lt rfl rfl rfl) ?_
        refine L0 (wanted_none rfl) rfl (y_move (v := Value.bool _) rfl rfl) ?_
        refine Lsp (t := 90) rfl (fun h133 => ?_) (fun h133 => ?_)
        · have h133' := h133
          first | replace h133' := of_decide_eq_true h133' | replace h133' := bnT' h133' | skip
          refine L0 (wanted_yesB rfl rfl rfl h133) rfl (y_move (v := Value.int _ _) rfl rfl) ?_
          refine L0 (wanted_yesB rfl rfl rfl h133) rfl (y_move (v := vb) rfl rfl) ?_
          refine L0 (wanted_yesB rfl rfl rfl h133) rfl (y_slenSl rfl Try.underlying34 rfl hSb) ?_
          refine L0 (wanted_yesB rfl rfl rfl h133) rfl (y_lt rfl rfl rfl) ?_
          refine L0 (wanted_none rfl) rfl (y_pickT rfl rfl h133 rfl) ?_
          refine Lnil ?_
          refine Wsp (t := 95) rfl (fun h134 => ?_) (fun h134 => ?_)
          · have h134' := h134
            first | replace h134' := of_decide_eq_true h134' | replace h134' := bnT' h134' | skip
            refine W_condT rfl h134 ?_
            refine W_skip ?_
            refine W_seq ?_
            refine W_block ?_
            refine W_seq ?_
            refine W_drawSt [(0, 0), (0, 1), (0, 2), (1, 3), (0, 4), (0, 5), (0, 6), (0, 7), (0, 8), (0, 9), (0, 10), (0, 13), (0, 14), (0, 11), (0, 15), (1, 12), (1, 16), (0, 17), (0, 18), (0, 19), (0, 20), (0, 21), (0, 24), (0, 25), (0, 22), (0, 26), (1, 23), (1, 27), (0, 28), (0, 29), (0, 30), (0, 31), (0, 32), (0, 33), (0, 34), (0, 35)] hs132 mixed (by kernel_rfl) (fun w135 hs136 => ?_)
            refine E0 (wanted_none rfl) rfl (y_move (v := va) rfl rfl) ?_
            refine E0 (wanted_none rfl) rfl (y_move (v := Value.int _ _) rfl rfl) ?_
            refine E0 (wanted_none rfl) rfl (y_indexSlAt rfl Try.underlying34 sz3 rfl rfl hSa (by omega) (by omega)) ?_
            refine E1 hs136 (wanted_none rfl) rfl (y_loadSl i rfl Try.underlying3 rfl rfl hSa (by omega) (by omega) (by intro k hk; first | (simp [keys] at hk; done) | (simp [keys] at hk; omega))) ?_
            refine E0 (wanted_none rfl) rfl (y_ge rfl rfl rfl) ?_
            refine E0 (wanted_none rfl) rfl (y_move (v := Value.bool _) rfl rfl) ?_
            refine Esp (t := 103) rfl (fun h137 => ?_) (fun h137 => ?_)
            · have h137' := h137
              first | replace h137' := of_decide_eq_true h137' | replace h137' := bnT' h137' | skip
              refine E0 (wanted_yesB rfl rfl rfl h137) rfl (y_move (v := Value.bool _) rfl rfl) ?_
              refine E0 (wanted_yesB rfl rfl rfl h137) rfl (y_not rfl rfl) ?_
              refine E0 (wanted_yesB rfl rfl rfl h137) rfl (y_move (v := Value.bool _) rfl rfl) ?_
              refine Ekn (t := 106) (b0 := false) rfl (by exact bnF (by obtain ⟨q1, q2, q3, q4, q5⟩ := best_full hB i (by omega) (by omega) (by omega); omega)) (fun h138 => ?_)
              refine E0 (wanted_yesB rfl rfl rfl h138) rfl (y_move (v := vb) rfl rfl) ?_
              refine E0 (wanted_yesB rfl rfl rfl h138) rfl (y_move (v := Value.int _ _) rfl rfl) ?_
              refine E0 (wanted_yesB rfl rfl rfl h138) rfl (y_move (v := vb) rfl rfl) ?_
              refine E0 (wanted_yesB rfl rfl rfl h138) rfl (y_move (v := Value.int _ _) rfl rfl) ?_
              refine E0 (wanted_yesB rfl rfl rfl h138) rfl (y_indexSlAt rfl Try.underlying34 sz3 rfl rfl hSb (by omega) (by omega)) ?_
              obtain ⟨q1, q2, q3, q4, q5⟩ := best_full hB i (by omega) (by omega) (by omega)
              refine E0 (wanted_yesB rfl rfl rfl h138) rfl (y_indexSlAt rfl Try.underlying34 sz3 rfl rfl hSb (by omega) (by omega)) ?_
              refine E1 hs136 (wanted_yesB rfl rfl rfl h138) rfl (y_loadSl i rfl Try.underlying3 rfl rfl hSb (by omega) (by omega) (by intro k hk; first | (simp [keys] at hk; done) | (simp [keys] at hk; omega))) ?_
              refine E1 hs136 (wanted_yesB rfl rfl rfl h138) rfl (y_loadSl (max b 0).toNat rfl Try.underlying3 rfl rfl hSb (by omega) (by omega) (by intro k hk; first | (simp [keys] at hk; done) | (simp [keys] at hk; omega))) ?_
              refine E0 (wanted_yesB rfl rfl rfl h138) rfl (y_lt rfl rfl rfl) ?_
              refine E0 (wanted_yesB rfl rfl rfl h137) rfl (y_pickF rfl rfl h138 rfl) ?_
              refine E0 (wanted_yesB rfl rfl rfl h137) rfl (y_move (v := Value.bool _) rfl rfl) ?_
              refine Ekn (t := 117) (b0 := false) rfl (by exact decide_eq_false (by obtain ⟨q1, q2, q3, q4, q5⟩ := best_full hB i (by omega) (by omega) (by omega); omega)) (fun h139 => ?_)
              refine E0 (wanted_yesB rfl rfl rfl h139) rfl (y_move (v := vb) rfl rfl) ?_
              refine E0 (wanted_yesB rfl rfl rfl h139) rfl (y_move (v := Value.int _ _) rfl rfl) ?_
              refine E0 (wanted_yesB rfl rfl rfl h139) rfl (y_move (v := vb) rfl rfl) ?_
              refine E0 (wanted_yesB rfl rfl rfl h139) rfl (y_move (v := Value.int _ _) rfl rfl) ?_
              refine E0 (wanted_yesB rfl rfl rfl h139) rfl (y_indexSlAt rfl Try.underlying34 sz3 rfl rfl hSb (by omega) (by omega)) ?_
              refine E0 (wanted_yesB rfl rfl rfl h139) rfl (y_indexSlAt rfl Try.underlying34 sz3 rfl rfl hSb (by omega) (by omega)) ?_
              refine E1 hs136 (wanted_yesB rfl rfl rfl h139) rfl (y_loadSl i rfl Try.underlying3 rfl rfl hSb (by omega) (by omega) (by intro k hk; first | (simp [keys] at hk; done) | (simp [keys] at hk; omega))) ?_
              refine E1 hs136 (wanted_yesB rfl rfl rfl h139) rfl (y_loadSl (max b 0).toNat rfl Try.underlying3 rfl rfl hSb (by omega) (by omega) (by intro k hk; first | (simp [keys] at hk; done) | (simp [keys] at hk; omega))) ?_
              refine E0 (wanted_yesB rfl rfl rfl h139) rfl (y_eq rfl rfl rfl) ?_
              refine E0 (wanted_yesB rfl rfl rfl h139) rfl (y_move (v := Value.bool _) rfl rfl) ?_
              refine Esp (t := 127) rfl (fun h140 => ?_) (fun h140 => ?_)
              · have h140' := h140
                first | replace h140' := of_decide_eq_true h140' | replace h140' := bnT' h140' | skip
                refine E0 (wanted_yesB rfl rfl rfl h140) rfl (y_move (v := Value.int _ _) rfl rfl) ?_
                refine E0 (wanted_yesB rfl rfl rfl h140) rfl (y_move (v := Value.int _ _) rfl rfl) ?_
                refine E0 (wanted_yesB rfl rfl rfl h140) rfl (y_lt rfl rfl rfl) ?_
                refine E0 (wanted_yesB rfl rfl rfl h139) rfl (y_pickT rfl rfl h140 rfl) ?_
                refine E0 (wanted_yesB rfl rfl rfl h137) rfl (y_pickF rfl rfl h139 rfl) ?_
                refine E0 (wanted_none rfl) rfl (y_pickT rfl rfl h137 rfl) ?_
                refine Enil ?_
                refine Wkn (t := 133) (b0 := false) rfl (by exact decide_eq_false (by obtain ⟨q1, q2, q3, q4, q5⟩ := best_full hB i (by omega) (by omega) (by omega); omega)) (fun h141 => ?_)
                refine W_condF rfl h141 ?_
                refine W_skip ?_
                refine W_region ?_
                refine L0 (wanted_none rfl) rfl (y_move (v := Value.int _ _) rfl rfl) ?_
                refine L0 (wanted_none rfl) rfl (y_add64 rfl rfl rfl (by omega)) ?_
                refine L0 (wanted_none rfl) rfl (y_assign (v := Value.int _ _) rfl rfl) ?_
                refine Lnil ?_
                exact ⟨i + 1, by first | omega | (dsimp only; done) | (dsimp only; omega), _, A_c (iv_eq (by first | omega | (dsimp only; done) | (dsimp only; omega))) (A_c rfl (A_c rfl (A_c rfl (A_c rfl (A_c rfl (rfl)))))), by omega, hs136⟩
              · have h140' := h140
                first | replace h140' := of_decide_eq_false h140' | replace h140' := bnF' h140' | skip
                refine Eno (wanted_noB rfl rfl rfl h140 (by decide)) rfl ?_
                refine Eno (wanted_noB rfl rfl rfl h140 (by decide)) rfl ?_
                refine Eno (wanted_noB rfl rfl rfl h140 (by decide)) rfl ?_
                refine E0 (wanted_yesB rfl rfl rfl h139) rfl (y_pickF rfl rfl h140 rfl) ?_
                refine E0 (wanted_yesB rfl rfl rfl h137) rfl (y_pickF rfl rfl h139 rfl) ?_
                refine E0 (wanted_none rfl) rfl (y_pickT rfl rfl h137 rfl) ?_
                refine Enil ?_
                refine W_condF rfl rfl ?_
                refine W_skip ?_
                refine W_region ?_
                refine L0 (wanted_none rfl) rfl (y_move (v := Value.int _ _) rfl rfl) ?_
                refine L0 (wanted_none rfl) rfl (y_add64 rfl rfl rfl (by omega)) ?_
                refine L0 (wanted_none rfl) rfl (y_assign (v := Value.int _ _) rfl rfl) ?_
                refine Lnil ?_
                exact ⟨i + 1, by first | omega | (dsimp only; done) | (dsimp only; omega), _, A_c (iv_eq (by first | omega | (dsimp only; done) | (dsimp only; omega))) (A_c rfl (A_c rfl (A_c rfl (A_c rfl (A_c rfl (rfl)))))), by omega, hs136⟩
            · have h137' := h137
              first | replace h137' := of_decide_eq_false h137' | replace h137' := bnF' h137' | skip
              refine Eno (wanted_noB rfl rfl rfl h137 (by decide)) rfl ?_
              refine Eno (wanted_noB rfl rfl rfl h137 (by decide)) rfl ?_
              refine Eno (wanted_noB rfl rfl rfl h137 (by decide)) rfl ?_
              refine Eno (wanted_noU rfl rfl rfl) rfl ?_
              refine Eno (wanted_noU rfl rfl rfl) rfl ?_
              refine Eno (wanted_noU rfl rfl rfl) rfl ?_
              refine Eno (wanted_noU rfl rfl rfl) rfl ?_
              refine Eno (wanted_noU rfl rfl rfl) rfl ?_
              refine Eno (wanted_noU rfl rfl rfl) rfl ?_
              refine E1no hs136 (wanted_noU rfl rfl rfl) rfl ?_
              refine E1no hs136 (wanted_noU rfl rfl rfl) rfl ?_
              refine Eno (wanted_noU rfl rfl rfl) rfl ?_
              refine Eno (wanted_noB rfl rfl rfl h137 (by decide)) rfl ?_
              refine Eno (wanted_noB rfl rfl rfl h137 (by decide)) rfl ?_
              refine Eno (wanted_noU rfl rfl rfl) rfl ?_
              refine Eno (wanted_noU rfl rfl rfl) rfl ?_
              refine Eno (wanted_noU rfl rfl rfl) rfl ?_
              refine Eno (wanted_noU rfl rfl rfl) rfl ?_
              refine Eno (wanted_noU rfl rfl rfl) rfl ?_
              refine Eno (wanted_noU rfl rfl rfl) rfl ?_
              refine E1no hs136 (wanted_noU rfl rfl rfl) rfl ?_
              refine E1no hs136 (wanted_noU rfl rfl rfl) rfl ?_
              refine Eno (wanted_noU rfl rfl rfl) rfl ?_
              refine Eno (wanted_noU rfl rfl rfl) rfl ?_
              refine Eno (wanted_noU rfl rfl rfl) rfl ?_
              refine Eno (wanted_noU rfl rfl rfl) rfl ?_
              refine Eno (wanted_noU rfl rfl rfl) rfl ?_
              refine Eno (wanted_noU rfl rfl rfl) rfl ?_
              refine Eno (wanted_noB rfl rfl rfl h137 (by decide)) rfl ?_
              refine E0 (wanted_none rfl) rfl (y_pickF rfl rfl h137 rfl) ?_
              refine Enil ?_
              refine W_condF rfl rfl ?_
              refine W_skip ?_
              refine W_region ?_
              refine L0 (wanted_none rfl) rfl (y_move (v := Value.int _ _) rfl rfl) ?_
              refine L0 (wanted_none rfl) rfl (y_add64 rfl rfl rfl (by omega)) ?_
              refine L0 (wanted_none rfl) rfl (y_assign (v := Value.int _ _) rfl rfl) ?_
              refine Lnil ?_
              exact ⟨i + 1, by first | omega | (dsimp only; done) | (dsimp only; omega), _, A_c (iv_eq (by first | omega | (dsimp only; done) | (dsimp only; omega))) (A_c rfl (A_c rfl (A_c rfl (A_c rfl (A_c rfl (rfl)))))), by omega, hs136⟩
          · have h134' := h134
            first | replace h134' := of_decide_eq_false h134' | replace h134' := bnF' h134' | skip
            refine W_condF rfl h134 ?_
            refine W_exit ?_
            refine W_seq ?_
            refine W_seq ?_
            refine W_region ?_
            refine L0 (wanted_none rfl) rfl (y_move (v := Value.bool _) rfl rfl) ?_
            refine L0 (wanted_none rfl) rfl (y_move (v := Value.bool _) rfl rfl) ?_
            refine Lsp (t := 135) rfl (fun h142 => ?_) (fun h142 => ?_)
            · have h142' := h142
              first | replace h142' := of_decide_eq_true h142' | replace h142' := bnT' h142' | skip
              refine L0 (wanted_yesB rfl rfl rfl h142) rfl (y_move (v := Value.int _ _) rfl rfl) ?_
              refine L0 (wanted_yesB rfl rfl rfl h142) rfl (y_move (v := va) rfl rfl) ?_
              refine L0 (wanted_yesB rfl rfl rfl h142) rfl (y_slenSl rfl Try.underlying34 rfl hSa) ?_
              refine L0 (wanted_yesB rfl rfl rfl h142) rfl (y_ge rfl rfl rfl) ?_
              refine L0 (wanted_yesB rfl rfl rfl h142) rfl (y_move (v := Value.bool _) rfl rfl) ?_
              refine Lkn (t := 140) (b0 := false) rfl (by exact decide_eq_false (by obtain ⟨q1, q2⟩ := best_found hB (by omega); omega)) (fun h143 => ?_)
              refine L0 (wanted_yesB rfl rfl rfl h143) rfl (y_move (v := va) rfl rfl) ?_
              refine L0 (wanted_yesB rfl rfl rfl h143) rfl (y_move (v := Value.int _ _) rfl rfl) ?_
              obtain ⟨q1, q2⟩ := best_found hB (by omega)
              refine L0 (wanted_yesB rfl rfl rfl h143) rfl (y_indexSlAt rfl Try.underlying34 sz3 rfl rfl hSa (by omega) (by omega)) ?_
              refine L1 (wanted_yesB rfl rfl rfl h143) rfl hs132 (y_loadSl (max b 0).toNat rfl Try.underlying3 rfl rfl hSa (by omega) (by omega) (by intro k hk; first | (simp [keys] at hk; done) | (simp [keys] at hk; omega))) ?_
              refine L0 (wanted_yesB rfl rfl rfl h143) rfl (y_lt rfl rfl rfl) ?_
              refine L0 (wanted_yesB rfl rfl rfl h142) rfl (y_pickF rfl rfl h143 rfl) ?_
              refine L0 (wanted_none rfl) rfl (y_pickT rfl rfl h142 rfl) ?_
              refine Lnil ?_
              refine Wkn (t := 147) (b0 := false) rfl (by exact decide_eq_false (by obtain ⟨q1, q2⟩ := best_found hB (by omega); omega)) (fun h144 => ?_)
              refine W_condF rfl h144 ?_
              refine W_skip ?_
              refine W_seq ?_
              refine W_region ?_
              refine L1 (wanted_none rfl) rfl hs132 ((y_loadT 0 rfl rfl rfl)) ?_
              refine Lc (wanted_none rfl) (c_call rfl rfl rfl Try.func34 (by kernel_rfl) rfl (live_any T w131) rfl ?_)
              rintro vA w145 ⟨eA, hrA, hc146⟩
              obtain ⟨g, capA, cur, fz, rfl, rfl, hg, hgl, hfz, hsz, hget⟩ := row_block hrA (by decide) 0
              have hg2 : w.heap.size ≤ g := Nat.le_trans hs132.size hg
              have hs147 := (hs132.call_new hc146 (row_keys hrA)).perm (List.perm_append_comm (l₁ := [_]))
              refine L0 (wanted_none rfl) rfl (y_assign (v := Value.slice _ _ _) rfl rfl) ?_
              refine Lnil ?_
              refine W_seq ?_
              refine W_seq ?_
              refine W_region ?_
              refine L0 (wanted_none rfl) rfl (y_assign (v := Value.int _ _) rfl rfl) ?_
              refine Lnil ?_
              refine W_block ?_
              refine W_loop (G := Nat) (fun i aL wl => ∃ e, aL = A 175 ((16, iv i) :: (7, pv b2 0) :: (15, .slice (some ⟨g, 0, none⟩) 8 capA) :: e) ∧ i ≤ 8 ∧ St w [(b2, .cells ⟨tbl T⟩ 59 (0, 0)), (g, .cells cur 3 fz)] wl) (fun i => 8 - i) (0) ?_ ?_
              · exact ⟨_, A_pins _ _ [16, 7, 15], Nat.zero_le _, hs147⟩
              rintro i _ w148 ⟨ehs149, rfl, hi, hs149⟩
              refine W_seq ?_
              refine W_seq ?_
              refine W_region ?_
              refine L0 (wanted_none rfl) rfl (y_move (v := Value.int _ _) rfl rfl) ?_
              refine L0 (wanted_none rfl) rfl (y_lt rfl rfl rfl) ?_
              refine Lnil ?_
              refine Wsp (t := 151) rfl (fun h150 => ?_) (fun h150 => ?_)
              · have h150' := h150
                first | replace h150' := of_decide_eq_true h150' | replace h150' := bnT' h150' | skip
                refine W_condT rfl h150 ?_
                refine W_skip ?_
                refine W_seq ?_
                refine W_block ?_
                refine W_seq ?_
                refine W_drawSt [(0, 0), (0, 1), (0, 2), (0, 3), (1, 4), (0, 5), (0, 8), (0, 9), (0, 10), (1, 11), (3, 6), (0, 7), (0, 12), (0, 13), (0, 14), (1, 15), (0, 16), (3, 17), (3, 18), (0, 19), (0, 20)] hs149 mixed (by kernel_rfl) (fun w151 hs152 => ?_)
                refine E0 (wanted_none rfl) rfl (y_move (v := Value.slice _ _ _) rfl rfl) ?_
                refine E0 (wanted_none rfl) rfl (y_slen rfl Try.underlying34 rfl) ?_
                refine E0 (wanted_none rfl) rfl (y_ne rfl rfl rfl) ?_
                refine E0 (wanted_none rfl) rfl (y_move (v := Value.bool _) rfl rfl) ?_
                refine Ekn (t := 157) (b0 := false) rfl (by exact bnF rfl) (fun h153 => ?_)
                refine E1 hs152 (wanted_yesB rfl rfl rfl h153) rfl ((y_loadT 0 rfl rfl rfl)) ?_
                refine E0 (wanted_yesB rfl rfl rfl h153) rfl (y_move (v := Value.int _ _) rfl rfl) ?_
                refine E0 (wanted_yesB rfl rfl rfl h153) rfl (y_move (v := Value.slice _ _ _) rfl rfl) ?_
                refine E0 (wanted_yesB rfl rfl rfl h153) rfl (y_move (v := Value.int _ _) rfl rfl) ?_
                refine E0 (wanted_yesB rfl rfl rfl h153) rfl (y_indexSl rfl Try.underlying34 sz3 rfl rfl (by omega) (by omega)) ?_
                refine E1 hs152 (wanted_yesB rfl rfl rfl h153) rfl (y_load 1 rfl Try.underlying3 rfl rfl rfl (by rw [ix1]; exact hget i (by omega))) ?_
                refine E3 (wanted_yesB rfl rfl rfl h153) (c_call rfl rfl rfl Try.func36 (by kernel_rfl) rfl (in_any T i w151) rfl ?_)
                rintro vC w154 ⟨eC, hrC, hc155⟩
                have hC : Sl w154 vC (inT T i 24).length (nums (inT T i 24)) := hrC.sl hc155 (fun x hx => hx) 0
                have hs156 := (hs152.call_new hc155 (row_keys hrC)).dropL (M := eC) (fun x hx => Nat.le_trans hs152.size (hrC.new x hx))
                refine ⟨fun _ => hs156, ?_⟩
                refine E0 (wanted_yesB rfl rfl rfl h153) rfl (y_slenSl rfl Try.underlying34 rfl hC) ?_
                refine E0 (wanted_yesB rfl rfl rfl h153) rfl (y_ne rfl rfl rfl) ?_
                refine E0 (wanted_none rfl) rfl (y_pickF rfl rfl h153 rfl) ?_
                refine E0 (wanted_none rfl) rfl (y_move (v := Value.bool _) rfl rfl) ?_
                refine Ekn (t := 168) (b0 := false) rfl (by exact bnF (lvI_get T (by omega)).symm) (fun h157 => ?_)
                refine E1 hs156 (wanted_yesB rfl rfl rfl h157) rfl ((y_loadT 0 rfl rfl rfl)) ?_
                refine E0 (wanted_yesB rfl rfl rfl h157) rfl (y_move (v := Value.int _ _) rfl rfl) ?_
                refine E3 (wanted_yesB rfl rfl rfl h157) (c_call rfl rfl rfl Try.func36 (by kernel_rfl) rfl (in_any T i w154) rfl ?_)
                rintro vE w158 ⟨eE, hrE, hc159⟩
                have hEE : Sl w158 vE (inT T i 24).length (nums (inT T i 24)) := hrE.sl hc159 (fun x hx => hx) 0
                have hs160 := (hs156.call_new hc159 (row_keys hrE)).dropL (M := eE) (fun x hx => Nat.le_trans hs156.size (hrE.new x hx))
                refine ⟨fun _ => hs160, ?_⟩
                refine E3 (wanted_yesB rfl rfl rfl h157) (c_call rfl rfl rfl Try.func39 (by kernel_rfl) rfl (isSorted_any (inT T i 24) vE (by have := inT_len T i 24; omega) (fun j k a b => inT_sortedN T i 24 j k a b) w158 hEE) rfl ?_)
                rintro _ w161 ⟨rfl, hc162⟩
                have hs163 := hs160.call0 hc162
                refine ⟨fun _ => hs163, ?_⟩
                refine E0 (wanted_yesB rfl rfl rfl h157) rfl (y_not rfl rfl) ?_
                refine E0 (wanted_none rfl) rfl (y_pickF rfl rfl h157 rfl) ?_
                refine Enil ?_
                refine Wkn (t := 174) (b0 := false) rfl (by rfl) (fun h164 => ?_)
                refine W_condF rfl h164 ?_
                refine W_skip ?_
                refine W_region ?_
                refine L0 (wanted_none rfl) rfl (y_move (v := Value.int _ _) rfl rfl) ?_
                refine L0 (wanted_none rfl) rfl (y_add64 rfl rfl rfl (by omega)) ?_
                refine L0 (wanted_none rfl) rfl (y_assign (v := Value.int _ _) rfl rfl) ?_
                refine Lnil ?_
                exact ⟨i + 1, by first | omega | (dsimp only; done) | (dsimp only; omega), _, A_c (iv_eq (by first | omega | (dsimp only; done) | (dsimp only; omega))) (A_c rfl (A_c rfl (rfl))), by omega, hs163⟩
              · have h150' := h150
                first | replace h150' := of_decide_eq_false h150' | replace h150' := bnF' h150' | skip
                refine W_condF rfl h150 ?_
                refine W_exit ?_
                refine W_seq ?_
                refine W_region ?_
                refine L0 (wanted_none rfl) rfl (y_assign (v := Value.bool _) rfl rfl) ?_
                refine Lnil ?_
                refine W_ret ?_
                refine fin1 (fn := Try.f7) rfl rfl ?_
                exact ⟨rfl, forget hs149 (by intro x hx; simp only [List.mem_cons, List.not_mem_nil, or_false] at hx; rcases hx with rfl | rfl <;> assumption)⟩
            · have h142' := h142
              first | replace h142' := of_decide_eq_false h142' | replace h142' := bnF' h142' | skip
              refine Lno (wanted_noB rfl rfl rfl h142 (by decide)) rfl ?_
              refine Lno (wanted_noB rfl rfl rfl h142 (by decide)) rfl ?_
              refine Lno (wanted_noB rfl rfl rfl h142 (by decide)) rfl ?_
              refine Lno (wanted_noB rfl rfl rfl h142 (by decide)) rfl ?_
              refine Lno (wanted_noB rfl rfl rfl h142 (by decide)) rfl ?_
              refine Lno (wanted_noU rfl rfl rfl) rfl ?_
              refine Lno (wanted_noU rfl rfl rfl) rfl ?_
              refine Lno (wanted_noU rfl rfl rfl) rfl ?_
              refine Lno (wanted_noU rfl rfl rfl) rfl ?_
              refine Lno (wanted_noU rfl rfl rfl) rfl ?_
              refine Lno (wanted_noB rfl rfl rfl h142 (by decide)) rfl ?_
              refine L0 (wanted_none rfl) rfl (y_pickF rfl rfl h142 rfl) ?_
              refine Lnil ?_
              refine W_condF rfl rfl ?_
              refine W_skip ?_
              refine W_seq ?_
              refine W_region ?_
              refine L1 (wanted_none rfl) rfl hs132 ((y_loadT 0 rfl rfl rfl)) ?_
              refine Lc (wanted_none rfl) (c_call rfl rfl rfl Try.func34 (by kernel_rfl) rfl (live_any T w131) rfl ?_)
              rintro vA w165 ⟨eA, hrA, hc166⟩
              obtain ⟨g, capA, cur, fz, rfl, rfl, hg, hgl, hfz, hsz, hget⟩ := row_block hrA (by decide) 0
              have hg2 : w.heap.size ≤ g := Nat.le_trans hs132.size hg
              have hs167 := (hs132.call_new hc166 (row_keys hrA)).perm (List.perm_append_comm (l₁ := [_]))
              refine L0 (wanted_none rfl) rfl (y_assign (v := Value.slice _ _ _) rfl rfl) ?_
              refine Lnil ?_
              refine W_seq ?_
              refine W_seq ?_
              refine W_region ?_
              refine L0 (wanted_none rfl) rfl (y_assign (v := Value.int _ _) rfl rfl) ?_
              refine Lnil ?_
              refine W_block ?_
              refine W_loop (G := Nat) (fun i aL wl => ∃ e, aL = A 175 ((16, iv i) :: (7, pv b2 0) :: (15, .slice (some ⟨g, 0, none⟩) 8 capA) :: e) ∧ i ≤ 8 ∧ St w [(b2, .cells ⟨tbl T⟩ 59 (0, 0)), (g, .cells cur 3 fz)] wl) (fun i => 8 - i) (0) ?_ ?_
              · exact ⟨_, A_pins _ _ [16, 7, 15], Nat.zero_le _, hs167⟩
              rintro i _ w168 ⟨ehs169, rfl, hi, hs169⟩
              refine W_seq ?_
              refine W_seq ?_
              refine W_region ?_
              refine L0 (wanted_none rfl) rfl (y_move (v := Value.int _ _) rfl rfl) ?_
              refine L0 (wanted_none rfl) rfl (y_lt rfl rfl rfl) ?_
              refine Lnil ?_
              refine Wsp (t := 151) rfl (fun h170 => ?_) (fun h170 => ?_)
              · have h170' := h170
                first | replace h170' := of_decide_eq_true h170' | replace h170' := bnT' h170' | skip
                refine W_condT rfl h170 ?_
                refine W_skip ?_
                refine W_seq ?_
                refine W_block ?_
                refine W_seq ?_
                refine W_drawSt [(0, 0), (0, 1), (0, 2), (0, 3), (1, 4), (0, 5), (0, 8), (0, 9), (0, 10), (1, 11), (3, 6), (0, 7), (0, 12), (0, 13), (0, 14), (1, 15), (0, 16), (3, 17), (3, 18), (0, 19), (0, 20)] hs169 mixed (by kernel_rfl) (fun w171 hs172 => ?_)
                refine E0 (wanted_none rfl) rfl (y_move (v := Value.slice _ _ _) rfl rfl) ?_
                refine E0 (wanted_none rfl) rfl (y_slen rfl Try.underlying34 rfl) ?_
                refine E0 (wanted_none rfl) rfl (y_ne rfl rfl rfl) ?_
                refine E0 (wanted_none rfl) rfl (y_move (v := Value.bool _) rfl rfl) ?_
                refine Ekn (t := 157) (b0 := false) rfl (by exact bnF rfl) (fun h173 => ?_)
                refine E1 hs172 (wanted_yesB rfl rfl rfl h173) rfl ((y_loadT 0 rfl rfl rfl)) ?_
                refine E0 (wanted_yesB rfl rfl rfl h173) rfl (y_move (v := Value.int _ _) rfl rfl) ?_
                refine E0 (wanted_yesB rfl rfl rfl h173) rfl (y_move (v := Value.slice _ _ _) rfl rfl) ?_
                refine E0 (wanted_yesB rfl rfl rfl h173) rfl (y_move (v := Value.int _ _) rfl rfl) ?_
                refine E0 (wanted_yesB rfl rfl rfl h173) rfl (y_indexSl rfl Try.underlying34 sz3 rfl rfl (by omega) (by omega)) ?_
                refine E1 hs172 (wanted_yesB rfl rfl rfl h173) rfl (y_load 1 rfl Try.underlying3 rfl rfl rfl (by rw [ix1]; exact hget i (by omega))) ?_
                refine E3 (wanted_yesB rfl rfl rfl h173) (c_call rfl rfl rfl Try.func36 (by kernel_rfl) rfl (in_any T i w171) rfl ?_)
                rintro vC w174 ⟨eC, hrC, hc175⟩
                have hC : Sl w174 vC (inT T i 24).length (nums (inT T i 24)) := hrC.sl hc175 (fun x hx => hx) 0
                have hs176 := (hs172.call_new hc175 (row_keys hrC)).dropL (M := eC) (fun x hx => Nat.le_trans hs172.size (hrC.new x hx))
                refine ⟨fun _ => hs176, ?_⟩
                refine E0 (wanted_yesB rfl rfl rfl h173) rfl (y_slenSl rfl Try.underlying34 rfl hC) ?_
                refine E0 (wanted_yesB rfl rfl rfl h173) rfl (y_ne rfl rfl rfl) ?_
                refine E0 (wanted_none rfl) rfl (y_pickF rfl rfl h173 rfl) ?_
                refine E0 (wanted_none rfl) rfl (y_move (v := Value.bool _) rfl rfl) ?_
                refine Ekn (t := 168) (b0 := false) rfl (by exact bnF (lvI_get T (by omega)).symm) (fun h177 => ?_)
                refine E1 hs176 (wanted_yesB rfl rfl rfl h177) rfl ((y_loadT 0 rfl rfl rfl)) ?_
                refine E0 (wanted_yesB rfl rfl rfl h177) rfl (y_move (v := Value.int _ _) rfl rfl) ?_
                refine E3 (wanted_yesB rfl rfl rfl h177) (c_call rfl rfl rfl Try.func36 (by kernel_rfl) rfl (in_any T i w174) rfl ?_)
                rintro vE w178 ⟨eE, hrE, hc179⟩
                have hEE : Sl w178 vE (inT T i 24).length (nums (inT T i 24)) := hrE.sl hc179 (fun x hx => hx) 0
                have hs180 := (hs176.call_new hc179 (row_keys hrE)).dropL (M := eE) (fun x hx => Nat.le_trans hs176.size (hrE.new x hx))
                refine ⟨fun _ => hs180, ?_⟩
                refine E3 (wanted_yesB rfl rfl rfl h177) (c_call rfl rfl rfl Try.func39 (by kernel_rfl) rfl (isSorted_any (inT T i 24) vE (by have := inT_len T i 24; omega) (fun j k a b => inT_sortedN T i 24 j k a b) w178 hEE) rfl ?_)
                rintro _ w181 ⟨rfl, hc182⟩
                have hs183 := hs180.call0 hc182
                refine ⟨fun _ => hs183, ?_⟩
                refine E0 (wanted_yesB rfl rfl rfl h177) rfl (y_not rfl rfl) ?_
                refine E0 (wanted_none rfl) rfl (y_pickF rfl rfl h177 rfl) ?_
                refine Enil ?_
                refine Wkn (t := 174) (b0 := false) rfl (by rfl) (fun h184 => ?_)
                refine W_condF rfl h184 ?_
                refine W_skip ?_
                refine W_region ?_
                refine L0 (wanted_none rfl) rfl (y_move (v := Value.int _ _) rfl rfl) ?_
                refine L0 (wanted_none rfl) rfl (y_add64 rfl rfl rfl (by omega)) ?_
                refine L0 (wanted_none rfl) rfl (y_assign (v := Value.int _ _) rfl rfl) ?_
                refine Lnil ?_
                exact ⟨i + 1, by first | omega | (dsimp only; done) | (dsimp only; omega), _, A_c (iv_eq (by first | omega | (dsimp only; done) | (dsimp only; omega))) (A_c rfl (A_c rfl (rfl))), by omega, hs183⟩
              · have h170' := h170
                first | replace h170' := of_decide_eq_false h170' | replace h170' := bnF' h170' | skip
                refine W_condF rfl h170 ?_
                refine W_exit ?_
                refine W_seq ?_
                refine W_region ?_
                refine L0 (wanted_none rfl) rfl (y_assign (v := Value.bool _) rfl rfl) ?_
                refine Lnil ?_
                refine W_ret ?_
                refine fin1 (fn := Try.f7) rfl rfl ?_
                exact ⟨rfl, forget hs169 (by intro x hx; simp only [List.mem_cons, List.not_mem_nil, or_false] at hx; rcases hx with rfl | rfl <;> assumption)⟩
        · have h133' := h133
          first | replace h133' := of_decide_eq_false h133' | replace h133' := bnF' h133' | skip
          refine Lno (wanted_noB rfl rfl rfl h133 (by decide)) rfl ?_
          refine Lno (wanted_noB rfl rfl rfl h133 (by decide)) rfl ?_
          refine Lno (wanted_noB rfl rfl rfl h133 (by decide)) rfl ?_
          refine Lno (wanted_noB rfl rfl rfl h133 (by decide)) rfl ?_
          refine L0 (wanted_none rfl) rfl (y_pickF rfl rfl h133 rfl) ?_
          refine Lnil ?_
          refine W_condF rfl rfl ?_
          refine W_exit ?_
          refine W_seq ?_
          refine W_seq ?_
          refine W_region ?_
          refine L0 (wanted_none rfl) rfl (y_move (v := Value.bool _) rfl rfl) ?_
          refine L0 (wanted_none rfl) rfl (y_move (v := Value.bool _) rfl rfl) ?_
          refine Lsp (t := 135) rfl (fun h185 => ?_) (fun h185 => ?_)
          · have h185' := h185
            first | replace h185' := of_decide_eq_true h185' | replace h185' := bnT' h185' | skip
            refine L0 (wanted_yesB rfl rfl rfl h185) rfl (y_move (v := Value.int _ _) rfl rfl) ?_
            refine L0 (wanted_yesB rfl rfl rfl h185) rfl (y_move (v := va) rfl rfl) ?_
            refine L0 (wanted_yesB rfl rfl rfl h185) rfl (y_slenSl rfl Try.underlying34 rfl hSa) ?_
            refine L0 (wanted_yesB rfl rfl rfl h185) rfl (y_ge rfl rfl rfl) ?_
            refine L0 (wanted_yesB rfl rfl rfl h185) rfl (y_move (v := Value.bool _) rfl rfl) ?_
            refine Lkn (t := 140) (b0 := false) rfl (by exact decide_eq_false (by obtain ⟨q1, q2⟩ := best_found hB (by omega); omega)) (fun h186 => ?_)
            refine L0 (wanted_yesB rfl rfl rfl h186) rfl (y_move (v := va) rfl rfl) ?_
            refine L0 (wanted_yesB rfl rfl rfl h186) rfl (y_move (v := Value.int _ _) rfl rfl) ?_
            obtain ⟨q1, q2⟩ := best_found hB (by omega)
            refine L0 (wanted_yesB rfl rfl rfl h186) rfl (y_indexSlAt rfl Try.underlying34 sz3 rfl rfl hSa (by omega) (by omega)) ?_
            refine L1 (wanted_yesB rfl rfl rfl h186) rfl hs132 (y_loadSl (max b 0).toNat rfl Try.underlying3 rfl rfl hSa (by omega) (by omega) (by intro k hk; first | (simp [keys] at hk; done) | (simp [keys] at hk; omega))) ?_
            refine L0 (wanted_yesB rfl rfl rfl h186) rfl (y_lt rfl rfl rfl) ?_
            refine L0 (wanted_yesB rfl rfl rfl h185) rfl (y_pickF rfl rfl h186 rfl) ?_
            refine L0 (wanted_none rfl) rfl (y_pickT rfl rfl h185 rfl) ?_
            refine Lnil ?_
            refine Wkn (t := 147) (b0 := false) rfl (by exact decide_eq_false (by obtain ⟨q1, q2⟩ := best_found hB (by omega); omega)) (fun h187 => ?_)
            refine W_condF rfl h187 ?_
            refine W_skip ?_
            refine W_seq ?_
            refine W_region ?_
            refine L1 (wanted_none rfl) rfl hs132 ((y_loadT 0 rfl rfl rfl)) ?_
            refine Lc (wanted_none rfl) (c_call rfl rfl rfl Try.func34 (by kernel_rfl) rfl (live_any T w131) rfl ?_)
            rintro vA w188 ⟨eA, hrA, hc189⟩
            obtain ⟨g, capA, cur, fz, rfl, rfl, hg, hgl, hfz, hsz, hget⟩ := row_block hrA (by decide) 0
            have hg2 : w.heap.size ≤ g := Nat.le_trans hs132.size hg
            have hs190 := (hs132.call_new hc189 (row_keys hrA)).perm (List.perm_append_comm (l₁ := [_]))
            refine L0 (wanted_none rfl) rfl (y_assign (v := Value.slice _ _ _) rfl rfl) ?_
            refine Lnil ?_
            refine W_seq ?_
            refine W_seq ?_
            refine W_region ?_
            refine L0 (wanted_none rfl) rfl (y_assign (v := Value.int _ _) rfl rfl) ?_
            refine Lnil ?_
            refine W_block ?_
            refine W_loop (G := Nat) (fun i aL wl => ∃ e, aL = A 175 ((16, iv i) :: (7, pv b2 0) :: (15, .slice (some ⟨g, 0, none⟩) 8 capA) :: e) ∧ i ≤ 8 ∧ St w [(b2, .cells ⟨tbl T⟩ 59 (0, 0)), (g, .cells cur 3 fz)] wl) (fun i => 8 - i) (0) ?_ ?_
            · exact ⟨_, A_pins _ _ [16, 7, 15], Nat.zero_le _, hs190⟩
            rintro i _ w191 ⟨ehs192, rfl, hi, hs192⟩
            refine W_seq ?_
            refine W_seq ?_
            refine W_region ?_
            refine L0 (wanted_none rfl) rfl (y_move (v := Value.int _ _) rfl rfl) ?_
            refine L0 (wanted_none rfl) rfl (y_lt rfl rfl rfl) ?_
            refine Lnil ?_
            refine Wsp (t := 151) rfl (fun h193 => ?_) (fun h193 => ?_)
            · have h193' := h193
              first | replace h193' := of_decide_eq_true h193' | replace h193' := bnT' h193' | skip
              refine W_condT rfl h193 ?_
              refine W_skip ?_
              refine W_seq ?_
              refine W_block ?_
              refine W_seq ?_
              refine W_drawSt [(0, 0), (0, 1), (0, 2), (0, 3), (1, 4), (0, 5), (0, 8), (0, 9), (0, 10), (1, 11), (3, 6), (0, 7), (0, 12), (0, 13), (0, 14), (1, 15), (0, 16), (3, 17), (3, 18), (0, 19), (0, 20)] hs192 mixed (by kernel_rfl) (fun w194 hs195 => ?_)
              refine E0 (wanted_none rfl) rfl (y_move (v := Value.slice _ _ _) rfl rfl) ?_
              refine E0 (wanted_none rfl) rfl (y_slen rfl Try.underlying34 rfl) ?_
              refine E0 (wanted_none rfl) rfl (y_ne rfl rfl rfl) ?_
              refine E0 (wanted_none rfl) rfl (y_move (v := Value.bool _) rfl rfl) ?_
              refine Ekn (t := 157) (b0 := false) rfl (by exact bnF rfl) (fun h196 => ?_)
              refine E1 hs195 (wanted_yesB rfl rfl rfl h196) rfl ((y_loadT 0 rfl rfl rfl)) ?_
              refine E0 (wanted_yesB rfl rfl rfl h196) rfl (y_move (v := Value.int _ _) rfl rfl) ?_
              refine E0 (wanted_yesB rfl rfl rfl h196) rfl (y_move (v := Value.slice _ _ _) rfl rfl) ?_
              refine E0 (wanted_yesB rfl rfl rfl h196) rfl (y_move (v := Value.int _ _) rfl rfl) ?_
              refine E0 (wanted_yesB rfl rfl rfl h196) rfl (y_indexSl rfl Try.underlying34 sz3 rfl rfl (by omega) (by omega)) ?_
              refine E1 hs195 (wanted_yesB rfl rfl rfl h196) rfl (y_load 1 rfl Try.underlying3 rfl rfl rfl (by rw [ix1]; exact hget i (by omega))) ?_
              refine E3 (wanted_yesB rfl rfl rfl h196) (c_call rfl rfl rfl Try.func36 (by kernel_rfl) rfl (in_any T i w194) rfl ?_)
              rintro vC w197 ⟨eC, hrC, hc198⟩
              have hC : Sl w197 vC (inT T i 24).length (nums (inT T i 24)) := hrC.sl hc198 (fun x hx => hx) 0
              have hs199 := (hs195.call_new hc198 (row_keys hrC)).dropL (M := eC) (fun x hx => Nat.le_trans hs195.size (hrC.new x hx))
              refine ⟨fun _ => hs199, ?_⟩
              refine E0 (wanted_yesB rfl rfl rfl h196) rfl (y_slenSl rfl Try.underlying34 rfl hC) ?_
              refine E0 (wanted_yesB rfl rfl rfl h196) rfl (y_ne rfl rfl rfl) ?_
              refine E0 (wanted_none rfl) rfl (y_pickF rfl rfl h196 rfl) ?_
              refine E0 (wanted_none rfl) rfl (y_move (v := Value.bool _) rfl rfl) ?_
              refine Ekn (t := 168) (b0 := false) rfl (by exact bnF (lvI_get T (by omega)).symm) (fun h200 => ?_)
              refine E1 hs199 (wanted_yesB rfl rfl rfl h200) rfl ((y_loadT 0 rfl rfl rfl)) ?_
              refine E0 (wanted_yesB rfl rfl rfl h200) rfl (y_move (v := Value.int _ _) rfl rfl) ?_
              refine E3 (wanted_yesB rfl rfl rfl h200) (c_call rfl rfl rfl Try.func36 (by kernel_rfl) rfl (in_any T i w197) rfl ?_)
              rintro vE w201 ⟨eE, hrE, hc202⟩
              have hEE : Sl w201 vE (inT T i 24).length (nums (inT T i 24)) := hrE.sl hc202 (fun x hx => hx) 0
              have hs203 := (hs199.call_new hc202 (row_keys hrE)).dropL (M := eE) (fun x hx => Nat.le_trans hs199.size (hrE.new x hx))
              refine ⟨fun _ => hs203, ?_⟩
              refine E3 (wanted_yesB rfl rfl rfl h200) (c_call rfl rfl rfl Try.func39 (by kernel_rfl) rfl (isSorted_any (inT T i 24) vE (by have := inT_len T i 24; omega) (fun j k a b => inT_sortedN T i 24 j k a b) w201 hEE) rfl ?_)
              rintro _ w204 ⟨rfl, hc205⟩
              have hs206 := hs203.call0 hc205
              refine ⟨fun _ => hs206, ?_⟩
              refine E0 (wanted_yesB rfl rfl rfl h200) rfl (y_not rfl rfl) ?_
              refine E0 (wanted_none rfl) rfl (y_pickF rfl rfl h200 rfl) ?_
              refine Enil ?_
              refine Wkn (t := 174) (b0 := false) rfl (by rfl) (fun h207 => ?_)
              refine W_condF rfl h207 ?_
              refine W_skip ?_
              refine W_region ?_
              refine L0 (wanted_none rfl) rfl (y_move (v := Value.int _ _) rfl rfl) ?_
              refine L0 (wanted_none rfl) rfl (y_add64 rfl rfl rfl (by omega)) ?_
              refine L0 (wanted_none rfl) rfl (y_assign (v := Value.int _ _) rfl rfl) ?_
              refine Lnil ?_
              exact ⟨i + 1, by first | omega | (dsimp only; done) | (dsimp only; omega), _, A_c (iv_eq (by first | omega | (dsimp only; done) | (dsimp only; omega))) (A_c rfl (A_c rfl (rfl))), by omega, hs206⟩
            · have h193' := h193
              first | replace h193' := of_decide_eq_false h193' | replace h193' := bnF' h193' | skip
              refine W_condF rfl h193 ?_
              refine W_exit ?_
              refine W_seq ?_
              refine W_region ?_
              refine L0 (wanted_none rfl) rfl (y_assign (v := Value.bool _) rfl rfl) ?_
              refine Lnil ?_
              refine W_ret ?_
              refine fin1 (fn := Try.f7) rfl rfl ?_
              exact ⟨rfl, forget hs192 (by intro x hx; simp only [List.mem_cons, List.not_mem_nil, or_false] at hx; rcases hx with rfl | rfl <;> assumption)⟩
          · have h185' := h185
            first | replace h185' := of_decide_eq_false h185' | replace h185' := bnF' h185' | skip
            refine Lno (wanted_noB rfl rfl rfl h185 (by decide)) rfl ?_
            refine Lno (wanted_noB rfl rfl rfl h185 (by decide)) rfl ?_
            refine Lno (wanted_noB rfl rfl rfl h185 (by decide)) rfl ?_
            refine Lno (wanted_noB rfl rfl rfl h185 (by decide)) rfl ?_
            refine Lno (wanted_noB rfl rfl rfl h185 (by decide)) rfl ?_
            refine Lno (wanted_noU rfl rfl rfl) rfl ?_
            refine Lno (wanted_noU rfl rfl rfl) rfl ?_
            refine Lno (wanted_noU rfl rfl rfl) rfl ?_
            refine Lno (wanted_noU rfl rfl rfl) rfl ?_
            refine Lno (wanted_noU rfl rfl rfl) rfl ?_
            refine Lno (wanted_noB rfl rfl rfl h185 (by decide)) rfl ?_
            refine L0 (wanted_none rfl) rfl (y_pickF rfl rfl h185 rfl) ?_
            refine Lnil ?_
            refine W_condF rfl rfl ?_
            refine W_skip ?_
            refine W_seq ?_
            refine W_region ?_
            refine L1 (wanted_none rfl) rfl hs132 ((y_loadT 0 rfl rfl rfl)) ?_
            refine Lc (wanted_none rfl) (c_call rfl rfl rfl Try.func34 (by kernel_rfl) rfl (live_any T w131) rfl ?_)
            rintro vA w208 ⟨eA, hrA, hc209⟩
            obtain ⟨g, capA, cur, fz, rfl, rfl, hg, hgl, hfz, hsz, hget⟩ := row_block hrA (by decide) 0
            have hg2 : w.heap.size ≤ g := Nat.le_trans hs132.size hg
            have hs210 := (hs132.call_new hc209 (row_keys hrA)).perm (List.perm_append_comm (l₁ := [_]))
            refine L0 (wanted_none rfl) rfl (y_assign (v := Value.slice _ _ _) rfl rfl) ?_
            refine Lnil ?_
            refine W_seq ?_
            refine W_seq ?_
            refine W_region ?_
            refine L0 (wanted_none rfl) rfl (y_assign (v := Value.int _ _) rfl rfl) ?_
            refine Lnil ?_
            refine W_block ?_
            refine W_loop (G := Nat) (fun i aL wl => ∃ e, aL = A 175 ((16, iv i) :: (7, pv b2 0) :: (15, .slice (some ⟨g, 0, none⟩) 8 capA) :: e) ∧ i ≤ 8 ∧ St w [(b2, .cells ⟨tbl T⟩ 59 (0, 0)), (g, .cells cur 3 fz)] wl) (fun i => 8 - i) (0) ?_ ?_
            · exact ⟨_, A_pins _ _ [16, 7, 15], Nat.zero_le _, hs210⟩
            rintro i _ w211 ⟨ehs212, rfl, hi, hs212⟩
            refine W_seq ?_
            refine W_seq ?_
            refine W_region ?_
            refine L0 (wanted_none rfl) rfl (y_move (v := Value.int _ _) rfl rfl) ?_
            refine L0 (wanted_none rfl) rfl (y_lt rfl rfl rfl) ?_
            refine Lnil ?_
            refine Wsp (t := 151) rfl (fun h213 => ?_) (fun h213 => ?_)
            · have h213' := h213
              first | replace h213' := of_decide_eq_true h213' | replace h213' := bnT' h213' | skip
              refine W_condT rfl h213 ?_
              refine W_skip ?_
              refine W_seq ?_
              refine W_block ?_
              refine W_seq ?_
              refine W_drawSt [(0, 0), (0, 1), (0, 2), (0, 3), (1, 4), (0, 5), (0, 8), (0, 9), (0, 10), (1, 11), (3, 6), (0, 7), (0, 12), (0, 13), (0, 14), (1, 15), (0, 16), (3, 17), (3, 18), (0, 19), (0, 20)] hs212 mixed (by kernel_rfl) (fun w214 hs215 => ?_)
              refine E0 (wanted_none rfl) rfl (y_move (v := Value.slice _ _ _) rfl rfl) ?_
              refine E0 (wanted_none rfl) rfl (y_slen rfl Try.underlying34 rfl) ?_
              refine E0 (wanted_none rfl) rfl (y_ne rfl rfl rfl) ?_
              refine E0 (wanted_none rfl) rfl (y_move (v := Value.bool _) rfl rfl) ?_
              refine Ekn (t := 157) (b0 := false) rfl (by exact bnF rfl) (fun h216 => ?_)
              refine E1 hs215 (wanted_yesB rfl rfl rfl h216) rfl ((y_loadT 0 rfl rfl rfl)) ?_
              refine E0 (wanted_yesB rfl rfl rfl h216) rfl (y_move (v := Value.int _ _) rfl rfl) ?_
              refine E0 (wanted_yesB rfl rfl rfl h216) rfl (y_move (v := Value.slice _ _ _) rfl rfl) ?_
              refine E0 (wanted_yesB rfl rfl rfl h216) rfl (y_move (v := Value.int _ _) rfl rfl) ?_
              refine E0 (wanted_yesB rfl rfl rfl h216) rfl (y_indexSl rfl Try.underlying34 sz3 rfl rfl (by omega) (by omega)) ?_
              refine E1 hs215 (wanted_yesB rfl rfl rfl h216) rfl (y_load 1 rfl Try.underlying3 rfl rfl rfl (by rw [ix1]; exact hget i (by omega))) ?_
              refine E3 (wanted_yesB rfl rfl rfl h216) (c_call rfl rfl rfl Try.func36 (by kernel_rfl) rfl (in_any T i w214) rfl ?_)
              rintro vC w217 ⟨eC, hrC, hc218⟩
              have hC : Sl w217 vC (inT T i 24).length (nums (inT T i 24)) := hrC.sl hc218 (fun x hx => hx) 0
              have hs219 := (hs215.call_new hc218 (row_keys hrC)).dropL (M := eC) (fun x hx => Nat.le_trans hs215.size (hrC.new x hx))
              refine ⟨fun _ => hs219, ?_⟩
              refine E0 (wanted_yesB rfl rfl rfl h216) rfl (y_slenSl rfl Try.underlying34 rfl hC) ?_
              refine E0 (wanted_yesB rfl rfl rfl h216) rfl (y_ne rfl rfl rfl) ?_
              refine E0 (wanted_none rfl) rfl (y_pickF rfl rfl h216 rfl) ?_
              refine E0 (wanted_none rfl) rfl (y_move (v := Value.bool _) rfl rfl) ?_
              refine Ekn (t := 168) (b0 := false) rfl (by exact bnF (lvI_get T (by omega)).symm) (fun h220 => ?_)
              refine E1 hs219 (wanted_yesB rfl rfl rfl h220) rfl ((y_loadT 0 rfl rfl rfl)) ?_
              refine E0 (wanted_yesB rfl rfl rfl h220) rfl (y_move (v := Value.int _ _) rfl rfl) ?_
              refine E3 (wanted_yesB rfl rfl rfl h220) (c_call rfl rfl rfl Try.func36 (by kernel_rfl) rfl (in_any T i w217) rfl ?_)
              rintro vE w221 ⟨eE, hrE, hc222⟩
              have hEE : Sl w221 vE (inT T i 24).length (nums (inT T i 24)) := hrE.sl hc222 (fun x hx => hx) 0
              have hs223 := (hs219.call_new hc222 (row_keys hrE)).dropL (M := eE) (fun x hx => Nat.le_trans hs219.size (hrE.new x hx))
              refine ⟨fun _ => hs223, ?_⟩
              refine E3 (wanted_yesB rfl rfl rfl h220) (c_call rfl rfl rfl Try.func39 (by kernel_rfl) rfl (isSorted_any (inT T i 24) vE (by have := inT_len T i 24; omega) (fun j k a b => inT_sortedN T i 24 j k a b) w221 hEE) rfl ?_)
              rintro _ w224 ⟨rfl, hc225⟩
              have hs226 := hs223.call0 hc225
              refine ⟨fun _ => hs226, ?_⟩
              refine E0 (wanted_yesB rfl rfl rfl h220) rfl (y_not rfl rfl) ?_
              refine E0 (wanted_none rfl) rfl (y_pickF rfl rfl h220 rfl) ?_
              refine Enil ?_
              refine Wkn (t := 174) (b0 := false) rfl (by rfl) (fun h227 => ?_)
              refine W_condF rfl h227 ?_
              refine W_skip ?_
              refine W_region ?_
              refine L0 (wanted_none rfl) rfl (y_move (v := Value.int _ _) rfl rfl) ?_
              refine L0 (wanted_none rfl) rfl (y_add64 rfl rfl rfl (by omega)) ?_
              refine L0 (wanted_none rfl) rfl (y_assign (v := Value.int _ _) rfl rfl) ?_
              refine Lnil ?_
              exact ⟨i + 1, by first | omega | (dsimp only; done) | (dsimp only; omega), _, A_c (iv_eq (by first | omega | (dsimp only; done) | (dsimp only; omega))) (A_c rfl (A_c rfl (rfl))), by omega, hs226⟩
            · have h213' := h213
              first | replace h213' := of_decide_eq_false h213' | replace h213' := bnF' h213' | skip
              refine W_condF rfl h213 ?_
              refine W_exit ?_
              refine W_seq ?_
              refine W_region ?_
              refine L0 (wanted_none rfl) rfl (y_assign (v := Value.bool _) rfl rfl) ?_
              refine Lnil ?_
              refine W_ret ?_
              refine fin1 (fn := Try.f7) rfl rfl ?_
              exact ⟨rfl, forget hs212 (by intro x hx; simp only [List.mem_cons, List.not_mem_nil, or_false] at hx; rcases hx with rfl | rfl <;> assumption)⟩
theorem fits_low (l v : List Int) (but : Int) (hbut : but < 0) (T : Tb) (va vb : Value) (hb1 : I64 l) (hcap : ∃ a cap, va = .slice a l.length cap ∧ l.length ≤ cap) (w : World) (hSa : Sl w va l.length (nums l)) (hSb : Sl w vb v.length (nums v)) :
    C Try.prog 7 ⟨[va, vb, iv but, .agg ⟨tbl T⟩]⟩ w fun r w' => r = .bool true ∧ St w [] w' := by
  refine C_enter (n := 175) Try.func7 rfl rfl rfl (fun w1 hs1 => ?_)
  obtain ⟨x, f, hE, hf, hx⟩ := open_facts l but
  have hsk := free_skip l but l.length
  have hfb := freeOf_bound l l.length
  refine W_seq ?_
  refine W_region ?_
  refine Lc (wanted_none rfl) (c_box hs1 rfl rfl rfl (fun b2 w3 hbb2 hs4 => ?_))
  refine L0 (wanted_none rfl) rfl (y_assign (v := Value.bool _) rfl rfl) ?_
  refine Lnil ?_
  refine W_seq ?_
  refine W_seq ?_
  refine W_region ?_
  refine L0 (wanted_none rfl) rfl (y_move (v := va) rfl rfl) ?_
  refine L0 (wanted_none rfl) rfl (y_slenSl rfl Try.underlying34 rfl hSa) ?_
  refine L0 (wanted_none rfl) rfl (y_gt rfl rfl rfl) ?_
  refine L0 (wanted_none rfl) rfl (y_move (v := Value.bool _) rfl rfl) ?_
  refine Lsp (t := 20) rfl (fun h5 => ?_) (fun h5 => ?_)
  · have h5' := h5
    first | replace h5' := of_decide_eq_true h5' | replace h5' := bnT' h5' | skip
    refine Lno (wanted_noB rfl rfl rfl h5 (by decide)) rfl ?_
    refine Lno (wanted_noB rfl rfl rfl h5 (by decide)) rfl ?_
    refine Lno (wanted_noB rfl rfl rfl h5 (by decide)) rfl ?_
    refine L0 (wanted_none rfl) rfl (y_pickT rfl rfl h5 rfl) ?_
    refine Lnil ?_
    refine W_condT rfl rfl ?_
    refine W_seq ?_
    refine W_region ?_
    refine L0 (wanted_none rfl) rfl (y_assign (v := Value.bool _) rfl rfl) ?_
    refine Lnil ?_
    refine W_ret ?_
    refine fin1 (fn := Try.f7) rfl rfl ?_
    exact ⟨rfl, hs4.drop (.inl hbb2)⟩
  · have h5' := h5
    first | replace h5' := of_decide_eq_false h5' | replace h5' := bnF' h5' | skip
    refine L0 (wanted_yesB rfl rfl rfl h5) rfl (y_move (v := vb) rfl rfl) ?_
    refine L0 (wanted_yesB rfl rfl rfl h5) rfl (y_slenSl rfl Try.underlying34 rfl hSb) ?_
    refine L0 (wanted_yesB rfl rfl rfl h5) rfl (y_gt rfl rfl rfl) ?_
    refine L0 (wanted_none rfl) rfl (y_pickF rfl rfl h5 rfl) ?_
    refine Lnil ?_
    refine Wsp (t := 24) rfl (fun h6 => ?_) (fun h6 => ?_)
    · have h6' := h6
      first | replace h6' := of_decide_eq_true h6' | replace h6' := bnT' h6' | skip
      refine W_condT rfl h6 ?_
      refine W_seq ?_
      refine W_region ?_
      refine L0 (wanted_none rfl) rfl (y_assign (v := Value.bool _) rfl rfl) ?_
      refine Lnil ?_
      refine W_ret ?_
      refine fin1 (fn := Try.f7) rfl rfl ?_
      exact ⟨rfl, forget hs4 (by intro x hx; simp only [List.mem_cons, List.not_mem_nil, or_false] at hx; rcases hx with rfl | rfl <;> assumption)⟩
    · have h6' := h6
      first | replace h6' := of_decide_eq_false h6' | replace h6' := bnF' h6' | skip
      refine W_condF rfl h6 ?_
      refine W_skip ?_
      refine W_seq ?_
      refine W_seq ?_
      refine W_region ?_
      refine Lc (wanted_none rfl) (c_call rfl rfl rfl Try.func38 (by kernel_rfl) rfl (spaced_any w3) rfl ?_)
      rintro _ w7 ⟨rfl, hc8⟩
      have hs9 := hs4.call0 hc8
      refine L0 (wanted_none rfl) rfl (y_not rfl rfl) ?_
      refine Lnil ?_
      refine Wkn (t := 26) (b0 := false) rfl (by rfl) (fun h10 => ?_)
      refine W_condF rfl h10 ?_
      refine W_skip ?_
      refine W_seq ?_
      refine W_region ?_
      refine L0 (wanted_none rfl) rfl (y_move (v := va) rfl rfl) ?_
      refine L0 (wanted_none rfl) rfl (y_move (v := Value.int _ _) rfl rfl) ?_
      refine Lc (wanted_none rfl) (c_call rfl rfl rfl Try.func28 (by kernel_rfl) rfl (open_space l but va (by omega) w7 (hSa.keep hs9 (by intro k hk; simp [keys] at hk; omega))) rfl ?_)
      rintro _ w11 ⟨rfl, hc12⟩
      rw [hE]
      have hs13 := hs9.call0 hc12
      refine L0 (wanted_none rfl) rfl (y_move (v := Value.tuple ⟨_⟩) rfl rfl) ?_
      refine L0 (wanted_none rfl) rfl (y_extract rfl rfl rfl) ?_
      refine L0 (wanted_none rfl) rfl (y_extract rfl rfl rfl) ?_
      refine L0 (wanted_none rfl) rfl (y_assign (v := Value.int _ _) rfl rfl) ?_
      refine L0 (wanted_none rfl) rfl (y_assign (v := Value.bool _) rfl rfl) ?_
      refine Lnil ?_
      refine W_seq ?_
      refine W_region ?_
      refine L0 (wanted_none rfl) rfl (y_move (v := va) rfl rfl) ?_
      refine Lc (wanted_none rfl) (c_call rfl rfl rfl Try.func29 (by kernel_rfl) rfl (free_any l va (by omega) hb1 w11 (hSa.keep hs13 (by intro k hk; simp [keys] at hk; omega))) rfl ?_)
      rintro _ w14 ⟨rfl, hc15⟩
      have hs16 := hs13.call0 hc15
      refine L0 (wanted_none rfl) rfl (y_assign (v := Value.int _ _) rfl rfl) ?_
      refine Lnil ?_
      refine W_seq ?_
      refine W_seq ?_
      refine W_region ?_
      refine L0 (wanted_none rfl) rfl (y_move (v := Value.int _ _) rfl rfl) ?_
      refine L0 (wanted_none rfl) rfl (y_ge rfl rfl rfl) ?_
      refine L0 (wanted_none rfl) rfl (y_move (v := Value.bool _) rfl rfl) ?_
      refine Lkn (t := 37) (b0 := false) rfl (by first | exact decide_eq_false (by omega) | exact bnF (by omega) | (simp; omega)) (fun h17 => ?_)
      refine Lno (wanted_noB rfl rfl rfl h17 (by decide)) rfl ?_
      refine Lno (wanted_noB rfl rfl rfl h17 (by decide)) rfl ?_
      refine Lno (wanted_noB rfl rfl rfl h17 (by decide)) rfl ?_
      refine Lno (wanted_noB rfl rfl rfl h17 (by decide)) rfl ?_
      refine L0 (wanted_none rfl) rfl (y_pickF rfl rfl h17 rfl) ?_
      refine Lnil ?_
      refine W_condF rfl rfl ?_
      refine W_skip ?_
      refine W_seq ?_
      refine W_seq ?_
      refine W_region ?_
      refine L0 (wanted_none rfl) rfl (y_move (v := Value.bool _) rfl rfl) ?_
      refine L0 (wanted_none rfl) rfl (y_move (v := Value.int _ _) rfl rfl) ?_
      refine L0 (wanted_none rfl) rfl (y_gt rfl rfl rfl) ?_
      refine L0 (wanted_none rfl) rfl (y_bne rfl Try.underlying4 rfl rfl) ?_
      refine L0 (wanted_none rfl) rfl (y_move (v := Value.bool _) rfl rfl) ?_
      refine Lkn (t := 55) (b0 := false) rfl (by exact law_open hf (by first | (rw [if_neg (by omega)] at hsk; omega) | (rw [if_pos (by omega)] at hsk; omega))) (fun h18 => ?_)
      refine L0 (wanted_yesB rfl rfl rfl h18) rfl (y_move (v := Value.bool _) rfl rfl) ?_
      refine L0 (wanted_yesB rfl rfl rfl h18) rfl (y_move (v := Value.bool _) rfl rfl) ?_
      refine Lsp (t := 57) rfl (fun h19 => ?_) (fun h19 => ?_)
      · have h19' := h19
        first | replace h19' := of_decide_eq_true h19' | replace h19' := bnT' h19' | skip
        refine L0 (wanted_yesB rfl rfl rfl h19) rfl (y_move (v := Value.int _ _) rfl rfl) ?_
        refine L0 (wanted_yesB rfl rfl rfl h19) rfl (y_lt rfl rfl rfl) ?_
        refine L0 (wanted_yesB rfl rfl rfl h19) rfl (y_move (v := Value.bool _) rfl rfl) ?_
        refine Lkn (t := 60) (b0 := false) rfl (by exact decide_eq_false (by obtain ⟨q1, q2, q3, q4⟩ := hx (by assumption); omega)) (fun h20 => ?_)
        refine L0 (wanted_yesB rfl rfl rfl h20) rfl (y_move (v := Value.int _ _) rfl rfl) ?_
        refine L0 (wanted_yesB rfl rfl rfl h20) rfl (y_move (v := va) rfl rfl) ?_
        refine L0 (wanted_yesB rfl rfl rfl h20) rfl (y_slenSl rfl Try.underlying34 rfl hSa) ?_
        refine L0 (wanted_yesB rfl rfl rfl h20) rfl (y_ge rfl rfl rfl) ?_
        refine L0 (wanted_yesB rfl rfl rfl h19) rfl (y_pickF rfl rfl h20 rfl) ?_
        refine L0 (wanted_yesB rfl rfl rfl h19) rfl (y_move (v := Value.bool _) rfl rfl) ?_
        refine Lkn (t := 66) (b0 := false) rfl (by exact decide_eq_false (by obtain ⟨q1, q2, q3, q4⟩ := hx (by assumption); omega)) (fun h21 => ?_)
        refine L0 (wanted_yesB rfl rfl rfl h21) rfl (y_move (v := va) rfl rfl) ?_
        refine L0 (wanted_yesB rfl rfl rfl h21) rfl (y_move (v := Value.int _ _) rfl rfl) ?_
        obtain ⟨q1, q2, q3, q4⟩ := hx (by assumption)
        refine L0 (wanted_yesB rfl rfl rfl h21) rfl (y_indexSlAt rfl Try.underlying34 sz3 rfl rfl hSa (by omega) (by omega)) ?_
        refine L1 (wanted_yesB rfl rfl rfl h21) rfl hs16 (y_loadSl x.toNat rfl Try.underlying3 rfl rfl hSa (by omega) (by omega) (by intro k hk; first | (simp [keys] at hk; done) | (simp [keys] at hk; omega))) ?_
        refine L0 (wanted_yesB rfl rfl rfl h21) rfl (y_ge rfl rfl rfl) ?_
        refine L0 (wanted_yesB rfl rfl rfl h19) rfl (y_pickF rfl rfl h21 rfl) ?_
        refine L0 (wanted_yesB rfl rfl rfl h19) rfl (y_move (v := Value.bool _) rfl rfl) ?_
        refine Lkn (t := 73) (b0 := false) rfl (by exact decide_eq_false (by obtain ⟨q1, q2, q3, q4⟩ := hx (by assumption); omega)) (fun h22 => ?_)
        refine L0 (wanted_yesB rfl rfl rfl h22) rfl (y_move (v := Value.int _ _) rfl rfl) ?_
        refine L0 (wanted_yesB rfl rfl rfl h22) rfl (y_move (v := Value.int _ _) rfl rfl) ?_
        refine L0 (wanted_yesB rfl rfl rfl h22) rfl (y_eq rfl rfl rfl) ?_
        refine L0 (wanted_yesB rfl rfl rfl h19) rfl (y_pickF rfl rfl h22 rfl) ?_
        refine L0 (wanted_yesB rfl rfl rfl h18) rfl (y_pickT rfl rfl h19 rfl) ?_
        refine L0 (wanted_none rfl) rfl (y_pickF rfl rfl h18 rfl) ?_
        refine Lnil ?_
        refine Wkn (t := 79) (b0 := false) rfl (by exact decide_eq_false (by obtain ⟨q1, q2, q3, q4⟩ := hx (by assumption); omega)) (fun h23 => ?_)
        refine W_condF rfl h23 ?_
        refine W_skip ?_
        refine W_seq ?_
        refine W_region ?_
        refine L0 (wanted_none rfl) rfl (y_move (v := va) rfl rfl) ?_
        refine L0 (wanted_none rfl) rfl (y_move (v := vb) rfl rfl) ?_
        refine Lc (wanted_none rfl) (c_call rfl rfl rfl Try.func32 (by kernel_rfl) rfl (victim_any l v va vb (by omega) (by omega) w14 (hSa.keep hs16 (by intro k hk; simp [keys] at hk; omega)) (hSb.keep hs16 (by intro k hk; simp [keys] at hk; omega))) rfl ?_)
        rintro vt w24 ⟨⟨b, hB, rfl⟩, hc25⟩
        have hs26 := hs16.call0 hc25
        refine L0 (wanted_none rfl) rfl (y_move (v := Value.tuple ⟨_⟩) rfl rfl) ?_
        refine L0 (wanted_none rfl) rfl (y_extract rfl rfl rfl) ?_
        refine L0 (wanted_none rfl) rfl (y_extract rfl rfl rfl) ?_
        refine L0 (wanted_none rfl) rfl (y_assign (v := Value.int _ _) rfl rfl) ?_
        refine L0 (wanted_none rfl) rfl (y_assign (v := Value.bool _) rfl rfl) ?_
        refine Lnil ?_
        refine W_seq ?_
        refine W_seq ?_
        refine W_region ?_
        refine L0 (wanted_none rfl) rfl (y_assign (v := Value.int _ _) rfl rfl) ?_
        refine Lnil ?_
        refine W_block ?_
        refine W_loop (G := Nat) (fun i aL wl => ∃ e, aL = A 175 ((14, iv i) :: (0, va) :: (1, vb) :: (12, iv (max b 0)) :: (13, .bool (decide (0 ≤ b))) :: (7, pv b2 0) :: e) ∧ i ≤ l.length ∧ St w [(b2, .cells ⟨tbl T⟩ 59 (0, 0))] wl) (fun i => l.length - i) (0) ?_ ?_
        · exact ⟨_, A_pins _ _ [14, 0, 1, 12, 13, 7], Nat.zero_le _, hs26⟩
        rintro i _ w27 ⟨ehs28, rfl, hi, hs28⟩
        refine W_seq ?_
        refine W_seq ?_
        refine W_region ?_
        refine L0 (wanted_none rfl) rfl (y_move (v := Value.int _ _) rfl rfl) ?_
        refine L0 (wanted_none rfl) rfl (y_move (v := va) rfl rfl) ?_
        refine L0 (wanted_none rfl) rfl (y_slenSl rfl Try.underlying34 rfl hSa) ?_
        refine L0 (wanted_none rfl) rfl (y_lt rfl rfl rfl) ?_
        refine L0 (wanted_none rfl) rfl (y_move (v := Value.bool _) rfl rfl) ?_
        refine Lsp (t := 90) rfl (fun h29 => ?_) (fun h29 => ?_)
        · have h29' := h29
          first | replace h29' := of_decide_eq_true h29' | replace h29' := bnT' h29' | skip
          refine L0 (wanted_yesB rfl rfl rfl h29) rfl (y_move (v := Value.int _ _) rfl rfl) ?_
          refine L0 (wanted_yesB rfl rfl rfl h29) rfl (y_move (v := vb) rfl rfl) ?_
          refine L0 (wanted_yesB rfl rfl rfl h29) rfl (y_slenSl rfl Try.underlying34 rfl hSb) ?_
          refine L0 (wanted_yesB rfl rfl rfl h29) rfl (y_lt rfl rfl rfl) ?_
          refine L0 (wanted_none rfl) rfl (y_pickT rfl rfl h29 rfl) ?_
          refine Lnil ?_
          refine Wsp (t := 95) rfl (fun h30 => ?_) (fun h30 => ?_)
          · have h30' := h30
            first | replace h30' := of_decide_eq_true h30' | replace h30' := bnT' h30' | skip
            refine W_condT rfl h30 ?_
            refine W_skip ?_
            refine W_seq ?_
            refine W_block ?_
            refine W_seq ?_
            refine W_drawSt [(0, 0), (0, 1), (0, 2), (1, 3), (0, 4), (0, 5), (0, 6), (0, 7), (0, 8), (0, 9), (0, 10), (0, 13), (0, 14), (0, 11), (0, 15), (1, 12), (1, 16), (0, 17), (0, 18), (0, 19), (0, 20), (0, 21), (0, 24), (0, 25), (0, 22), (0, 26), (1, 23), (1, 27), (0, 28), (0, 29), (0, 30), (0, 31), (0, 32), (0, 33), (0, 34), (0, 35)] hs28 mixed (by kernel_rfl) (fun w31 hs32 => ?_)
            refine E0 (wanted_none rfl) rfl (y_move (v := va) rfl rfl) ?_
            refine E0 (wanted_none rfl) rfl (y_move (v := Value.int _ _) rfl rfl) ?_
            refine E0 (wanted_none rfl) rfl (y_indexSlAt rfl Try.underlying34 sz3 rfl rfl hSa (by omega) (by omega)) ?_
            refine E1 hs32 (wanted_none rfl) rfl (y_loadSl i rfl Try.underlying3 rfl rfl hSa (by omega) (by omega) (by intro k hk; first | (simp [keys] at hk; done) | (simp [keys] at hk; omega))) ?_
            refine E0 (wanted_none rfl) rfl (y_ge rfl rfl rfl) ?_
            refine E0 (wanted_none rfl) rfl (y_move (v := Value.bool _) rfl rfl) ?_
            refine Esp (t := 103) rfl (fun h33 => ?_) (fun h33 => ?_)
            · have h33' := h33
              first | replace h33' := of_decide_eq_true h33' | replace h33' := bnT' h33' | skip
              refine E0 (wanted_yesB rfl rfl rfl h33) rfl (y_move (v := Value.bool _) rfl rfl) ?_
              refine E0 (wanted_yesB rfl rfl rfl h33) rfl (y_not rfl rfl) ?_
              refine E0 (wanted_yesB rfl rfl rfl h33) rfl (y_move (v := Value.bool _) rfl rfl) ?_
              refine Ekn (t := 106) (b0 := false) rfl (by exact bnF (by obtain ⟨q1, q2, q3, q4, q5⟩ := best_full hB i (by omega) (by omega) (by omega); omega)) (fun h34 => ?_)
              refine E0 (wanted_yesB rfl rfl rfl h34) rfl (y_move (v := vb) rfl rfl) ?_
              refine E0 (wanted_yesB rfl rfl rfl h34) rfl (y_move (v := Value.int _ _) rfl rfl) ?_
              refine E0 (wanted_yesB rfl rfl rfl h34) rfl (y_move (v := vb) rfl rfl) ?_
              refine E0 (wanted_yesB rfl rfl rfl h34) rfl (y_move (v := Value.int _ _) rfl rfl) ?_
              refine E0 (wanted_yesB rfl rfl rfl h34) rfl (y_indexSlAt rfl Try.underlying34 sz3 rfl rfl hSb (by omega) (by omega)) ?_
              obtain ⟨q1, q2, q3, q4, q5⟩ := best_full hB i (by omega) (by omega) (by omega)
              refine E0 (wanted_yesB rfl rfl rfl h34) rfl (y_indexSlAt rfl Try.underlying34 sz3 rfl rfl hSb (by omega) (by omega)) ?_
              refine E1 hs32 (wanted_yesB rfl rfl rfl h34) rfl (y_loadSl i rfl Try.underlying3 rfl rfl hSb (by omega) (by omega) (by intro k hk; first | (simp [keys] at hk; done) | (simp [keys] at hk; omega))) ?_
              refine E1 hs32 (wanted_yesB rfl rfl rfl h34) rfl (y_loadSl (max b 0).toNat rfl Try.underlying3 rfl rfl hSb (by omega) (by omega) (by intro k hk; first | (simp [keys] at hk; done) | (simp [keys] at hk; omega))) ?_
              refine E0 (wanted_yesB rfl rfl rfl h34) rfl (y_lt rfl rfl rfl) ?_
              refine E0 (wanted_yesB rfl rfl rfl h33) rfl (y_pickF rfl rfl h34 rfl) ?_
              refine E0 (wanted_yesB rfl rfl rfl h33) rfl (y_move (v := Value.bool _) rfl rfl) ?_
              refine Ekn (t := 117) (b0 := false) rfl (by exact decide_eq_false (by obtain ⟨q1, q2, q3, q4, q5⟩ := best_full hB i (by omega) (by omega) (by omega); omega)) (fun h35 => ?_)
              refine E0 (wanted_yesB rfl rfl rfl h35) rfl (y_move (v := vb) rfl rfl) ?_
              refine E0 (wanted_yesB rfl rfl rfl h35) rfl (y_move (v := Value.int _ _) rfl rfl) ?_
              refine E0 (wanted_yesB rfl rfl rfl h35) rfl (y_move (v := vb) rfl rfl) ?_
              refine E0 (wanted_yesB rfl rfl rfl h35) rfl (y_move (v := Value.int _ _) rfl rfl) ?_
              refine E0 (wanted_yesB rfl rfl rfl h35) rfl (y_indexSlAt rfl Try.underlying34 sz3 rfl rfl hSb (by omega) (by omega)) ?_
              refine E0 (wanted_yesB rfl rfl rfl h35) rfl (y_indexSlAt rfl Try.underlying34 sz3 rfl rfl hSb (by omega) (by omega)) ?_
              refine E1 hs32 (wanted_yesB rfl rfl rfl h35) rfl (y_loadSl i rfl Try.underlying3 rfl rfl hSb (by omega) (by omega) (by intro k hk; first | (simp [keys] at hk; done) | (simp [keys] at hk; omega))) ?_
              refine E1 hs32 (wanted_yesB rfl rfl rfl h35) rfl (y_loadSl (max b 0).toNat rfl Try.underlying3 rfl rfl hSb (by omega) (by omega) (by intro k hk; first | (simp [keys] at hk; done) | (simp [keys] at hk; omega))) ?_
              refine E0 (wanted_yesB rfl rfl rfl h35) rfl (y_eq rfl rfl rfl) ?_
              refine E0 (wanted_yesB rfl rfl rfl h35) rfl (y_move (v := Value.bool _) rfl rfl) ?_
              refine Esp (t := 127) rfl (fun h36 => ?_) (fun h36 => ?_)
              · have h36' := h36
                first | replace h36' := of_decide_eq_true h36' | replace h36' := bnT' h36' | skip
                refine E0 (wanted_yesB rfl rfl rfl h36) rfl (y_move (v := Value.int _ _) rfl rfl) ?_
                refine E0 (wanted_yesB rfl rfl rfl h36) rfl (y_move (v := Value.int _ _) rfl rfl) ?_
                refine E0 (wanted_yesB rfl rfl rfl h36) rfl (y_lt rfl rfl rfl) ?_
                refine E0 (wanted_yesB rfl rfl rfl h35) rfl (y_pickT rfl rfl h36 rfl) ?_
                refine E0 (wanted_yesB rfl rfl rfl h33) rfl (y_pickF rfl rfl h35 rfl) ?_
                refine E0 (wanted_none rfl) rfl (y_pickT rfl rfl h33 rfl) ?_
                refine Enil ?_
                refine Wkn (t := 133) (b0 := false) rfl (by exact decide_eq_false (by obtain ⟨q1, q2, q3, q4, q5⟩ := best_full hB i (by omega) (by omega) (by omega); omega)) (fun h37 => ?_)
                refine W_condF rfl h37 ?_
                refine W_skip ?_
                refine W_region ?_
                refine L0 (wanted_none rfl) rfl (y_move (v := Value.int _ _) rfl rfl) ?_
                refine L0 (wanted_none rfl) rfl (y_add64 rfl rfl rfl (by omega)) ?_
                refine L0 (wanted_none rfl) rfl (y_assign (v := Value.int _ _) rfl rfl) ?_
                refine Lnil ?_
                exact ⟨i + 1, by first | omega | (dsimp only; done) | (dsimp only; omega), _, A_c (iv_eq (by first | omega | (dsimp only; done) | (dsimp only; omega))) (A_c rfl (A_c rfl (A_c rfl (A_c rfl (A_c rfl (rfl)))))), by omega, hs32⟩
              · have h36' := h36
                first | replace h36' := of_decide_eq_false h36' | replace h36' := bnF' h36' | skip
                refine Eno (wanted_noB rfl rfl rfl h36 (by decide)) rfl ?_
                refine Eno (wanted_noB rfl rfl rfl h36 (by decide)) rfl ?_
                refine Eno (wanted_noB rfl rfl rfl h36 (by decide)) rfl ?_
                refine E0 (wanted_yesB rfl rfl rfl h35) rfl (y_pickF rfl rfl h36 rfl) ?_
                refine E0 (wanted_yesB rfl rfl rfl h33) rfl (y_pickF rfl rfl h35 rfl) ?_
                refine E0 (wanted_none rfl) rfl (y_pickT rfl rfl h33 rfl) ?_
                refine Enil ?_
                refine W_condF rfl rfl ?_
                refine W_skip ?_
                refine W_region ?_
                refine L0 (wanted_none rfl) rfl (y_move (v := Value.int _ _) rfl rfl) ?_
                refine L0 (wanted_none rfl) rfl (y_add64 rfl rfl rfl (by omega)) ?_
                refine L0 (wanted_none rfl) rfl (y_assign (v := Value.int _ _) rfl rfl) ?_
                refine Lnil ?_
                exact ⟨i + 1, by first | omega | (dsimp only; done) | (dsimp only; omega), _, A_c (iv_eq (by first | omega | (dsimp only; done) | (dsimp only; omega))) (A_c rfl (A_c rfl (A_c rfl (A_c rfl (A_c rfl (rfl)))))), by omega, hs32⟩
            · have h33' := h33
              first | replace h33' := of_decide_eq_false h33' | replace h33' := bnF' h33' | skip
              refine Eno (wanted_noB rfl rfl rfl h33 (by decide)) rfl ?_
              refine Eno (wanted_noB rfl rfl rfl h33 (by decide)) rfl ?_
              refine Eno (wanted_noB rfl rfl rfl h33 (by decide)) rfl ?_
              refine Eno (wanted_noU rfl rfl rfl) rfl ?_
              refine Eno (wanted_noU rfl rfl rfl) rfl ?_
              refine Eno (wanted_noU rfl rfl rfl) rfl ?_
              refine Eno (wanted_noU rfl rfl rfl) rfl ?_
              refine Eno (wanted_noU rfl rfl rfl) rfl ?_
              refine Eno (wanted_noU rfl rfl rfl) rfl ?_
              refine E1no hs32 (wanted_noU rfl rfl rfl) rfl ?_
              refine E1no hs32 (wanted_noU rfl rfl rfl) rfl ?_
              refine Eno (wanted_noU rfl rfl rfl) rfl ?_
              refine Eno (wanted_noB rfl rfl rfl h33 (by decide)) rfl ?_
              refine Eno (wanted_noB rfl rfl rfl h33 (by decide)) rfl ?_
              refine Eno (wanted_noU rfl rfl rfl) rfl ?_
              refine Eno (wanted_noU rfl rfl rfl) rfl ?_
              refine Eno (wanted_noU rfl rfl rfl) rfl ?_
              refine Eno (wanted_noU rfl rfl rfl) rfl ?_
              refine Eno (wanted_noU rfl rfl rfl) rfl ?_
              refine Eno (wanted_noU rfl rfl rfl) rfl ?_
              refine E1no hs32 (wanted_noU rfl rfl rfl) rfl ?_
              refine E1no hs32 (wanted_noU rfl rfl rfl) rfl ?_
              refine Eno (wanted_noU rfl rfl rfl) rfl ?_
              refine Eno (wanted_noU rfl rfl rfl) rfl ?_
              refine Eno (wanted_noU rfl rfl rfl) rfl ?_
              refine Eno (wanted_noU rfl rfl rfl) rfl ?_
              refine Eno (wanted_noU rfl rfl rfl) rfl ?_
              refine Eno (wanted_noU rfl rfl rfl) rfl ?_
              refine Eno (wanted_noB rfl rfl rfl h33 (by decide)) rfl ?_
              refine E0 (wanted_none rfl) rfl (y_pickF rfl rfl h33 rfl) ?_
              refine Enil ?_
              refine W_condF rfl rfl ?_
              refine W_skip ?_
              refine W_region ?_
              refine L0 (wanted_none rfl) rfl (y_move (v := Value.int _ _) rfl rfl) ?_
              refine L0 (wanted_none rfl) rfl (y_add64 rfl rfl rfl (by omega)) ?_
              refine L0 (wanted_none rfl) rfl (y_assign (v := Value.int _ _) rfl rfl) ?_
              refine Lnil ?_
              exact ⟨i + 1, by first | omega | (dsimp only; done) | (dsimp only; omega), _, A_c (iv_eq (by first | omega | (dsimp only; done) | (dsimp only; omega))) (A_c rfl (A_c rfl (A_c rfl (A_c rfl (A_c rfl (rfl)))))), by omega, hs32⟩
          · have h30' := h30
            first | replace h30' := of_decide_eq_false h30' | replace h30' := bnF' h30' | skip
            refine W_condF rfl h30 ?_
            refine W_exit ?_
            refine W_seq ?_
            refine W_seq ?_
            refine W_region ?_
            refine L0 (wanted_none rfl) rfl (y_move (v := Value.bool _) rfl rfl) ?_
            refine L0 (wanted_none rfl) rfl (y_move (v := Value.bool _) rfl rfl) ?_
            refine Lsp (t := 135) rfl (fun h38 => ?_) (fun h38 => ?_)
            · have h38' := h38
              first | replace h38' := of_decide_eq_true h38' | replace h38' := bnT' h38' | skip
              refine L0 (wanted_yesB rfl rfl rfl h38) rfl (y_move (v := Value.int _ _) rfl rfl) ?_
              refine L0 (wanted_yesB rfl rfl rfl h38) rfl (y_move (v := va) rfl rfl) ?_
              refine L0 (wanted_yesB rfl rfl rfl h38) rfl (y_slenSl rfl Try.underlying34 rfl hSa) ?_
              refine L0 (wanted_yesB rfl rfl rfl h38) rfl (y_ge rfl rfl rfl) ?_
              refine L0 (wanted_yesB rfl rfl rfl h38) rfl (y_move (v := Value.bool _) rfl rfl) ?_
              refine Lkn (t := 140) (b0 := false) rfl (by exact decide_eq_false (by obtain ⟨q1, q2⟩ := best_found hB (by omega); omega)) (fun h39 => ?_)
              refine L0 (wanted_yesB rfl rfl rfl h39) rfl (y_move (v := va) rfl rfl) ?_
              refine L0 (wanted_yesB rfl rfl rfl h39) rfl (y_move (v := Value.int _ _) rfl rfl) ?_
              obtain ⟨q1, q2⟩ := best_found hB (by omega)
              refine L0 (wanted_yesB rfl rfl rfl h39) rfl (y_indexSlAt rfl Try.underlying34 sz3 rfl rfl hSa (by omega) (by omega)) ?_
              refine L1 (wanted_yesB rfl rfl rfl h39) rfl hs28 (y_loadSl (max b 0).toNat rfl Try.underlying3 rfl rfl hSa (by omega) (by omega) (by intro k hk; first | (simp [keys] at hk; done) | (simp [keys] at hk; omega))) ?_
              refine L0 (wanted_yesB rfl rfl rfl h39) rfl (y_lt rfl rfl rfl) ?_
              refine L0 (wanted_yesB rfl rfl rfl h38) rfl (y_pickF rfl rfl h39 rfl) ?_
              refine L0 (wanted_none rfl) rfl (y_pickT rfl rfl h38 rfl) ?_
              refine Lnil ?_
              refine Wkn (t := 147) (b0 := false) rfl (by exact decide_eq_false (by obtain ⟨q1, q2⟩ := best_found hB (by omega); omega)) (fun h40 => ?_)
              refine W_condF rfl h40 ?_
              refine W_skip ?_
              refine W_seq ?_
              refine W_region ?_
              refine L1 (wanted_none rfl) rfl hs28 ((y_loadT 0 rfl rfl rfl)) ?_
              refine Lc (wanted_none rfl) (c_call rfl rfl rfl Try.func34 (by kernel_rfl) rfl (live_any T w27) rfl ?_)
              rintro vA w41 ⟨eA, hrA, hc42⟩
              obtain ⟨g, capA, cur, fz, rfl, rfl, hg, hgl, hfz, hsz, hget⟩ := row_block hrA (by decide) 0
              have hg2 : w.heap.size ≤ g := Nat.le_trans hs28.size hg
              have hs43 := (hs28.call_new hc42 (row_keys hrA)).perm (List.perm_append_comm (l₁ := [_]))
              refine L0 (wanted_none rfl) rfl (y_assign (v := Value.slice _ _ _) rfl rfl) ?_
              refine Lnil ?_
              refine W_seq ?_
              refine W_seq ?_
              refine W_region ?_
              refine L0 (wanted_none rfl) rfl (y_assign (v := Value.int _ _) rfl rfl) ?_
              refine Lnil ?_
              refine W_block ?_
              refine W_loop (G := Nat) (fun i aL wl => ∃ e, aL = A 175 ((16, iv i) :: (7, pv b2 0) :: (15, .slice (some ⟨g, 0, none⟩) 8 capA) :: e) ∧ i ≤ 8 ∧ St w [(b2, .cells ⟨tbl T⟩ 59 (0, 0)), (g, .cells cur 3 fz)] wl) (fun i => 8 - i) (0) ?_ ?_
              · exact ⟨_, A_pins _ _ [16, 7, 15], Nat.zero_le _, hs43⟩
              rintro i _ w44 ⟨ehs45, rfl, hi, hs45⟩
              refine W_seq ?_
              refine W_seq ?_
              refine W_region ?_
              refine L0 (wanted_none rfl) rfl (y_move (v := Value.int _ _) rfl rfl) ?_
              refine L0 (wanted_none rfl) rfl (y_lt rfl rfl rfl) ?_
              refine Lnil ?_
              refine Wsp (t := 151) rfl (fun h46 => ?_) (fun h46 => ?_)
              · have h46' := h46
                first | replace h46' := of_decide_eq_true h46' | replace h46' := bnT' h46' | skip
                refine W_condT rfl h46 ?_
                refine W_skip ?_
                refine W_seq ?_
                refine W_block ?_
                refine W_seq ?_
                refine W_drawSt [(0, 0), (0, 1), (0, 2), (0, 3), (1, 4), (0, 5), (0, 8), (0, 9), (0, 10), (1, 11), (3, 6), (0, 7), (0, 12), (0, 13), (0, 14), (1, 15), (0, 16), (3, 17), (3, 18), (0, 19), (0, 20)] hs45 mixed (by kernel_rfl) (fun w47 hs48 => ?_)
                refine E0 (wanted_none rfl) rfl (y_move (v := Value.slice _ _ _) rfl rfl) ?_
                refine E0 (wanted_none rfl) rfl (y_slen rfl Try.underlying34 rfl) ?_
                refine E0 (wanted_none rfl) rfl (y_ne rfl rfl rfl) ?_
                refine E0 (wanted_none rfl) rfl (y_move (v := Value.bool _) rfl rfl) ?_
                refine Ekn (t := 157) (b0 := false) rfl (by exact bnF rfl) (fun h49 => ?_)
                refine E1 hs48 (wanted_yesB rfl rfl rfl h49) rfl ((y_loadT 0 rfl rfl rfl)) ?_
                refine E0 (wanted_yesB rfl rfl rfl h49) rfl (y_move (v := Value.int _ _) rfl rfl) ?_
                refine E0 (wanted_yesB rfl rfl rfl h49) rfl (y_move (v := Value.slice _ _ _) rfl rfl) ?_
                refine E0 (wanted_yesB rfl rfl rfl h49) rfl (y_move (v := Value.int _ _) rfl rfl) ?_
                refine E0 (wanted_yesB rfl rfl rfl h49) rfl (y_indexSl rfl Try.underlying34 sz3 rfl rfl (by omega) (by omega)) ?_
                refine E1 hs48 (wanted_yesB rfl rfl rfl h49) rfl (y_load 1 rfl Try.underlying3 rfl rfl rfl (by rw [ix1]; exact hget i (by omega))) ?_
                refine E3 (wanted_yesB rfl rfl rfl h49) (c_call rfl rfl rfl Try.func36 (by kernel_rfl) rfl (in_any T i w47) rfl ?_)
                rintro vC w50 ⟨eC, hrC, hc51⟩
                have hC : Sl w50 vC (inT T i 24).length (nums (inT T i 24)) := hrC.sl hc51 (fun x hx => hx) 0
                have hs52 := (hs48.call_new hc51 (row_keys hrC)).dropL (M := eC) (fun x hx => Nat.le_trans hs48.size (hrC.new x hx))
                refine ⟨fun _ => hs52, ?_⟩
                refine E0 (wanted_yesB rfl rfl rfl h49) rfl (y_slenSl rfl Try.underlying34 rfl hC) ?_
                refine E0 (wanted_yesB rfl rfl rfl h49) rfl (y_ne rfl rfl rfl) ?_
                refine E0 (wanted_none rfl) rfl (y_pickF rfl rfl h49 rfl) ?_
                refine E0 (wanted_none rfl) rfl (y_move (v := Value.bool _) rfl rfl) ?_
                refine Ekn (t := 168) (b0 := false) rfl (by exact bnF (lvI_get T (by omega)).symm) (fun h53 => ?_)
                refine E1 hs52 (wanted_yesB rfl rfl rfl h53) rfl ((y_loadT 0 rfl rfl rfl)) ?_
                refine E0 (wanted_yesB rfl rfl rfl h53) rfl (y_move (v := Value.int _ _) rfl rfl) ?_
                refine E3 (wanted_yesB rfl rfl rfl h53) (c_call rfl rfl rfl Try.func36 (by kernel_rfl) rfl (in_any T i w50) rfl ?_)
                rintro vE w54 ⟨eE, hrE, hc55⟩
                have hEE : Sl w54 vE (inT T i 24).length (nums (inT T i 24)) := hrE.sl hc55 (fun x hx => hx) 0
                have hs56 := (hs52.call_new hc55 (row_keys hrE)).dropL (M := eE) (fun x hx => Nat.le_trans hs52.size (hrE.new x hx))
                refine ⟨fun _ => hs56, ?_⟩
                refine E3 (wanted_yesB rfl rfl rfl h53) (c_call rfl rfl rfl Try.func39 (by kernel_rfl) rfl (isSorted_any (inT T i 24) vE (by have := inT_len T i 24; omega) (fun j k a b => inT_sortedN T i 24 j k a b) w54 hEE) rfl ?_)
                rintro _ w57 ⟨rfl, hc58⟩
                have hs59 := hs56.call0 hc58
                refine ⟨fun _ => hs59, ?_⟩
                refine E0 (wanted_yesB rfl rfl rfl h53) rfl (y_not rfl rfl) ?_
                refine E0 (wanted_none rfl) rfl (y_pickF rfl rfl h53 rfl) ?_
                refine Enil ?_
                refine Wkn (t := 174) (b0 := false) rfl (by rfl) (fun h60 => ?_)
                refine W_condF rfl h60 ?_
                refine W_skip ?_
                refine W_region ?_
                refine L0 (wanted_none rfl) rfl (y_move (v := Value.int _ _) rfl rfl) ?_
                refine L0 (wanted_none rfl) rfl (y_add64 rfl rfl rfl (by omega)) ?_
                refine L0 (wanted_none rfl) rfl (y_assign (v := Value.int _ _) rfl rfl) ?_
                refine Lnil ?_
                exact ⟨i + 1, by first | omega | (dsimp only; done) | (dsimp only; omega), _, A_c (iv_eq (by first | omega | (dsimp only; done) | (dsimp only; omega))) (A_c rfl (A_c rfl (rfl))), by omega, hs59⟩
              · have h46' := h46
                first | replace h46' := of_decide_eq_false h46' | replace h46' := bnF' h46' | skip
                refine W_condF rfl h46 ?_
                refine W_exit ?_
                refine W_seq ?_
                refine W_region ?_
                refine L0 (wanted_none rfl) rfl (y_assign (v := Value.bool _) rfl rfl) ?_
                refine Lnil ?_
                refine W_ret ?_
                refine fin1 (fn := Try.f7) rfl rfl ?_
                exact ⟨rfl, forget hs45 (by intro x hx; simp only [List.mem_cons, List.not_mem_nil, or_false] at hx; rcases hx with rfl | rfl <;> assumption)⟩
            · have h38' := h38
              first | replace h38' := of_decide_eq_false h38' | replace h38' := bnF' h38' | skip
              refine Lno (wanted_noB rfl rfl rfl h38 (by decide)) rfl ?_
              refine Lno (wanted_noB rfl rfl rfl h38 (by decide)) rfl ?_
              refine Lno (wanted_noB rfl rfl rfl h38 (by decide)) rfl ?_
              refine Lno (wanted_noB rfl rfl rfl h38 (by decide)) rfl ?_
              refine Lno (wanted_noB rfl rfl rfl h38 (by decide)) rfl ?_
              refine Lno (wanted_noU rfl rfl rfl) rfl ?_
              refine Lno (wanted_noU rfl rfl rfl) rfl ?_
              refine Lno (wanted_noU rfl rfl rfl) rfl ?_
              refine Lno (wanted_noU rfl rfl rfl) rfl ?_
              refine Lno (wanted_noU rfl rfl rfl) rfl ?_
              refine Lno (wanted_noB rfl rfl rfl h38 (by decide)) rfl ?_
              refine L0 (wanted_none rfl) rfl (y_pickF rfl rfl h38 rfl) ?_
              refine Lnil ?_
              refine W_condF rfl rfl ?_
              refine W_skip ?_
              refine W_seq ?_
              refine W_region ?_
              refine L1 (wanted_none rfl) rfl hs28 ((y_loadT 0 rfl rfl rfl)) ?_
              refine Lc (wanted_none rfl) (c_call rfl rfl rfl Try.func34 (by kernel_rfl) rfl (live_any T w27) rfl ?_)
              rintro vA w61 ⟨eA, hrA, hc62⟩
              obtain ⟨g, capA, cur, fz, rfl, rfl, hg, hgl, hfz, hsz, hget⟩ := row_block hrA (by decide) 0
              have hg2 : w.heap.size ≤ g := Nat.le_trans hs28.size hg
              have hs63 := (hs28.call_new hc62 (row_keys hrA)).perm (List.perm_append_comm (l₁ := [_]))
              refine L0 (wanted_none rfl) rfl (y_assign (v := Value.slice _ _ _) rfl rfl) ?_
              refine Lnil ?_
              refine W_seq ?_
              refine W_seq ?_
              refine W_region ?_
              refine L0 (wanted_none rfl) rfl (y_assign (v := Value.int _ _) rfl rfl) ?_
              refine Lnil ?_
              refine W_block ?_
              refine W_loop (G := Nat) (fun i aL wl => ∃ e, aL = A 175 ((16, iv i) :: (7, pv b2 0) :: (15, .slice (some ⟨g, 0, none⟩) 8 capA) :: e) ∧ i ≤ 8 ∧ St w [(b2, .cells ⟨tbl T⟩ 59 (0, 0)), (g, .cells cur 3 fz)] wl) (fun i => 8 - i) (0) ?_ ?_
              · exact ⟨_, A_pins _ _ [16, 7, 15], Nat.zero_le _, hs63⟩
              rintro i _ w64 ⟨ehs65, rfl, hi, hs65⟩
              refine W_seq ?_
              refine W_seq ?_
              refine W_region ?_
              refine L0 (wanted_none rfl) rfl (y_move (v := Value.int _ _) rfl rfl) ?_
              refine L0 (wanted_none rfl) rfl (y_lt rfl rfl rfl) ?_
              refine Lnil ?_
              refine Wsp (t := 151) rfl (fun h66 => ?_) (fun h66 => ?_)
              · have h66' := h66
                first | replace h66' := of_decide_eq_true h66' | replace h66' := bnT' h66' | skip
                refine W_condT rfl h66 ?_
                refine W_skip ?_
                refine W_seq ?_
                refine W_block ?_
                refine W_seq ?_
                refine W_drawSt [(0, 0), (0, 1), (0, 2), (0, 3), (1, 4), (0, 5), (0, 8), (0, 9), (0, 10), (1, 11), (3, 6), (0, 7), (0, 12), (0, 13), (0, 14), (1, 15), (0, 16), (3, 17), (3, 18), (0, 19), (0, 20)] hs65 mixed (by kernel_rfl) (fun w67 hs68 => ?_)
                refine E0 (wanted_none rfl) rfl (y_move (v := Value.slice _ _ _) rfl rfl) ?_
                refine E0 (wanted_none rfl) rfl (y_slen rfl Try.underlying34 rfl) ?_
                refine E0 (wanted_none rfl) rfl (y_ne rfl rfl rfl) ?_
                refine E0 (wanted_none rfl) rfl (y_move (v := Value.bool _) rfl rfl) ?_
                refine Ekn (t := 157) (b0 := false) rfl (by exact bnF rfl) (fun h69 => ?_)
                refine E1 hs68 (wanted_yesB rfl rfl rfl h69) rfl ((y_loadT 0 rfl rfl rfl)) ?_
                refine E0 (wanted_yesB rfl rfl rfl h69) rfl (y_move (v := Value.int _ _) rfl rfl) ?_
                refine E0 (wanted_yesB rfl rfl rfl h69) rfl (y_move (v := Value.slice _ _ _) rfl rfl) ?_
                refine E0 (wanted_yesB rfl rfl rfl h69) rfl (y_move (v := Value.int _ _) rfl rfl) ?_
                refine E0 (wanted_yesB rfl rfl rfl h69) rfl (y_indexSl rfl Try.underlying34 sz3 rfl rfl (by omega) (by omega)) ?_
                refine E1 hs68 (wanted_yesB rfl rfl rfl h69) rfl (y_load 1 rfl Try.underlying3 rfl rfl rfl (by rw [ix1]; exact hget i (by omega))) ?_
                refine E3 (wanted_yesB rfl rfl rfl h69) (c_call rfl rfl rfl Try.func36 (by kernel_rfl) rfl (in_any T i w67) rfl ?_)
                rintro vC w70 ⟨eC, hrC, hc71⟩
                have hC : Sl w70 vC (inT T i 24).length (nums (inT T i 24)) := hrC.sl hc71 (fun x hx => hx) 0
                have hs72 := (hs68.call_new hc71 (row_keys hrC)).dropL (M := eC) (fun x hx => Nat.le_trans hs68.size (hrC.new x hx))
                refine ⟨fun _ => hs72, ?_⟩
                refine E0 (wanted_yesB rfl rfl rfl h69) rfl (y_slenSl rfl Try.underlying34 rfl hC) ?_
                refine E0 (wanted_yesB rfl rfl rfl h69) rfl (y_ne rfl rfl rfl) ?_
                refine E0 (wanted_none rfl) rfl (y_pickF rfl rfl h69 rfl) ?_
                refine E0 (wanted_none rfl) rfl (y_move (v := Value.bool _) rfl rfl) ?_
                refine Ekn (t := 168) (b0 := false) rfl (by exact bnF (lvI_get T (by omega)).symm) (fun h73 => ?_)
                refine E1 hs72 (wanted_yesB rfl rfl rfl h73) rfl ((y_loadT 0 rfl rfl rfl)) ?_
                refine E0 (wanted_yesB rfl rfl rfl h73) rfl (y_move (v := Value.int _ _) rfl rfl) ?_
                refine E3 (wanted_yesB rfl rfl rfl h73) (c_call rfl rfl rfl Try.func36 (by kernel_rfl) rfl (in_any T i w70) rfl ?_)
                rintro vE w74 ⟨eE, hrE, hc75⟩
                have hEE : Sl w74 vE (inT T i 24).length (nums (inT T i 24)) := hrE.sl hc75 (fun x hx => hx) 0
                have hs76 := (hs72.call_new hc75 (row_keys hrE)).dropL (M := eE) (fun x hx => Nat.le_trans hs72.size (hrE.new x hx))
                refine ⟨fun _ => hs76, ?_⟩
                refine E3 (wanted_yesB rfl rfl rfl h73) (c_call rfl rfl rfl Try.func39 (by kernel_rfl) rfl (isSorted_any (inT T i 24) vE (by have := inT_len T i 24; omega) (fun j k a b => inT_sortedN T i 24 j k a b) w74 hEE) rfl ?_)
                rintro _ w77 ⟨rfl, hc78⟩
                have hs79 := hs76.call0 hc78
                refine ⟨fun _ => hs79, ?_⟩
                refine E0 (wanted_yesB rfl rfl rfl h73) rfl (y_not rfl rfl) ?_
                refine E0 (wanted_none rfl) rfl (y_pickF rfl rfl h73 rfl) ?_
                refine Enil ?_
                refine Wkn (t := 174) (b0 := false) rfl (by rfl) (fun h80 => ?_)
                refine W_condF rfl h80 ?_
                refine W_skip ?_
                refine W_region ?_
                refine L0 (wanted_none rfl) rfl (y_move (v := Value.int _ _) rfl rfl) ?_
                refine L0 (wanted_none rfl) rfl (y_add64 rfl rfl rfl (by omega)) ?_
                refine L0 (wanted_none rfl) rfl (y_assign (v := Value.int _ _) rfl rfl) ?_
                refine Lnil ?_
                exact ⟨i + 1, by first | omega | (dsimp only; done) | (dsimp only; omega), _, A_c (iv_eq (by first | omega | (dsimp only; done) | (dsimp only; omega))) (A_c rfl (A_c rfl (rfl))), by omega, hs79⟩
              · have h66' := h66
                first | replace h66' := of_decide_eq_false h66' | replace h66' := bnF' h66' | skip
                refine W_condF rfl h66 ?_
                refine W_exit ?_
                refine W_seq ?_
                refine W_region ?_
                refine L0 (wanted_none rfl) rfl (y_assign (v := Value.bool _) rfl rfl) ?_
                refine Lnil ?_
                refine W_ret ?_
                refine fin1 (fn := Try.f7) rfl rfl ?_
                exact ⟨rfl, forget hs65 (by intro x hx; simp only [List.mem_cons, List.not_mem_nil, or_false] at hx; rcases hx with rfl | rfl <;> assumption)⟩
        · have h29' := h29
          first | replace h29' := of_decide_eq_false h29' | replace h29' := bnF' h29' | skip
          refine Lno (wanted_noB rfl rfl rfl h29 (by decide)) rfl ?_
          refine Lno (wanted_noB rfl rfl rfl h29 (by decide)) rfl ?_
          refine Lno (wanted_noB rfl rfl rfl h29 (by decide)) rfl ?_
          refine Lno (wanted_noB rfl rfl rfl h29 (by decide)) rfl ?_
          refine L0 (wanted_none rfl) rfl (y_pickF rfl rfl h29 rfl) ?_
          refine Lnil ?_
          refine W_condF rfl rfl ?_
          refine W_exit ?_
          refine W_seq ?_
          refine W_seq ?_
          refine W_region ?_
          refine L0 (wanted_none rfl) rfl (y_move (v := Value.bool _) rfl rfl) ?_
          refine L0 (wanted_none rfl) rfl (y_move (v := Value.bool _) rfl rfl) ?_
          refine Lsp (t := 135) rfl (fun h81 => ?_) (fun h81 => ?_)
          · have h81' := h81
            first | replace h81' := of_decide_eq_true h81' | replace h81' := bnT' h81' | skip
            refine L0 (wanted_yesB rfl rfl rfl h81) rfl (y_move (v := Value.int _ _) rfl rfl) ?_
            refine L0 (wanted_yesB rfl rfl rfl h81) rfl (y_move (v := va) rfl rfl) ?_
            refine L0 (wanted_yesB rfl rfl rfl h81) rfl (y_slenSl rfl Try.underlying34 rfl hSa) ?_
            refine L0 (wanted_yesB rfl rfl rfl h81) rfl (y_ge rfl rfl rfl) ?_
            refine L0 (wanted_yesB rfl rfl rfl h81) rfl (y_move (v := Value.bool _) rfl rfl) ?_
            refine Lkn (t := 140) (b0 := false) rfl (by exact decide_eq_false (by obtain ⟨q1, q2⟩ := best_found hB (by omega); omega)) (fun h82 => ?_)
            refine L0 (wanted_yesB rfl rfl rfl h82) rfl (y_move (v := va) rfl rfl) ?_
            refine L0 (wanted_yesB rfl rfl rfl h82) rfl (y_move (v := Value.int _ _) rfl rfl) ?_
            obtain ⟨q1, q2⟩ := best_found hB (by omega)
            refine L0 (wanted_yesB rfl rfl rfl h82) rfl (y_indexSlAt rfl Try.underlying34 sz3 rfl rfl hSa (by omega) (by omega)) ?_
            refine L1 (wanted_yesB rfl rfl rfl h82) rfl hs28 (y_loadSl (max b 0).toNat rfl Try.underlying3 rfl rfl hSa (by omega) (by omega) (by intro k hk; first | (simp [keys] at hk; done) | (simp [keys] at hk; omega))) ?_
            refine L0 (wanted_yesB rfl rfl rfl h82) rfl (y_lt rfl rfl rfl) ?_
            refine L0 (wanted_yesB rfl rfl rfl h81) rfl (y_pickF rfl rfl h82 rfl) ?_
            refine L0 (wanted_none rfl) rfl (y_pickT rfl rfl h81 rfl) ?_
            refine Lnil ?_
            refine Wkn (t := 147) (b0 := false) rfl (by exact decide_eq_false (by obtain ⟨q1, q2⟩ := best_found hB (by omega); omega)) (fun h83 => ?_)
            refine W_condF rfl h83 ?_
            refine W_skip ?_
            refine W_seq ?_
            refine W_region ?_
            refine L1 (wanted_none rfl) rfl hs28 ((y_loadT 0 rfl rfl rfl)) ?_
            refine Lc (wanted_none rfl) (c_call rfl rfl rfl Try.func34 (by kernel_rfl) rfl (live_any T w27) rfl ?_)
            rintro vA w84 ⟨eA, hrA, hc85⟩
            obtain ⟨g, capA, cur, fz, rfl, rfl, hg, hgl, hfz, hsz, hget⟩ := row_block hrA (by decide) 0
            have hg2 : w.heap.size ≤ g := Nat.le_trans hs28.size hg
            have hs86 := (hs28.call_new hc85 (row_keys hrA)).perm (List.perm_append_comm (l₁ := [_]))
            refine L0 (wanted_none rfl) rfl (y_assign (v := Value.slice _ _ _) rfl rfl) ?_
            refine Lnil ?_
            refine W_seq ?_
            refine W_seq ?_
            refine W_region ?_
            refine L0 (wanted_none rfl) rfl (y_assign (v := Value.int _ _) rfl rfl) ?_
            refine Lnil ?_
            refine W_block ?_
            refine W_loop (G := Nat) (fun i aL wl => ∃ e, aL = A 175 ((16, iv i) :: (7, pv b2 0) :: (15, .slice (some ⟨g, 0, none⟩) 8 capA) :: e) ∧ i ≤ 8 ∧ St w [(b2, .cells ⟨tbl T⟩ 59 (0, 0)), (g, .cells cur 3 fz)] wl) (fun i => 8 - i) (0) ?_ ?_
            · exact ⟨_, A_pins _ _ [16, 7, 15], Nat.zero_le _, hs86⟩
            rintro i _ w87 ⟨ehs88, rfl, hi, hs88⟩
            refine W_seq ?_
            refine W_seq ?_
            refine W_region ?_
            refine L0 (wanted_none rfl) rfl (y_move (v := Value.int _ _) rfl rfl) ?_
            refine L0 (wanted_none rfl) rfl (y_lt rfl rfl rfl) ?_
            refine Lnil ?_
            refine Wsp (t := 151) rfl (fun h89 => ?_) (fun h89 => ?_)
            · have h89' := h89
              first | replace h89' := of_decide_eq_true h89' | replace h89' := bnT' h89' | skip
              refine W_condT rfl h89 ?_
              refine W_skip ?_
              refine W_seq ?_
              refine W_block ?_
              refine W_seq ?_
              refine W_drawSt [(0, 0), (0, 1), (0, 2), (0, 3), (1, 4), (0, 5), (0, 8), (0, 9), (0, 10), (1, 11), (3, 6), (0, 7), (0, 12), (0, 13), (0, 14), (1, 15), (0, 16), (3, 17), (3, 18), (0, 19), (0, 20)] hs88 mixed (by kernel_rfl) (fun w90 hs91 => ?_)
              refine E0 (wanted_none rfl) rfl (y_move (v := Value.slice _ _ _) rfl rfl) ?_
              refine E0 (wanted_none rfl) rfl (y_slen rfl Try.underlying34 rfl) ?_
              refine E0 (wanted_none rfl) rfl (y_ne rfl rfl rfl) ?_
              refine E0 (wanted_none rfl) rfl (y_move (v := Value.bool _) rfl rfl) ?_
              refine Ekn (t := 157) (b0 := false) rfl (by exact bnF rfl) (fun h92 => ?_)
              refine E1 hs91 (wanted_yesB rfl rfl rfl h92) rfl ((y_loadT 0 rfl rfl rfl)) ?_
              refine E0 (wanted_yesB rfl rfl rfl h92) rfl (y_move (v := Value.int _ _) rfl rfl) ?_
              refine E0 (wanted_yesB rfl rfl rfl h92) rfl (y_move (v := Value.slice _ _ _) rfl rfl) ?_
              refine E0 (wanted_yesB rfl rfl rfl h92) rfl (y_move (v := Value.int _ _) rfl rfl) ?_
              refine E0 (wanted_yesB rfl rfl rfl h92) rfl (y_indexSl rfl Try.underlying34 sz3 rfl rfl (by omega) (by omega)) ?_
              refine E1 hs91 (wanted_yesB rfl rfl rfl h92) rfl (y_load 1 rfl Try.underlying3 rfl rfl rfl (by rw [ix1]; exact hget i (by omega))) ?_
              refine E3 (wanted_yesB rfl rfl rfl h92) (c_call rfl rfl rfl Try.func36 (by kernel_rfl) rfl (in_any T i w90) rfl ?_)
              rintro vC w93 ⟨eC, hrC, hc94⟩
              have hC : Sl w93 vC (inT T i 24).length (nums (inT T i 24)) := hrC.sl hc94 (fun x hx => hx) 0
              have hs95 := (hs91.call_new hc94 (row_keys hrC)).dropL (M := eC) (fun x hx => Nat.le_trans hs91.size (hrC.new x hx))
              refine ⟨fun _ => hs95, ?_⟩
              refine E0 (wanted_yesB rfl rfl rfl h92) rfl (y_slenSl rfl Try.underlying34 rfl hC) ?_
              refine E0 (wanted_yesB rfl rfl rfl h92) rfl (y_ne rfl rfl rfl) ?_
              refine E0 (wanted_none rfl) rfl (y_pickF rfl rfl h92 rfl) ?_
              refine E0 (wanted_none rfl) rfl (y_move (v := Value.bool _) rfl rfl) ?_
              refine Ekn (t := 168) (b0 := false) rfl (by exact bnF (lvI_get T (by omega)).symm) (fun h96 => ?_)
              refine E1 hs95 (wanted_yesB rfl rfl rfl h96) rfl ((y_loadT 0 rfl rfl rfl)) ?_
              refine E0 (wanted_yesB rfl rfl rfl h96) rfl (y_move (v := Value.int _ _) rfl rfl) ?_
              refine E3 (wanted_yesB rfl rfl rfl h96) (c_call rfl rfl rfl Try.func36 (by kernel_rfl) rfl (in_any T i w93) rfl ?_)
              rintro vE w97 ⟨eE, hrE, hc98⟩
              have hEE : Sl w97 vE (inT T i 24).length (nums (inT T i 24)) := hrE.sl hc98 (fun x hx => hx) 0
              have hs99 := (hs95.call_new hc98 (row_keys hrE)).dropL (M := eE) (fun x hx => Nat.le_trans hs95.size (hrE.new x hx))
              refine ⟨fun _ => hs99, ?_⟩
              refine E3 (wanted_yesB rfl rfl rfl h96) (c_call rfl rfl rfl Try.func39 (by kernel_rfl) rfl (isSorted_any (inT T i 24) vE (by have := inT_len T i 24; omega) (fun j k a b => inT_sortedN T i 24 j k a b) w97 hEE) rfl ?_)
              rintro _ w100 ⟨rfl, hc101⟩
              have hs102 := hs99.call0 hc101
              refine ⟨fun _ => hs102, ?_⟩
              refine E0 (wanted_yesB rfl rfl rfl h96) rfl (y_not rfl rfl) ?_
              refine E0 (wanted_none rfl) rfl (y_pickF rfl rfl h96 rfl) ?_
              refine Enil ?_
              refine Wkn (t := 174) (b0 := false) rfl (by rfl) (fun h103 => ?_)
              refine W_condF rfl h103 ?_
              refine W_skip ?_
              refine W_region ?_
              refine L0 (wanted_none rfl) rfl (y_move (v := Value.int _ _) rfl rfl) ?_
              refine L0 (wanted_none rfl) rfl (y_add64 rfl rfl rfl (by omega)) ?_
              refine L0 (wanted_none rfl) rfl (y_assign (v := Value.int _ _) rfl rfl) ?_
              refine Lnil ?_
              exact ⟨i + 1, by first | omega | (dsimp only; done) | (dsimp only; omega), _, A_c (iv_eq (by first | omega | (dsimp only; done) | (dsimp only; omega))) (A_c rfl (A_c rfl (rfl))), by omega, hs102⟩
            · have h89' := h89
              first | replace h89' := of_decide_eq_false h89' | replace h89' := bnF' h89' | skip
              refine W_condF rfl h89 ?_
              refine W_exit ?_
              refine W_seq ?_
              refine W_region ?_
              refine L0 (wanted_none rfl) rfl (y_assign (v := Value.bool _) rfl rfl) ?_
              refine Lnil ?_
              refine W_ret ?_
              refine fin1 (fn := Try.f7) rfl rfl ?_
              exact ⟨rfl, forget hs88 (by intro x hx; simp only [List.mem_cons, List.not_mem_nil, or_false] at hx; rcases hx with rfl | rfl <;> assumption)⟩
          · have h81' := h81
            first | replace h81' := of_decide_eq_false h81' | replace h81' := bnF' h81' | skip
            refine Lno (wanted_noB rfl rfl rfl h81 (by decide)) rfl ?_
            refine Lno (wanted_noB rfl rfl rfl h81 (by decide)) rfl ?_
            refine Lno (wanted_noB rfl rfl rfl h81 (by decide)) rfl ?_
            refine Lno (wanted_noB rfl rfl rfl h81 (by decide)) rfl ?_
            refine Lno (wanted_noB rfl rfl rfl h81 (by decide)) rfl ?_
            refine Lno (wanted_noU rfl rfl rfl) rfl ?_
            refine Lno (wanted_noU rfl rfl rfl) rfl ?_
            refine Lno (wanted_noU rfl rfl rfl) rfl ?_
            refine Lno (wanted_noU rfl rfl rfl) rfl ?_
            refine Lno (wanted_noU rfl rfl rfl) rfl ?_
            refine Lno (wanted_noB rfl rfl rfl h81 (by decide)) rfl ?_
            refine L0 (wanted_none rfl) rfl (y_pickF rfl rfl h81 rfl) ?_
            refine Lnil ?_
            refine W_condF rfl rfl ?_
            refine W_skip ?_
            refine W_seq ?_
            refine W_region ?_
            refine L1 (wanted_none rfl) rfl hs28 ((y_loadT 0 rfl rfl rfl)) ?_
            refine Lc (wanted_none rfl) (c_call rfl rfl rfl Try.func34 (by kernel_rfl) rfl (live_any T w27) rfl ?_)
            rintro vA w104 ⟨eA, hrA, hc105⟩
            obtain ⟨g, capA, cur, fz, rfl, rfl, hg, hgl, hfz, hsz, hget⟩ := row_block hrA (by decide) 0
            have hg2 : w.heap.size ≤ g := Nat.le_trans hs28.size hg
            have hs106 := (hs28.call_new hc105 (row_keys hrA)).perm (List.perm_append_comm (l₁ := [_]))
            refine L0 (wanted_none rfl) rfl (y_assign (v := Value.slice _ _ _) rfl rfl) ?_
            refine Lnil ?_
            refine W_seq ?_
            refine W_seq ?_
            refine W_region ?_
            refine L0 (wanted_none rfl) rfl (y_assign (v := Value.int _ _) rfl rfl) ?_
            refine Lnil ?_
            refine W_block ?_
            refine W_loop (G := Nat) (fun i aL wl => ∃ e, aL = A 175 ((16, iv i) :: (7, pv b2 0) :: (15, .slice (some ⟨g, 0, none⟩) 8 capA) :: e) ∧ i ≤ 8 ∧ St w [(b2, .cells ⟨tbl T⟩ 59 (0, 0)), (g, .cells cur 3 fz)] wl) (fun i => 8 - i) (0) ?_ ?_
            · exact ⟨_, A_pins _ _ [16, 7, 15], Nat.zero_le _, hs106⟩
            rintro i _ w107 ⟨ehs108, rfl, hi, hs108⟩
            refine W_seq ?_
            refine W_seq ?_
            refine W_region ?_
            refine L0 (wanted_none rfl) rfl (y_move (v := Value.int _ _) rfl rfl) ?_
            refine L0 (wanted_none rfl) rfl (y_lt rfl rfl rfl) ?_
            refine Lnil ?_
            refine Wsp (t := 151) rfl (fun h109 => ?_) (fun h109 => ?_)
            · have h109' := h109
              first | replace h109' := of_decide_eq_true h109' | replace h109' := bnT' h109' | skip
              refine W_condT rfl h109 ?_
              refine W_skip ?_
              refine W_seq ?_
              refine W_block ?_
              refine W_seq ?_
              refine W_drawSt [(0, 0), (0, 1), (0, 2), (0, 3), (1, 4), (0, 5), (0, 8), (0, 9), (0, 10), (1, 11), (3, 6), (0, 7), (0, 12), (0, 13), (0, 14), (1, 15), (0, 16), (3, 17), (3, 18), (0, 19), (0, 20)] hs108 mixed (by kernel_rfl) (fun w110 hs111 => ?_)
              refine E0 (wanted_none rfl) rfl (y_move (v := Value.slice _ _ _) rfl rfl) ?_
              refine E0 (wanted_none rfl) rfl (y_slen rfl Try.underlying34 rfl) ?_
              refine E0 (wanted_none rfl) rfl (y_ne rfl rfl rfl) ?_
              refine E0 (wanted_none rfl) rfl (y_move (v := Value.bool _) rfl rfl) ?_
              refine Ekn (t := 157) (b0 := false) rfl (by exact bnF rfl) (fun h112 => ?_)
              refine E1 hs111 (wanted_yesB rfl rfl rfl h112) rfl ((y_loadT 0 rfl rfl rfl)) ?_
              refine E0 (wanted_yesB rfl rfl rfl h112) rfl (y_move (v := Value.int _ _) rfl rfl) ?_
              refine E0 (wanted_yesB rfl rfl rfl h112) rfl (y_move (v := Value.slice _ _ _) rfl rfl) ?_
              refine E0 (wanted_yesB rfl rfl rfl h112) rfl (y_move (v := Value.int _ _) rfl rfl) ?_
              refine E0 (wanted_yesB rfl rfl rfl h112) rfl (y_indexSl rfl Try.underlying34 sz3 rfl rfl (by omega) (by omega)) ?_
              refine E1 hs111 (wanted_yesB rfl rfl rfl h112) rfl (y_load 1 rfl Try.underlying3 rfl rfl rfl (by rw [ix1]; exact hget i (by omega))) ?_
              refine E3 (wanted_yesB rfl rfl rfl h112) (c_call rfl rfl rfl Try.func36 (by kernel_rfl) rfl (in_any T i w110) rfl ?_)
              rintro vC w113 ⟨eC, hrC, hc114⟩
              have hC : Sl w113 vC (inT T i 24).length (nums (inT T i 24)) := hrC.sl hc114 (fun x hx => hx) 0
              have hs115 := (hs111.call_new hc114 (row_keys hrC)).dropL (M := eC) (fun x hx => Nat.le_trans hs111.size (hrC.new x hx))
              refine ⟨fun _ => hs115, ?_⟩
              refine E0 (wanted_yesB rfl rfl rfl h112) rfl (y_slenSl rfl Try.underlying34 rfl hC) ?_
              refine E0 (wanted_yesB rfl rfl rfl h112) rfl (y_ne rfl rfl rfl) ?_
              refine E0 (wanted_none rfl) rfl (y_pickF rfl rfl h112 rfl) ?_
              refine E0 (wanted_none rfl) rfl (y_move (v := Value.bool _) rfl rfl) ?_
              refine Ekn (t := 168) (b0 := false) rfl (by exact bnF (lvI_get T (by omega)).symm) (fun h116 => ?_)
              refine E1 hs115 (wanted_yesB rfl rfl rfl h116) rfl ((y_loadT 0 rfl rfl rfl)) ?_
              refine E0 (wanted_yesB rfl rfl rfl h116) rfl (y_move (v := Value.int _ _) rfl rfl) ?_
              refine E3 (wanted_yesB rfl rfl rfl h116) (c_call rfl rfl rfl Try.func36 (by kernel_rfl) rfl (in_any T i w113) rfl ?_)
              rintro vE w117 ⟨eE, hrE, hc118⟩
              have hEE : Sl w117 vE (inT T i 24).length (nums (inT T i 24)) := hrE.sl hc118 (fun x hx => hx) 0
              have hs119 := (hs115.call_new hc118 (row_keys hrE)).dropL (M := eE) (fun x hx => Nat.le_trans hs115.size (hrE.new x hx))
              refine ⟨fun _ => hs119, ?_⟩
              refine E3 (wanted_yesB rfl rfl rfl h116) (c_call rfl rfl rfl Try.func39 (by kernel_rfl) rfl (isSorted_any (inT T i 24) vE (by have := inT_len T i 24; omega) (fun j k a b => inT_sortedN T i 24 j k a b) w117 hEE) rfl ?_)
              rintro _ w120 ⟨rfl, hc121⟩
              have hs122 := hs119.call0 hc121
              refine ⟨fun _ => hs122, ?_⟩
              refine E0 (wanted_yesB rfl rfl rfl h116) rfl (y_not rfl rfl) ?_
              refine E0 (wanted_none rfl) rfl (y_pickF rfl rfl h116 rfl) ?_
              refine Enil ?_
              refine Wkn (t := 174) (b0 := false) rfl (by rfl) (fun h123 => ?_)
              refine W_condF rfl h123 ?_
              refine W_skip ?_
              refine W_region ?_
              refine L0 (wanted_none rfl) rfl (y_move (v := Value.int _ _) rfl rfl) ?_
              refine L0 (wanted_none rfl) rfl (y_add64 rfl rfl rfl (by omega)) ?_
              refine L0 (wanted_none rfl) rfl (y_assign (v := Value.int _ _) rfl rfl) ?_
              refine Lnil ?_
              exact ⟨i + 1, by first | omega | (dsimp only; done) | (dsimp only; omega), _, A_c (iv_eq (by first | omega | (dsimp only; done) | (dsimp only; omega))) (A_c rfl (A_c rfl (rfl))), by omega, hs122⟩
            · have h109' := h109
              first | replace h109' := of_decide_eq_false h109' | replace h109' := bnF' h109' | skip
              refine W_condF rfl h109 ?_
              refine W_exit ?_
              refine W_seq ?_
              refine W_region ?_
              refine L0 (wanted_none rfl) rfl (y_assign (v := Value.bool _) rfl rfl) ?_
              refine Lnil ?_
              refine W_ret ?_
              refine fin1 (fn := Try.f7) rfl rfl ?_
              exact ⟨rfl, forget hs108 (by intro x hx; simp only [List.mem_cons, List.not_mem_nil, or_false] at hx; rcases hx with rfl | rfl <;> assumption)⟩
      · have h19' := h19
        first | replace h19' := of_decide_eq_false h19' | replace h19' := bnF' h19' | skip
        refine Lno (wanted_noB rfl rfl rfl h19 (by decide)) rfl ?_
        refine Lno (wanted_noB rfl rfl rfl h19 (by decide)) rfl ?_
        refine Lno (wanted_noB rfl rfl rfl h19 (by decide)) rfl ?_
        refine Lno (wanted_noU rfl rfl rfl) rfl ?_
        refine Lno (wanted_noU rfl rfl rfl) rfl ?_
        refine Lno (wanted_noU rfl rfl rfl) rfl ?_
        refine Lno (wanted_noU rfl rfl rfl) rfl ?_
        refine Lno (wanted_noB rfl rfl rfl h19 (by decide)) rfl ?_
        refine Lno (wanted_noB rfl rfl rfl h19 (by decide)) rfl ?_
        refine Lno (wanted_noU rfl rfl rfl) rfl ?_
        refine Lno (wanted_noU rfl rfl rfl) rfl ?_
        refine Lno (wanted_noU rfl rfl rfl) rfl ?_
        refine Lno (wanted_noU rfl rfl rfl) rfl ?_
        refine Lno (wanted_noU rfl rfl rfl) rfl ?_
        refine Lno (wanted_noB rfl rfl rfl h19 (by decide)) rfl ?_
        refine Lno (wanted_noB rfl rfl rfl h19 (by decide)) rfl ?_
        refine Lno (wanted_noU rfl rfl rfl) rfl ?_
        refine Lno (wanted_noU rfl rfl rfl) rfl ?_
        refine Lno (wanted_noU rfl rfl rfl) rfl ?_
        refine Lno (wanted_noB rfl rfl rfl h19 (by decide)) rfl ?_
        refine L0 (wanted_yesB rfl rfl rfl h18) rfl (y_pickF rfl rfl h19 rfl) ?_
        refine L0 (wanted_none rfl) rfl (y_pickF rfl rfl h18 rfl) ?_
        refine Lnil ?_
        refine W_condF rfl rfl ?_
        refine W_skip ?_
        refine W_seq ?_
        refine W_region ?_
        refine L0 (wanted_none rfl) rfl (y_move (v := va) rfl rfl) ?_
        refine L0 (wanted_none rfl) rfl (y_move (v := vb) rfl rfl) ?_
        refine Lc (wanted_none rfl) (c_call rfl rfl rfl Try.func32 (by kernel_rfl) rfl (victim_any l v va vb (by omega) (by omega) w14 (hSa.keep hs16 (by intro k hk; simp [keys] at hk; omega)) (hSb.keep hs16 (by intro k hk; simp [keys] at hk; omega))) rfl ?_)
        rintro vt w124 ⟨⟨b, hB, rfl⟩, hc125⟩
        have hs126 := hs16.call0 hc125
        refine L0 (wanted_none rfl) rfl (y_move (v := Value.tuple ⟨_⟩) rfl rfl) ?_
        refine L0 (wanted_none rfl) rfl (y_extract rfl rfl rfl) ?_
        refine L0 (wanted_none rfl) rfl (y_extract rfl rfl rfl) ?_
        refine L0 (wanted_none rfl) rfl (y_assign (v := Value.int _ _) rfl rfl) ?_
        refine L0 (wanted_none rfl) rfl (y_assign (v := Value.bool _) rfl rfl) ?_
        refine Lnil ?_
        refine W_seq ?_
        refine W_seq ?_
        refine W_region ?_
        refine L0 (wanted_none rfl) rfl (y_assign (v := Value.int _ _) rfl rfl) ?_
        refine Lnil ?_
        refine W_block ?_
        refine W_loop (G := Nat) (fun i aL wl => ∃ e, aL = A 175 ((14, iv i) :: (0, va) :: (1, vb) :: (12, iv (max b 0)) :: (13, .bool (decide (0 ≤ b))) :: (7, pv b2 0) :: e) ∧ i ≤ l.length ∧ St w [(b2, .cells ⟨tbl T⟩ 59 (0, 0))] wl) (fun i => l.length - i) (0) ?_ ?_
        · exact ⟨_, A_pins _ _ [14, 0, 1, 12, 13, 7], Nat.zero_le _, hs126⟩
        rintro i _ w127 ⟨ehs128, rfl, hi, hs128⟩
        refine W_seq ?_
        refine W_seq ?_
        refine W_region ?_
        refine L0 (wanted_none rfl) rfl (y_move (v := Value.int _ _) rfl rfl) ?_
        refine L0 (wanted_none rfl) rfl (y_move (v := va) rfl rfl) ?_
        refine L0 (wanted_none rfl) rfl (y_slenSl rfl Try.underlying34 rfl hSa) ?_
        refine L0 (wanted_none rfl) rfl (y_lt rfl rfl rfl) ?_
        refine L0 (wanted_none rfl) rfl (y_move (v := Value.bool _) rfl rfl) ?_
        refine Lsp (t := 90) rfl (fun h129 => ?_) (fun h129 => ?_)
        · have h129' := h129
          first | replace h129' := of_decide_eq_true h129' | replace h129' := bnT' h129' | skip
          refine L0 (wanted_yesB rfl rfl rfl h129) rfl (y_move (v := Value.int _ _) rfl rfl) ?_
          refine L0 (wanted_yesB rfl rfl rfl h129) rfl (y_move (v := vb) rfl rfl) ?_
          refine L0 (wanted_yesB rfl rfl rfl h129) rfl (y_slenSl rfl Try.underlying34 rfl hSb) ?_
          refine L0 (wanted_yesB rfl rfl rfl h129) rfl (y_lt rfl rfl rfl) ?_
          refine L0 (wanted_none rfl) rfl (y_pickT rfl rfl h129 rfl) ?_
          refine Lnil ?_
          refine Wsp (t := 95) rfl (fun h130 => ?_) (fun h130 => ?_)
          · have h130' := h130
            first | replace h130' := of_decide_eq_true h130' | replace h130' := bnT' h130' | skip
            refine W_condT rfl h130 ?_
            refine W_skip ?_
            refine W_seq ?_
            refine W_block ?_
            refine W_seq ?_
            refine W_drawSt [(0, 0), (0, 1), (0, 2), (1, 3), (0, 4), (0, 5), (0, 6), (0, 7), (0, 8), (0, 9), (0, 10), (0, 13), (0, 14), (0, 11), (0, 15), (1, 12), (1, 16), (0, 17), (0, 18), (0, 19), (0, 20), (0, 21), (0, 24), (0, 25), (0, 22), (0, 26), (1, 23), (1, 27), (0, 28), (0, 29), (0, 30), (0, 31), (0, 32), (0, 33), (0, 34), (0, 35)] hs128 mixed (by kernel_rfl) (fun w131 hs132 => ?_)
            refine E0 (wanted_none rfl) rfl (y_move (v := va) rfl rfl) ?_
            refine E0 (wanted_none rfl) rfl (y_move (v := Value.int _ _) rfl rfl) ?_
            refine E0 (wanted_none rfl) rfl (y_indexSlAt rfl Try.underlying34 sz3 rfl rfl hSa (by omega) (by omega)) ?_
            refine E1 hs132 (wanted_none rfl) rfl (y_loadSl i rfl Try.underlying3 rfl rfl hSa (by omega) (by omega) (by intro k hk; first | (simp [keys] at hk; done) | (simp [keys] at hk; omega))) ?_
            refine E0 (wanted_none rfl) rfl (y_ge rfl rfl rfl) ?_
            refine E0 (wanted_none rfl) rfl (y_move (v := Value.bool _) rfl rfl) ?_
            refine Esp (t := 103) rfl (fun h133 => ?_) (fun h133 => ?_)
            · have h133' := h133
              first | replace h133' := of_decide_eq_true h133' | replace h133' := bnT' h133' | skip
              refine E0 (wanted_yesB rfl rfl rfl h133) rfl (y_move (v := Value.bool _) rfl rfl) ?_
              refine E0 (wanted_yesB rfl rfl rfl h133) rfl (y_not rfl rfl) ?_
              refine E0 (wanted_yesB rfl rfl rfl h133) rfl (y_move (v := Value.bool _) rfl rfl) ?_
              refine Ekn (t := 106) (b0 := false) rfl (by exact bnF (by obtain ⟨q1, q2, q3, q4, q5⟩ := best_full hB i (by omega) (by omega) (by omega); omega)) (fun h134 => ?_)
              refine E0 (wanted_yesB rfl rfl rfl h134) rfl (y_move (v := vb) rfl rfl) ?_
              refine E0 (wanted_yesB rfl rfl rfl h134) rfl (y_move (v := Value.int _ _) rfl rfl) ?_
              refine E0 (wanted_yesB rfl rfl rfl h134) rfl (y_move (v := vb) rfl rfl) ?_
              refine E0 (wanted_yesB rfl rfl rfl h134) rfl (y_move (v := Value.int _ _) rfl rfl) ?_
              refine E0 (wanted_yesB rfl rfl rfl h134) rfl (y_indexSlAt rfl Try.underlying34 sz3 rfl rfl hSb (by omega) (by omega)) ?_
              obtain ⟨q1, q2, q3, q4, q5⟩ := best_full hB i (by omega) (by omega) (by omega)
              refine E0 (wanted_yesB rfl rfl rfl h134) rfl (y_indexSlAt rfl Try.underlying34 sz3 rfl rfl hSb (by omega) (by omega)) ?_
              refine E1 hs132 (wanted_yesB rfl rfl rfl h134) rfl (y_loadSl i rfl Try.underlying3 rfl rfl hSb (by omega) (by omega) (by intro k hk; first | (simp [keys] at hk; done) | (simp [keys] at hk; omega))) ?_
              refine E1 hs132 (wanted_yesB rfl rfl rfl h134) rfl (y_loadSl (max b 0).toNat rfl Try.underlying3 rfl rfl hSb (by omega) (by omega) (by intro k hk; first | (simp [keys] at hk; done) | (simp [keys] at hk; omega))) ?_
              refine E0 (wanted_yesB rfl rfl rfl h134) rfl (y_lt rfl rfl rfl) ?_
              refine E0 (wanted_yesB rfl rfl rfl h133) rfl (y_pickF rfl rfl h134 rfl) ?_
              refine E0 (wanted_yesB rfl rfl rfl h133) rfl (y_move (v := Value.bool _) rfl rfl) ?_
              refine Ekn (t := 117) (b0 := false) rfl (by exact decide_eq_false (by obtain ⟨q1, q2, q3, q4, q5⟩ := best_full hB i (by omega) (by omega) (by omega); omega)) (fun h135 => ?_)
              refine E0 (wanted_yesB rfl rfl rfl h135) rfl (y_move (v := vb) rfl rfl) ?_
              refine E0 (wanted_yesB rfl rfl rfl h135) rfl (y_move (v := Value.int _ _) rfl rfl) ?_
              refine E0 (wanted_yesB rfl rfl rfl h135) rfl (y_move (v := vb) rfl rfl) ?_
              refine E0 (wanted_yesB rfl rfl rfl h135) rfl (y_move (v := Value.int _ _) rfl rfl) ?_
              refine E0 (wanted_yesB rfl rfl rfl h135) rfl (y_indexSlAt rfl Try.underlying34 sz3 rfl rfl hSb (by omega) (by omega)) ?_
              refine E0 (wanted_yesB rfl rfl rfl h135) rfl (y_indexSlAt rfl Try.underlying34 sz3 rfl rfl hSb (by omega) (by omega)) ?_
              refine E1 hs132 (wanted_yesB rfl rfl rfl h135) rfl (y_loadSl i rfl Try.underlying3 rfl rfl hSb (by omega) (by omega) (by intro k hk; first | (simp [keys] at hk; done) | (simp [keys] at hk; omega))) ?_
              refine E1 hs132 (wanted_yesB rfl rfl rfl h135) rfl (y_loadSl (max b 0).toNat rfl Try.underlying3 rfl rfl hSb (by omega) (by omega) (by intro k hk; first | (simp [keys] at hk; done) | (simp [keys] at hk; omega))) ?_
              refine E0 (wanted_yesB rfl rfl rfl h135) rfl (y_eq rfl rfl rfl) ?_
              refine E0 (wanted_yesB rfl rfl rfl h135) rfl (y_move (v := Value.bool _) rfl rfl) ?_
              refine Esp (t := 127) rfl (fun h136 => ?_) (fun h136 => ?_)
              · have h136' := h136
                first | replace h136' := of_decide_eq_true h136' | replace h136' := bnT' h136' | skip
                refine E0 (wanted_yesB rfl rfl rfl h136) rfl (y_move (v := Value.int _ _) rfl rfl) ?_
                refine E0 (wanted_yesB rfl rfl rfl h136) rfl (y_move (v := Value.int _ _) rfl rfl) ?_
                refine E0 (wanted_yesB rfl rfl rfl h136) rfl (y_lt rfl rfl rfl) ?_
                refine E0 (wanted_yesB rfl rfl rfl h135) rfl (y_pickT rfl rfl h136 rfl) ?_
                refine E0 (wanted_yesB rfl rfl rfl h133) rfl (y_pickF rfl rfl h135 rfl) ?_
                refine E0 (wanted_none rfl) rfl (y_pickT rfl rfl h133 rfl) ?_
                refine Enil ?_
                refine Wkn (t := 133) (b0 := false) rfl (by exact decide_eq_false (by obtain ⟨q1, q2, q3, q4, q5⟩ := best_full hB i (by omega) (by omega) (by omega); omega)) (fun h137 => ?_)
                refine W_condF rfl h137 ?_
                refine W_skip ?_
                refine W_region ?_
                refine L0 (wanted_none rfl) rfl (y_move (v := Value.int _ _) rfl rfl) ?_
                refine L0 (wanted_none rfl) rfl (y_add64 rfl rfl rfl (by omega)) ?_
                refine L0 (wanted_none rfl) rfl (y_assign (v := Value.int _ _) rfl rfl) ?_
                refine Lnil ?_
                exact ⟨i + 1, by first | omega | (dsimp only; done) | (dsimp only; omega), _, A_c (iv_eq (by first | omega | (dsimp only; done) | (dsimp only; omega))) (A_c rfl (A_c rfl (A_c rfl (A_c rfl (A_c rfl (rfl)))))), by omega, hs132⟩
              · have h136' := h136
                first | replace h136' := of_decide_eq_false h136' | replace h136' := bnF' h136' | skip
                refine Eno (wanted_noB rfl rfl rfl h136 (by decide)) rfl ?_
                refine Eno (wanted_noB rfl rfl rfl h136 (by decide)) rfl ?_
                refine Eno (wanted_noB rfl rfl rfl h136 (by decide)) rfl ?_
                refine E0 (wanted_yesB rfl rfl rfl h135) rfl (y_pickF rfl rfl h136 rfl) ?_
                refine E0 (wanted_yesB rfl rfl rfl h133) rfl (y_pickF rfl rfl h135 rfl) ?_
                refine E0 (wanted_none rfl) rfl (y_pickT rfl rfl h133 rfl) ?_
                refine Enil ?_
                refine W_condF rfl rfl ?_
                refine W_skip ?_
                refine W_region ?_
                refine L0 (wanted_none rfl) rfl (y_move (v := Value.int _ _) rfl rfl) ?_
                refine L0 (wanted_none rfl) rfl (y_add64 rfl rfl rfl (by omega)) ?_
                refine L0 (wanted_none rfl) rfl (y_assign (v := Value.int _ _) rfl rfl) ?_
                refine Lnil ?_
                exact ⟨i + 1, by first | omega | (dsimp only; done) | (dsimp only; omega), _, A_c (iv_eq (by first | omega | (dsimp only; done) | (dsimp only; omega))) (A_c rfl (A_c rfl (A_c rfl (A_c rfl (A_c rfl (rfl)))))), by omega, hs132⟩
            · have h133' := h133
              first | replace h133' := of_decide_eq_false h133' | replace h133' := bnF' h133' | skip
              refine Eno (wanted_noB rfl rfl rfl h133 (by decide)) rfl ?_
              refine Eno (wanted_noB rfl rfl rfl h133 (by decide)) rfl ?_
              refine Eno (wanted_noB rfl rfl rfl h133 (by decide)) rfl ?_
              refine Eno (wanted_noU rfl rfl rfl) rfl ?_
              refine Eno (wanted_noU rfl rfl rfl) rfl ?_
              refine Eno (wanted_noU rfl rfl rfl) rfl ?_
              refine Eno (wanted_noU rfl rfl rfl) rfl ?_
              refine Eno (wanted_noU rfl rfl rfl) rfl ?_
              refine Eno (wanted_noU rfl rfl rfl) rfl ?_
              refine E1no hs132 (wanted_noU rfl rfl rfl) rfl ?_
              refine E1no hs132 (wanted_noU rfl rfl rfl) rfl ?_
              refine Eno (wanted_noU rfl rfl rfl) rfl ?_
              refine Eno (wanted_noB rfl rfl rfl h133 (by decide)) rfl ?_
              refine Eno (wanted_noB rfl rfl rfl h133 (by decide)) rfl ?_
              refine Eno (wanted_noU rfl rfl rfl) rfl ?_
              refine Eno (wanted_noU rfl rfl rfl) rfl ?_
              refine Eno (wanted_noU rfl rfl rfl) rfl ?_
              refine Eno (wanted_noU rfl rfl rfl) rfl ?_
              refine Eno (wanted_noU rfl rfl rfl) rfl ?_
              refine Eno (wanted_noU rfl rfl rfl) rfl ?_
              refine E1no hs132 (wanted_noU rfl rfl rfl) rfl ?_
              refine E1no hs132 (wanted_noU rfl rfl rfl) rfl ?_
              refine Eno (wanted_noU rfl rfl rfl) rfl ?_
              refine Eno (wanted_noU rfl rfl rfl) rfl ?_
              refine Eno (wanted_noU rfl rfl rfl) rfl ?_
              refine Eno (wanted_noU rfl rfl rfl) rfl ?_
              refine Eno (wanted_noU rfl rfl rfl) rfl ?_
              refine Eno (wanted_noU rfl rfl rfl) rfl ?_
              refine Eno (wanted_noB rfl rfl rfl h133 (by decide)) rfl ?_
              refine E0 (wanted_none rfl) rfl (y_pickF rfl rfl h133 rfl) ?_
              refine Enil ?_
              refine W_condF rfl rfl ?_
              refine W_skip ?_
              refine W_region ?_
              refine L0 (wanted_none rfl) rfl (y_move (v := Value.int _ _) rfl rfl) ?_
              refine L0 (wanted_none rfl) rfl (y_add64 rfl rfl rfl (by omega)) ?_
              refine L0 (wanted_none rfl) rfl (y_assign (v := Value.int _ _) rfl rfl) ?_
              refine Lnil ?_
              exact ⟨i + 1, by first | omega | (dsimp only; done) | (dsimp only; omega), _, A_c (iv_eq (by first | omega | (dsimp only; done) | (dsimp only; omega))) (A_c rfl (A_c rfl (A_c rfl (A_c rfl (A_c rfl (rfl)))))), by omega, hs132⟩
          · have h130' := h130
            first | replace h130' := of_decide_eq_false h130' | replace h130' := bnF' h130' | skip
            refine W_condF rfl h130 ?_
            refine W_exit ?_
            refine W_seq ?_
            refine W_seq ?_
            refine W_region ?_
            refine L0 (wanted_none rfl) rfl (y_move (v := Value.bool _) rfl rfl) ?_
            refine L0 (wanted_none rfl) rfl (y_move (v := Value.bool _) rfl rfl) ?_
            refine Lsp (t := 135) rfl (fun h138 => ?_) (fun h138 => ?_)
            · have h138' := h138
              first | replace h138' := of_decide_eq_true h138' | replace h138' := bnT' h138' | skip
              refine L0 (wanted_yesB rfl rfl rfl h138) rfl (y_move (v := Value.int _ _) rfl rfl) ?_
              refine L0 (wanted_yesB rfl rfl rfl h138) rfl (y_move (v := va) rfl rfl) ?_
              refine L0 (wanted_yesB rfl rfl rfl h138) rfl (y_slenSl rfl Try.underlying34 rfl hSa) ?_
              refine L0 (wanted_yesB rfl rfl rfl h138) rfl (y_ge rfl rfl rfl) ?_
              refine L0 (wanted_yesB rfl rfl rfl h138) rfl (y_move (v := Value.bool _) rfl rfl) ?_
              refine Lkn (t := 140) (b0 := false) rfl (by exact decide_eq_false (by obtain ⟨q1, q2⟩ := best_found hB (by omega); omega)) (fun h139 => ?_)
              refine L0 (wanted_yesB rfl rfl rfl h139) rfl (y_move (v := va) rfl rfl) ?_
              refine L0 (wanted_yesB rfl rfl rfl h139) rfl (y_move (v := Value.int _ _) rfl rfl) ?_
              obtain ⟨q1, q2⟩ := best_found hB (by omega)
              refine L0 (wanted_yesB rfl rfl rfl h139) rfl (y_indexSlAt rfl Try.underlying34 sz3 rfl rfl hSa (by omega) (by omega)) ?_
              refine L1 (wanted_yesB rfl rfl rfl h139) rfl hs128 (y_loadSl (max b 0).toNat rfl Try.underlying3 rfl rfl hSa (by omega) (by omega) (by intro k hk; first | (simp [keys] at hk; done) | (simp [keys] at hk; omega))) ?_
              refine L0 (wanted_yesB rfl rfl rfl h139) rfl (y_lt rfl rfl rfl) ?_
              refine L0 (wanted_yesB rfl rfl rfl h138) rfl (y_pickF rfl rfl h139 rfl) ?_
              refine L0 (wanted_none rfl) rfl (y_pickT rfl rfl h138 rfl) ?_
              refine Lnil ?_
              refine Wkn (t := 147) (b0 := false) rfl (by exact decide_eq_false (by obtain ⟨q1, q2⟩ := best_found hB (by omega); omega)) (fun h140 => ?_)
              refine W_condF rfl h140 ?_
              refine W_skip ?_
              refine W_seq ?_
              refine W_region ?_
              refine L1 (wanted_none rfl) rfl hs128 ((y_loadT 0 rfl rfl rfl)) ?_
              refine Lc (wanted_none rfl) (c_call rfl rfl rfl Try.func34 (by kernel_rfl) rfl (live_any T w127) rfl ?_)
              rintro vA w141 ⟨eA, hrA, hc142⟩
              obtain ⟨g, capA, cur, fz, rfl, rfl, hg, hgl, hfz, hsz, hget⟩ := row_block hrA (by decide) 0
              have hg2 : w.heap.size ≤ g := Nat.le_trans hs128.size hg
              have hs143 := (hs128.call_new hc142 (row_keys hrA)).perm (List.perm_append_comm (l₁ := [_]))
              refine L0 (wanted_none rfl) rfl (y_assign (v := Value.slice _ _ _) rfl rfl) ?_
              refine Lnil ?_
              refine W_seq ?_
              refine W_seq ?_
              refine W_region ?_
              refine L0 (wanted_none rfl) rfl (y_assign (v := Value.int _ _) rfl rfl) ?_
              refine Lnil ?_
              refine W_block ?_
              refine W_loop (G := Nat) (fun i aL wl => ∃ e, aL = A 175 ((16, iv i) :: (7, pv b2 0) :: (15, .slice (some ⟨g, 0, none⟩) 8 capA) :: e) ∧ i ≤ 8 ∧ St w [(b2, .cells ⟨tbl T⟩ 59 (0, 0)), (g, .cells cur 3 fz)] wl) (fun i => 8 - i) (0) ?_ ?_
              · exact ⟨_, A_pins _ _ [16, 7, 15], Nat.zero_le _, hs143⟩
              rintro i _ w144 ⟨ehs145, rfl, hi, hs145⟩
              refine W_seq ?_
              refine W_seq ?_
              refine W_region ?_
              refine L0 (wanted_none rfl) rfl (y_move (v := Value.int _ _) rfl rfl) ?_
              refine L0 (wanted_none rfl) rfl (y_lt rfl rfl rfl) ?_
              refine Lnil ?_
              refine Wsp (t := 151) rfl (fun h146 => ?_) (fun h146 => ?_)
              · have h146' := h146
                first | replace h146' := of_decide_eq_true h146' | replace h146' := bnT' h146' | skip
                refine W_condT rfl h146 ?_
                refine W_skip ?_
                refine W_seq ?_
                refine W_block ?_
                refine W_seq ?_
                refine W_drawSt [(0, 0), (0, 1), (0, 2), (0, 3), (1, 4), (0, 5), (0, 8), (0, 9), (0, 10), (1, 11), (3, 6), (0, 7), (0, 12), (0, 13), (0, 14), (1, 15), (0, 16), (3, 17), (3, 18), (0, 19), (0, 20)] hs145 mixed (by kernel_rfl) (fun w147 hs148 => ?_)
                refine E0 (wanted_none rfl) rfl (y_move (v := Value.slice _ _ _) rfl rfl) ?_
                refine E0 (wanted_none rfl) rfl (y_slen rfl Try.underlying34 rfl) ?_
                refine E0 (wanted_none rfl) rfl (y_ne rfl rfl rfl) ?_
                refine E0 (wanted_none rfl) rfl (y_move (v := Value.bool _) rfl rfl) ?_
                refine Ekn (t := 157) (b0 := false) rfl (by exact bnF rfl) (fun h149 => ?_)
                refine E1 hs148 (wanted_yesB rfl rfl rfl h149) rfl ((y_loadT 0 rfl rfl rfl)) ?_
                refine E0 (wanted_yesB rfl rfl rfl h149) rfl (y_move (v := Value.int _ _) rfl rfl) ?_
                refine E0 (wanted_yesB rfl rfl rfl h149) rfl (y_move (v := Value.slice _ _ _) rfl rfl) ?_
                refine E0 (wanted_yesB rfl rfl rfl h149) rfl (y_move (v := Value.int _ _) rfl rfl) ?_
                refine E0 (wanted_yesB rfl rfl rfl h149) rfl (y_indexSl rfl Try.underlying34 sz3 rfl rfl (by omega) (by omega)) ?_
                refine E1 hs148 (wanted_yesB rfl rfl rfl h149) rfl (y_load 1 rfl Try.underlying3 rfl rfl rfl (by rw [ix1]; exact hget i (by omega))) ?_
                refine E3 (wanted_yesB rfl rfl rfl h149) (c_call rfl rfl rfl Try.func36 (by kernel_rfl) rfl (in_any T i w147) rfl ?_)
                rintro vC w150 ⟨eC, hrC, hc151⟩
                have hC : Sl w150 vC (inT T i 24).length (nums (inT T i 24)) := hrC.sl hc151 (fun x hx => hx) 0
                have hs152 := (hs148.call_new hc151 (row_keys hrC)).dropL (M := eC) (fun x hx => Nat.le_trans hs148.size (hrC.new x hx))
                refine ⟨fun _ => hs152, ?_⟩
                refine E0 (wanted_yesB rfl rfl rfl h149) rfl (y_slenSl rfl Try.underlying34 rfl hC) ?_
                refine E0 (wanted_yesB rfl rfl rfl h149) rfl (y_ne rfl rfl rfl) ?_
                refine E0 (wanted_none rfl) rfl (y_pickF rfl rfl h149 rfl) ?_
                refine E0 (wanted_none rfl) rfl (y_move (v := Value.bool _) rfl rfl) ?_
                refine Ekn (t := 168) (b0 := false) rfl (by exact bnF (lvI_get T (by omega)).symm) (fun h153 => ?_)
                refine E1 hs152 (wanted_yesB rfl rfl rfl h153) rfl ((y_loadT 0 rfl rfl rfl)) ?_
                refine E0 (wanted_yesB rfl rfl rfl h153) rfl (y_move (v := Value.int _ _) rfl rfl) ?_
                refine E3 (wanted_yesB rfl rfl rfl h153) (c_call rfl rfl rfl Try.func36 (by kernel_rfl) rfl (in_any T i w150) rfl ?_)
                rintro vE w154 ⟨eE, hrE, hc155⟩
                have hEE : Sl w154 vE (inT T i 24).length (nums (inT T i 24)) := hrE.sl hc155 (fun x hx => hx) 0
                have hs156 := (hs152.call_new hc155 (row_keys hrE)).dropL (M := eE) (fun x hx => Nat.le_trans hs152.size (hrE.new x hx))
                refine ⟨fun _ => hs156, ?_⟩
                refine E3 (wanted_yesB rfl rfl rfl h153) (c_call rfl rfl rfl Try.func39 (by kernel_rfl) rfl (isSorted_any (inT T i 24) vE (by have := inT_len T i 24; omega) (fun j k a b => inT_sortedN T i 24 j k a b) w154 hEE) rfl ?_)
                rintro _ w157 ⟨rfl, hc158⟩
                have hs159 := hs156.call0 hc158
                refine ⟨fun _ => hs159, ?_⟩
                refine E0 (wanted_yesB rfl rfl rfl h153) rfl (y_not rfl rfl) ?_
                refine E0 (wanted_none rfl) rfl (y_pickF rfl rfl h153 rfl) ?_
                refine Enil ?_
                refine Wkn (t := 174) (b0 := false) rfl (by rfl) (fun h160 => ?_)
                refine W_condF rfl h160 ?_
                refine W_skip ?_
                refine W_region ?_
                refine L0 (wanted_none rfl) rfl (y_move (v := Value.int _ _) rfl rfl) ?_
                refine L0 (wanted_none rfl) rfl (y_add64 rfl rfl rfl (by omega)) ?_
                refine L0 (wanted_none rfl) rfl (y_assign (v := Value.int _ _) rfl rfl) ?_
                refine Lnil ?_
                exact ⟨i + 1, by first | omega | (dsimp only; done) | (dsimp only; omega), _, A_c (iv_eq (by first | omega | (dsimp only; done) | (dsimp only; omega))) (A_c rfl (A_c rfl (rfl))), by omega, hs159⟩
              · have h146' := h146
                first | replace h146' := of_decide_eq_false h146' | replace h146' := bnF' h146' | skip
                refine W_condF rfl h146 ?_
                refine W_exit ?_
                refine W_seq ?_
                refine W_region ?_
                refine L0 (wanted_none rfl) rfl (y_assign (v := Value.bool _) rfl rfl) ?_
                refine Lnil ?_
                refine W_ret ?_
                refine fin1 (fn := Try.f7) rfl rfl ?_
                exact ⟨rfl, forget hs145 (by intro x hx; simp only [List.mem_cons, List.not_mem_nil, or_false] at hx; rcases hx with rfl | rfl <;> assumption)⟩
            · have h138' := h138
              first | replace h138' := of_decide_eq_false h138' | replace h138' := bnF' h138' | skip
              refine Lno (wanted_noB rfl rfl rfl h138 (by decide)) rfl ?_
              refine Lno (wanted_noB rfl rfl rfl h138 (by decide)) rfl ?_
              refine Lno (wanted_noB rfl rfl rfl h138 (by decide)) rfl ?_
              refine Lno (wanted_noB rfl rfl rfl h138 (by decide)) rfl ?_
              refine Lno (wanted_noB rfl rfl rfl h138 (by decide)) rfl ?_
              refine Lno (wanted_noU rfl rfl rfl) rfl ?_
              refine Lno (wanted_noU rfl rfl rfl) rfl ?_
              refine Lno (wanted_noU rfl rfl rfl) rfl ?_
              refine Lno (wanted_noU rfl rfl rfl) rfl ?_
              refine Lno (wanted_noU rfl rfl rfl) rfl ?_
              refine Lno (wanted_noB rfl rfl rfl h138 (by decide)) rfl ?_
              refine L0 (wanted_none rfl) rfl (y_pickF rfl rfl h138 rfl) ?_
              refine Lnil ?_
              refine W_condF rfl rfl ?_
              refine W_skip ?_
              refine W_seq ?_
              refine W_region ?_
              refine L1 (wanted_none rfl) rfl hs128 ((y_loadT 0 rfl rfl rfl)) ?_
              refine Lc (wanted_none rfl) (c_call rfl rfl rfl Try.func34 (by kernel_rfl) rfl (live_any T w127) rfl ?_)
              rintro vA w161 ⟨eA, hrA, hc162⟩
              obtain ⟨g, capA, cur, fz, rfl, rfl, hg, hgl, hfz, hsz, hget⟩ := row_block hrA (by decide) 0
              have hg2 : w.heap.size ≤ g := Nat.le_trans hs128.size hg
              have hs163 := (hs128.call_new hc162 (row_keys hrA)).perm (List.perm_append_comm (l₁ := [_]))
              refine L0 (wanted_none rfl) rfl (y_assign (v := Value.slice _ _ _) rfl rfl) ?_
              refine Lnil ?_
              refine W_seq ?_
              refine W_seq ?_
              refine W_region ?_
              refine L0 (wanted_none rfl) rfl (y_assign (v := Value.int _ _) rfl rfl) ?_
              refine Lnil ?_
              refine W_block ?_
              refine W_loop (G := Nat) (fun i aL wl => ∃ e, aL = A 175 ((16, iv i) :: (7, pv b2 0) :: (15, .slice (some ⟨g, 0, none⟩) 8 capA) :: e) ∧ i ≤ 8 ∧ St w [(b2, .cells ⟨tbl T⟩ 59 (0, 0)), (g, .cells cur 3 fz)] wl) (fun i => 8 - i) (0) ?_ ?_
              · exact ⟨_, A_pins _ _ [16, 7, 15], Nat.zero_le _, hs163⟩
              rintro i _ w164 ⟨ehs165, rfl, hi, hs165⟩
              refine W_seq ?_
              refine W_seq ?_
              refine W_region ?_
              refine L0 (wanted_none rfl) rfl (y_move (v := Value.int _ _) rfl rfl) ?_
              refine L0 (wanted_none rfl) rfl (y_lt rfl rfl rfl) ?_
              refine Lnil ?_
              refine Wsp (t := 151) rfl (fun h166 => ?_) (fun h166 => ?_)
              · have h166' := h166
                first | replace h166' := of_decide_eq_true h166' | replace h166' := bnT' h166' | skip
                refine W_condT rfl h166 ?_
                refine W_skip ?_
                refine W_seq ?_
                refine W_block ?_
                refine W_seq ?_
                refine W_drawSt [(0, 0), (0, 1), (0, 2), (0, 3), (1, 4), (0, 5), (0, 8), (0, 9), (0, 10), (1, 11), (3, 6), (0, 7), (0, 12), (0, 13), (0, 14), (1, 15), (0, 16), (3, 17), (3, 18), (0, 19), (0, 20)] hs165 mixed (by kernel_rfl) (fun w167 hs168 => ?_)
                refine E0 (wanted_none rfl) rfl (y_move (v := Value.slice _ _ _) rfl rfl) ?_
                refine E0 (wanted_none rfl) rfl (y_slen rfl Try.underlying34 rfl) ?_
                refine E0 (wanted_none rfl) rfl (y_ne rfl rfl rfl) ?_
                refine E0 (wanted_none rfl) rfl (y_move (v := Value.bool _) rfl rfl) ?_
                refine Ekn (t := 157) (b0 := false) rfl (by exact bnF rfl) (fun h169 => ?_)
                refine E1 hs168 (wanted_yesB rfl rfl rfl h169) rfl ((y_loadT 0 rfl rfl rfl)) ?_
                refine E0 (wanted_yesB rfl rfl rfl h169) rfl (y_move (v := Value.int _ _) rfl rfl) ?_
                refine E0 (wanted_yesB rfl rfl rfl h169) rfl (y_move (v := Value.slice _ _ _) rfl rfl) ?_
                refine E0 (wanted_yesB rfl rfl rfl h169) rfl (y_move (v := Value.int _ _) rfl rfl) ?_
                refine E0 (wanted_yesB rfl rfl rfl h169) rfl (y_indexSl rfl Try.underlying34 sz3 rfl rfl (by omega) (by omega)) ?_
                refine E1 hs168 (wanted_yesB rfl rfl rfl h169) rfl (y_load 1 rfl Try.underlying3 rfl rfl rfl (by rw [ix1]; exact hget i (by omega))) ?_
                refine E3 (wanted_yesB rfl rfl rfl h169) (c_call rfl rfl rfl Try.func36 (by kernel_rfl) rfl (in_any T i w167) rfl ?_)
                rintro vC w170 ⟨eC, hrC, hc171⟩
                have hC : Sl w170 vC (inT T i 24).length (nums (inT T i 24)) := hrC.sl hc171 (fun x hx => hx) 0
                have hs172 := (hs168.call_new hc171 (row_keys hrC)).dropL (M := eC) (fun x hx => Nat.le_trans hs168.size (hrC.new x hx))
                refine ⟨fun _ => hs172, ?_⟩
                refine E0 (wanted_yesB rfl rfl rfl h169) rfl (y_slenSl rfl Try.underlying34 rfl hC) ?_
                refine E0 (wanted_yesB rfl rfl rfl h169) rfl (y_ne rfl rfl rfl) ?_
                refine E0 (wanted_none rfl) rfl (y_pickF rfl rfl h169 rfl) ?_
                refine E0 (wanted_none rfl) rfl (y_move (v := Value.bool _) rfl rfl) ?_
                refine Ekn (t := 168) (b0 := false) rfl (by exact bnF (lvI_get T (by omega)).symm) (fun h173 => ?_)
                refine E1 hs172 (wanted_yesB rfl rfl rfl h173) rfl ((y_loadT 0 rfl rfl rfl)) ?_
                refine E0 (wanted_yesB rfl rfl rfl h173) rfl (y_move (v := Value.int _ _) rfl rfl) ?_
                refine E3 (wanted_yesB rfl rfl rfl h173) (c_call rfl rfl rfl Try.func36 (by kernel_rfl) rfl (in_any T i w170) rfl ?_)
                rintro vE w174 ⟨eE, hrE, hc175⟩
                have hEE : Sl w174 vE (inT T i 24).length (nums (inT T i 24)) := hrE.sl hc175 (fun x hx => hx) 0
                have hs176 := (hs172.call_new hc175 (row_keys hrE)).dropL (M := eE) (fun x hx => Nat.le_trans hs172.size (hrE.new x hx))
                refine ⟨fun _ => hs176, ?_⟩
                refine E3 (wanted_yesB rfl rfl rfl h173) (c_call rfl rfl rfl Try.func39 (by kernel_rfl) rfl (isSorted_any (inT T i 24) vE (by have := inT_len T i 24; omega) (fun j k a b => inT_sortedN T i 24 j k a b) w174 hEE) rfl ?_)
                rintro _ w177 ⟨rfl, hc178⟩
                have hs179 := hs176.call0 hc178
                refine ⟨fun _ => hs179, ?_⟩
                refine E0 (wanted_yesB rfl rfl rfl h173) rfl (y_not rfl rfl) ?_
                refine E0 (wanted_none rfl) rfl (y_pickF rfl rfl h173 rfl) ?_
                refine Enil ?_
                refine Wkn (t := 174) (b0 := false) rfl (by rfl) (fun h180 => ?_)
                refine W_condF rfl h180 ?_
                refine W_skip ?_
                refine W_region ?_
                refine L0 (wanted_none rfl) rfl (y_move (v := Value.int _ _) rfl rfl) ?_
                refine L0 (wanted_none rfl) rfl (y_add64 rfl rfl rfl (by omega)) ?_
                refine L0 (wanted_none rfl) rfl (y_assign (v := Value.int _ _) rfl rfl) ?_
                refine Lnil ?_
                exact ⟨i + 1, by first | omega | (dsimp only; done) | (dsimp only; omega), _, A_c (iv_eq (by first | omega | (dsimp only; done) | (dsimp only; omega))) (A_c rfl (A_c rfl (rfl))), by omega, hs179⟩
              · have h166' := h166
                first | replace h166' := of_decide_eq_false h166' | replace h166' := bnF' h166' | skip
                refine W_condF rfl h166 ?_
                refine W_exit ?_
                refine W_seq ?_
                refine W_region ?_
                refine L0 (wanted_none rfl) rfl (y_assign (v := Value.bool _) rfl rfl) ?_
                refine Lnil ?_
                refine W_ret ?_
                refine fin1 (fn := Try.f7) rfl rfl ?_
                exact ⟨rfl, forget hs165 (by intro x hx; simp only [List.mem_cons, List.not_mem_nil, or_false] at hx; rcases hx with rfl | rfl <;> assumption)⟩
        · have h129' := h129
          first | replace h129' := of_decide_eq_false h129' | replace h129' := bnF' h129' | skip
          refine Lno (wanted_noB rfl rfl rfl h129 (by decide)) rfl ?_
          refine Lno (wanted_noB rfl rfl rfl h129 (by decide)) rfl ?_
          refine Lno (wanted_noB rfl rfl rfl h129 (by decide)) rfl ?_
          refine Lno (wanted_noB rfl rfl rfl h129 (by decide)) rfl ?_
          refine L0 (wanted_none rfl) rfl (y_pickF rfl rfl h129 rfl) ?_
          refine Lnil ?_
          refine W_condF rfl rfl ?_
          refine W_exit ?_
          refine W_seq ?_
          refine W_seq ?_
          refine W_region ?_
          refine L0 (wanted_none rfl) rfl (y_move (v := Value.bool _) rfl rfl) ?_
          refine L0 (wanted_none rfl) rfl (y_move (v := Value.bool _) rfl rfl) ?_
          refine Lsp (t := 135) rfl (fun h181 => ?_) (fun h181 => ?_)
          · have h181' := h181
            first | replace h181' := of_decide_eq_true h181' | replace h181' := bnT' h181' | skip
            refine L0 (wanted_yesB rfl rfl rfl h181) rfl (y_move (v := Value.int _ _) rfl rfl) ?_
            refine L0 (wanted_yesB rfl rfl rfl h181) rfl (y_move (v := va) rfl rfl) ?_
            refine L0 (wanted_yesB rfl rfl rfl h181) rfl (y_slenSl rfl Try.underlying34 rfl hSa) ?_
            refine L0 (wanted_yesB rfl rfl rfl h181) rfl (y_ge rfl rfl rfl) ?_
            refine L0 (wanted_yesB rfl rfl rfl h181) rfl (y_move (v := Value.bool _) rfl rfl) ?_
            refine Lkn (t := 140) (b0 := false) rfl (by exact decide_eq_false (by obtain ⟨q1, q2⟩ := best_found hB (by omega); omega)) (fun h182 => ?_)
            refine L0 (wanted_yesB rfl rfl rfl h182) rfl (y_move (v := va) rfl rfl) ?_
            refine L0 (wanted_yesB rfl rfl rfl h182) rfl (y_move (v := Value.int _ _) rfl rfl) ?_
            obtain ⟨q1, q2⟩ := best_found hB (by omega)
            refine L0 (wanted_yesB rfl rfl rfl h182) rfl (y_indexSlAt rfl Try.underlying34 sz3 rfl rfl hSa (by omega) (by omega)) ?_
            refine L1 (wanted_yesB rfl rfl rfl h182) rfl hs128 (y_loadSl (max b 0).toNat rfl Try.underlying3 rfl rfl hSa (by omega) (by omega) (by intro k hk; first | (simp [keys] at hk; done) | (simp [keys] at hk; omega))) ?_
            refine L0 (wanted_yesB rfl rfl rfl h182) rfl (y_lt rfl rfl rfl) ?_
            refine L0 (wanted_yesB rfl rfl rfl h181) rfl (y_pickF rfl rfl h182 rfl) ?_
            refine L0 (wanted_none rfl) rfl (y_pickT rfl rfl h181 rfl) ?_
            refine Lnil ?_
            refine Wkn (t := 147) (b0 := false) rfl (by exact decide_eq_false (by obtain ⟨q1, q2⟩ := best_found hB (by omega); omega)) (fun h183 => ?_)
            refine W_condF rfl h183 ?_
            refine W_skip ?_
            refine W_seq ?_
            refine W_region ?_
            refine L1 (wanted_none rfl) rfl hs128 ((y_loadT 0 rfl rfl rfl)) ?_
            refine Lc (wanted_none rfl) (c_call rfl rfl rfl Try.func34 (by kernel_rfl) rfl (live_any T w127) rfl ?_)
            rintro vA w184 ⟨eA, hrA, hc185⟩
            obtain ⟨g, capA, cur, fz, rfl, rfl, hg, hgl, hfz, hsz, hget⟩ := row_block hrA (by decide) 0
            have hg2 : w.heap.size ≤ g := Nat.le_trans hs128.size hg
            have hs186 := (hs128.call_new hc185 (row_keys hrA)).perm (List.perm_append_comm (l₁ := [_]))
            refine L0 (wanted_none rfl) rfl (y_assign (v := Value.slice _ _ _) rfl rfl) ?_
            refine Lnil ?_
            refine W_seq ?_
            refine W_seq ?_
            refine W_region ?_
            refine L0 (wanted_none rfl) rfl (y_assign (v := Value.int _ _) rfl rfl) ?_
            refine Lnil ?_
            refine W_block ?_
            refine W_loop (G := Nat) (fun i aL wl => ∃ e, aL = A 175 ((16, iv i) :: (7, pv b2 0) :: (15, .slice (some ⟨g, 0, none⟩) 8 capA) :: e) ∧ i ≤ 8 ∧ St w [(b2, .cells ⟨tbl T⟩ 59 (0, 0)), (g, .cells cur 3 fz)] wl) (fun i => 8 - i) (0) ?_ ?_
            · exact ⟨_, A_pins _ _ [16, 7, 15], Nat.zero_le _, hs186⟩
            rintro i _ w187 ⟨ehs188, rfl, hi, hs188⟩
            refine W_seq ?_
            refine W_seq ?_
            refine W_region ?_
            refine L0 (wanted_none rfl) rfl (y_move (v := Value.int _ _) rfl rfl) ?_
            refine L0 (wanted_none rfl) rfl (y_lt rfl rfl rfl) ?_
            refine Lnil ?_
            refine Wsp (t := 151) rfl (fun h189 => ?_) (fun h189 => ?_)
            · have h189' := h189
              first | replace h189' := of_decide_eq_true h189' | replace h189' := bnT' h189' | skip
              refine W_condT rfl h189 ?_
              refine W_skip ?_
              refine W_seq ?_
              refine W_block ?_
              refine W_seq ?_
              refine W_drawSt [(0, 0), (0, 1), (0, 2), (0, 3), (1, 4), (0, 5), (0, 8), (0, 9), (0, 10), (1, 11), (3, 6), (0, 7), (0, 12), (0, 13), (0, 14), (1, 15), (0, 16), (3, 17), (3, 18), (0, 19), (0, 20)] hs188 mixed (by kernel_rfl) (fun w190 hs191 => ?_)
              refine E0 (wanted_none rfl) rfl (y_move (v := Value.slice _ _ _) rfl rfl) ?_
              refine E0 (wanted_none rfl) rfl (y_slen rfl Try.underlying34 rfl) ?_
              refine E0 (wanted_none rfl) rfl (y_ne rfl rfl rfl) ?_
              refine E0 (wanted_none rfl) rfl (y_move (v := Value.bool _) rfl rfl) ?_
              refine Ekn (t := 157) (b0 := false) rfl (by exact bnF rfl) (fun h192 => ?_)
              refine E1 hs191 (wanted_yesB rfl rfl rfl h192) rfl ((y_loadT 0 rfl rfl rfl)) ?_
              refine E0 (wanted_yesB rfl rfl rfl h192) rfl (y_move (v := Value.int _ _) rfl rfl) ?_
              refine E0 (wanted_yesB rfl rfl rfl h192) rfl (y_move (v := Value.slice _ _ _) rfl rfl) ?_
              refine E0 (wanted_yesB rfl rfl rfl h192) rfl (y_move (v := Value.int _ _) rfl rfl) ?_
              refine E0 (wanted_yesB rfl rfl rfl h192) rfl (y_indexSl rfl Try.underlying34 sz3 rfl rfl (by omega) (by omega)) ?_
              refine E1 hs191 (wanted_yesB rfl rfl rfl h192) rfl (y_load 1 rfl Try.underlying3 rfl rfl rfl (by rw [ix1]; exact hget i (by omega))) ?_
              refine E3 (wanted_yesB rfl rfl rfl h192) (c_call rfl rfl rfl Try.func36 (by kernel_rfl) rfl (in_any T i w190) rfl ?_)
              rintro vC w193 ⟨eC, hrC, hc194⟩
              have hC : Sl w193 vC (inT T i 24).length (nums (inT T i 24)) := hrC.sl hc194 (fun x hx => hx) 0
              have hs195 := (hs191.call_new hc194 (row_keys hrC)).dropL (M := eC) (fun x hx => Nat.le_trans hs191.size (hrC.new x hx))
              refine ⟨fun _ => hs195, ?_⟩
              refine E0 (wanted_yesB rfl rfl rfl h192) rfl (y_slenSl rfl Try.underlying34 rfl hC) ?_
              refine E0 (wanted_yesB rfl rfl rfl h192) rfl (y_ne rfl rfl rfl) ?_
              refine E0 (wanted_none rfl) rfl (y_pickF rfl rfl h192 rfl) ?_
              refine E0 (wanted_none rfl) rfl (y_move (v := Value.bool _) rfl rfl) ?_
              refine Ekn (t := 168) (b0 := false) rfl (by exact bnF (lvI_get T (by omega)).symm) (fun h196 => ?_)
              refine E1 hs195 (wanted_yesB rfl rfl rfl h196) rfl ((y_loadT 0 rfl rfl rfl)) ?_
              refine E0 (wanted_yesB rfl rfl rfl h196) rfl (y_move (v := Value.int _ _) rfl rfl) ?_
              refine E3 (wanted_yesB rfl rfl rfl h196) (c_call rfl rfl rfl Try.func36 (by kernel_rfl) rfl (in_any T i w193) rfl ?_)
              rintro vE w197 ⟨eE, hrE, hc198⟩
              have hEE : Sl w197 vE (inT T i 24).length (nums (inT T i 24)) := hrE.sl hc198 (fun x hx => hx) 0
              have hs199 := (hs195.call_new hc198 (row_keys hrE)).dropL (M := eE) (fun x hx => Nat.le_trans hs195.size (hrE.new x hx))
              refine ⟨fun _ => hs199, ?_⟩
              refine E3 (wanted_yesB rfl rfl rfl h196) (c_call rfl rfl rfl Try.func39 (by kernel_rfl) rfl (isSorted_any (inT T i 24) vE (by have := inT_len T i 24; omega) (fun j k a b => inT_sortedN T i 24 j k a b) w197 hEE) rfl ?_)
              rintro _ w200 ⟨rfl, hc201⟩
              have hs202 := hs199.call0 hc201
              refine ⟨fun _ => hs202, ?_⟩
              refine E0 (wanted_yesB rfl rfl rfl h196) rfl (y_not rfl rfl) ?_
              refine E0 (wanted_none rfl) rfl (y_pickF rfl rfl h196 rfl) ?_
              refine Enil ?_
              refine Wkn (t := 174) (b0 := false) rfl (by rfl) (fun h203 => ?_)
              refine W_condF rfl h203 ?_
              refine W_skip ?_
              refine W_region ?_
              refine L0 (wanted_none rfl) rfl (y_move (v := Value.int _ _) rfl rfl) ?_
              refine L0 (wanted_none rfl) rfl (y_add64 rfl rfl rfl (by omega)) ?_
              refine L0 (wanted_none rfl) rfl (y_assign (v := Value.int _ _) rfl rfl) ?_
              refine Lnil ?_
              exact ⟨i + 1, by first | omega | (dsimp only; done) | (dsimp only; omega), _, A_c (iv_eq (by first | omega | (dsimp only; done) | (dsimp only; omega))) (A_c rfl (A_c rfl (rfl))), by omega, hs202⟩
            · have h189' := h189
              first | replace h189' := of_decide_eq_false h189' | replace h189' := bnF' h189' | skip
              refine W_condF rfl h189 ?_
              refine W_exit ?_
              refine W_seq ?_
              refine W_region ?_
              refine L0 (wanted_none rfl) rfl (y_assign (v := Value.bool _) rfl rfl) ?_
              refine Lnil ?_
              refine W_ret ?_
              refine fin1 (fn := Try.f7) rfl rfl ?_
              exact ⟨rfl, forget hs188 (by intro x hx; simp only [List.mem_cons, List.not_mem_nil, or_false] at hx; rcases hx with rfl | rfl <;> assumption)⟩
          · have h181' := h181
            first | replace h181' := of_decide_eq_false h181' | replace h181' := bnF' h181' | skip
            refine Lno (wanted_noB rfl rfl rfl h181 (by decide)) rfl ?_
            refine Lno (wanted_noB rfl rfl rfl h181 (by decide)) rfl ?_
            refine Lno (wanted_noB rfl rfl rfl h181 (by decide)) rfl ?_
            refine Lno (wanted_noB rfl rfl rfl h181 (by decide)) rfl ?_
            refine Lno (wanted_noB rfl rfl rfl h181 (by decide)) rfl ?_
            refine Lno (wanted_noU rfl rfl rfl) rfl ?_
            refine Lno (wanted_noU rfl rfl rfl) rfl ?_
            refine Lno (wanted_noU rfl rfl rfl) rfl ?_
            refine Lno (wanted_noU rfl rfl rfl) rfl ?_
            refine Lno (wanted_noU rfl rfl rfl) rfl ?_
            refine Lno (wanted_noB rfl rfl rfl h181 (by decide)) rfl ?_
            refine L0 (wanted_none rfl) rfl (y_pickF rfl rfl h181 rfl) ?_
            refine Lnil ?_
            refine W_condF rfl rfl ?_
            refine W_skip ?_
            refine W_seq ?_
            refine W_region ?_
            refine L1 (wanted_none rfl) rfl hs128 ((y_loadT 0 rfl rfl rfl)) ?_
            refine Lc (wanted_none rfl) (c_call rfl rfl rfl Try.func34 (by kernel_rfl) rfl (live_any T w127) rfl ?_)
            rintro vA w204 ⟨eA, hrA, hc205⟩
            obtain ⟨g, capA, cur, fz, rfl, rfl, hg, hgl, hfz, hsz, hget⟩ := row_block hrA (by decide) 0
            have hg2 : w.heap.size ≤ g := Nat.le_trans hs128.size hg
            have hs206 := (hs128.call_new hc205 (row_keys hrA)).perm (List.perm_append_comm (l₁ := [_]))
            refine L0 (wanted_none rfl) rfl (y_assign (v := Value.slice _ _ _) rfl rfl) ?_
            refine Lnil ?_
            refine W_seq ?_
            refine W_seq ?_
            refine W_region ?_
            refine L0 (wanted_none rfl) rfl (y_assign (v := Value.int _ _) rfl rfl) ?_
            refine Lnil ?_
            refine W_block ?_
            refine W_loop (G := Nat) (fun i aL wl => ∃ e, aL = A 175 ((16, iv i) :: (7, pv b2 0) :: (15, .slice (some ⟨g, 0, none⟩) 8 capA) :: e) ∧ i ≤ 8 ∧ St w [(b2, .cells ⟨tbl T⟩ 59 (0, 0)), (g, .cells cur 3 fz)] wl) (fun i => 8 - i) (0) ?_ ?_
            · exact ⟨_, A_pins _ _ [16, 7, 15], Nat.zero_le _, hs206⟩
            rintro i _ w207 ⟨ehs208, rfl, hi, hs208⟩
            refine W_seq ?_
            refine W_seq ?_
            refine W_region ?_
            refine L0 (wanted_none rfl) rfl (y_move (v := Value.int _ _) rfl rfl) ?_
            refine L0 (wanted_none rfl) rfl (y_lt rfl rfl rfl) ?_
            refine Lnil ?_
            refine Wsp (t := 151) rfl (fun h209 => ?_) (fun h209 => ?_)
            · have h209' := h209
              first | replace h209' := of_decide_eq_true h209' | replace h209' := bnT' h209' | skip
              refine W_condT rfl h209 ?_
              refine W_skip ?_
              refine W_seq ?_
              refine W_block ?_
              refine W_seq ?_
              refine W_drawSt [(0, 0), (0, 1), (0, 2), (0, 3), (1, 4), (0, 5), (0, 8), (0, 9), (0, 10), (1, 11), (3, 6), (0, 7), (0, 12), (0, 13), (0, 14), (1, 15), (0, 16), (3, 17), (3, 18), (0, 19), (0, 20)] hs208 mixed (by kernel_rfl) (fun w210 hs211 => ?_)
              refine E0 (wanted_none rfl) rfl (y_move (v := Value.slice _ _ _) rfl rfl) ?_
              refine E0 (wanted_none rfl) rfl (y_slen rfl Try.underlying34 rfl) ?_
              refine E0 (wanted_none rfl) rfl (y_ne rfl rfl rfl) ?_
              refine E0 (wanted_none rfl) rfl (y_move (v := Value.bool _) rfl rfl) ?_
              refine Ekn (t := 157) (b0 := false) rfl (by exact bnF rfl) (fun h212 => ?_)
              refine E1 hs211 (wanted_yesB rfl rfl rfl h212) rfl ((y_loadT 0 rfl rfl rfl)) ?_
              refine E0 (wanted_yesB rfl rfl rfl h212) rfl (y_move (v := Value.int _ _) rfl rfl) ?_
              refine E0 (wanted_yesB rfl rfl rfl h212) rfl (y_move (v := Value.slice _ _ _) rfl rfl) ?_
              refine E0 (wanted_yesB rfl rfl rfl h212) rfl (y_move (v := Value.int _ _) rfl rfl) ?_
              refine E0 (wanted_yesB rfl rfl rfl h212) rfl (y_indexSl rfl Try.underlying34 sz3 rfl rfl (by omega) (by omega)) ?_
              refine E1 hs211 (wanted_yesB rfl rfl rfl h212) rfl (y_load 1 rfl Try.underlying3 rfl rfl rfl (by rw [ix1]; exact hget i (by omega))) ?_
              refine E3 (wanted_yesB rfl rfl rfl h212) (c_call rfl rfl rfl Try.func36 (by kernel_rfl) rfl (in_any T i w210) rfl ?_)
              rintro vC w213 ⟨eC, hrC, hc214⟩
              have hC : Sl w213 vC (inT T i 24).length (nums (inT T i 24)) := hrC.sl hc214 (fun x hx => hx) 0
              have hs215 := (hs211.call_new hc214 (row_keys hrC)).dropL (M := eC) (fun x hx => Nat.le_trans hs211.size (hrC.new x hx))
              refine ⟨fun _ => hs215, ?_⟩
              refine E0 (wanted_yesB rfl rfl rfl h212) rfl (y_slenSl rfl Try.underlying34 rfl hC) ?_
              refine E0 (wanted_yesB rfl rfl rfl h212) rfl (y_ne rfl rfl rfl) ?_
              refine E0 (wanted_none rfl) rfl (y_pickF rfl rfl h212 rfl) ?_
              refine E0 (wanted_none rfl) rfl (y_move (v := Value.bool _) rfl rfl) ?_
              refine Ekn (t := 168) (b0 := false) rfl (by exact bnF (lvI_get T (by omega)).symm) (fun h216 => ?_)
              refine E1 hs215 (wanted_yesB rfl rfl rfl h216) rfl ((y_loadT 0 rfl rfl rfl)) ?_
              refine E0 (wanted_yesB rfl rfl rfl h216) rfl (y_move (v := Value.int _ _) rfl rfl) ?_
              refine E3 (wanted_yesB rfl rfl rfl h216) (c_call rfl rfl rfl Try.func36 (by kernel_rfl) rfl (in_any T i w213) rfl ?_)
              rintro vE w217 ⟨eE, hrE, hc218⟩
              have hEE : Sl w217 vE (inT T i 24).length (nums (inT T i 24)) := hrE.sl hc218 (fun x hx => hx) 0
              have hs219 := (hs215.call_new hc218 (row_keys hrE)).dropL (M := eE) (fun x hx => Nat.le_trans hs215.size (hrE.new x hx))
              refine ⟨fun _ => hs219, ?_⟩
              refine E3 (wanted_yesB rfl rfl rfl h216) (c_call rfl rfl rfl Try.func39 (by kernel_rfl) rfl (isSorted_any (inT T i 24) vE (by have := inT_len T i 24; omega) (fun j k a b => inT_sortedN T i 24 j k a b) w217 hEE) rfl ?_)
              rintro _ w220 ⟨rfl, hc221⟩
              have hs222 := hs219.call0 hc221
              refine ⟨fun _ => hs222, ?_⟩
              refine E0 (wanted_yesB rfl rfl rfl h216) rfl (y_not rfl rfl) ?_
              refine E0 (wanted_none rfl) rfl (y_pickF rfl rfl h216 rfl) ?_
              refine Enil ?_
              refine Wkn (t := 174) (b0 := false) rfl (by rfl) (fun h223 => ?_)
              refine W_condF rfl h223 ?_
              refine W_skip ?_
              refine W_region ?_
              refine L0 (wanted_none rfl) rfl (y_move (v := Value.int _ _) rfl rfl) ?_
              refine L0 (wanted_none rfl) rfl (y_add64 rfl rfl rfl (by omega)) ?_
              refine L0 (wanted_none rfl) rfl (y_assign (v := Value.int _ _) rfl rfl) ?_
              refine Lnil ?_
              exact ⟨i + 1, by first | omega | (dsimp only; done) | (dsimp only; omega), _, A_c (iv_eq (by first | omega | (dsimp only; done) | (dsimp only; omega))) (A_c rfl (A_c rfl (rfl))), by omega, hs222⟩
            · have h209' := h209
              first | replace h209' := of_decide_eq_false h209' | replace h209' := bnF' h209' | skip
              refine W_condF rfl h209 ?_
              refine W_exit ?_
              refine W_seq ?_
              refine W_region ?_
              refine L0 (wanted_none rfl) rfl (y_assign (v := Value.bool _) rfl rfl) ?_
              refine Lnil ?_
              refine W_ret ?_
              refine fin1 (fn := Try.f7) rfl rfl ?_
              exact ⟨rfl, forget hs208 (by intro x hx; simp only [List.mem_cons, List.not_mem_nil, or_false] at hx; rcases hx with rfl | rfl <;> assumption)⟩
end Go.Proofs.Ytkolfgmpmnelmaa
