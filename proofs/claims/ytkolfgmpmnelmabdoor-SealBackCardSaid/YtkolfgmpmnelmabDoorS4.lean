/-
  Walks: stream.Block.
-/
import Derived.Test.YtkolfgmpmnelmabDoorS2
namespace Go.Proofs.YtkolfgmpmnelmabDoor
open Go Vx Go.Proofs
set_option linter.unusedVariables false
set_option maxHeartbeats 400000
set_option maxRecDepth 4000

theorem word_wd (l : List UInt8) (h : 4 ≤ l.length) (w : World) :
    C Tryd.prog 149 ⟨[str l]⟩ w fun v w' => v = uv (wd l) ∧ St w [] w' := word_any l h w
theorem quarter_col (cs : List UInt32) (bb i : Nat) (hl : cs.length = 16) (hi : i < 4) (w : World) (hw : w.heap[bb]? = some (.cells (us cs) 206 (0, 0))) :
    C Tryd.prog 150 ⟨[pv bb 0, iv i, iv (4 + i), iv (8 + i), iv (12 + i)]⟩ w fun v w' => v = .tuple #[] ∧ St w [(bb, .cells (us (colR cs i)) 206 (0, 0))] w' :=
  quarter_any cs bb i (4 + i) (8 + i) (12 + i) hl (by omega) (by omega) (by omega) (by omega) w hw
theorem quarter_dia (cs : List UInt32) (bb i : Nat) (hl : cs.length = 16) (hi : i < 4) (w : World) (hw : w.heap[bb]? = some (.cells (us cs) 206 (0, 0))) :
    C Tryd.prog 150 ⟨[pv bb 0, iv i, iv (4 + (i + 1) % 4), iv (8 + (i + 2) % 4), iv (12 + (i + 3) % 4)]⟩ w fun v w' => v = .tuple #[] ∧ St w [(bb, .cells (us (diaR cs i)) 206 (0, 0))] w' := by
  have h := quarter_any cs bb i (4 + (i + 1) % 4) (8 + (i + 2) % 4) (12 + (i + 3) % 4) hl (by omega) (by omega) (by omega) (by omega) w hw
  simpa [diaR] using h

theorem block_err (key nonce : List UInt8) (n : Int) (h : ¬ (key.length = 32 ∧ nonce.length = 12 ∧ 0 ≤ n ∧ n < 4294967296)) (w : World) :
    C Tryd.prog 127 ⟨[str key, iv n, str nonce]⟩ w fun v w' => v = .tuple #[str [], .iface 35 (iv 1)] ∧ St w [] w' := by
  refine C_enter (n := 123) Tryd.func127 rfl rfl rfl (fun w1 hs1 => ?_)
  refine W_seq ?_
  refine W_region ?_
  refine L0 (wanted_none rfl) rfl (y_assign (v := Value.string ⟨⟨_⟩⟩) rfl rfl) ?_
  refine L0 (wanted_none rfl) rfl (y_assign (v := Value.nilIface) rfl rfl) ?_
  refine Lnil ?_
  refine W_seq ?_
  refine W_seq ?_
  refine W_region ?_
  refine L0 (wanted_none rfl) rfl (y_move (v := Value.string ⟨⟨_⟩⟩) rfl rfl) ?_
  refine L0 (wanted_none rfl) rfl (y_len rfl Tryd.underlying9 rfl) ?_
  refine L0 (wanted_none rfl) rfl (y_ne rfl rfl rfl) ?_
  refine L0 (wanted_none rfl) rfl (y_move (v := Value.bool _) rfl rfl) ?_
  refine Lsp (t := 20) rfl (fun h2 => ?_) (fun h2 => ?_)
  · have h2' := h2
    first | replace h2' := of_decide_eq_true h2' | replace h2' := bnT' h2' | skip
    refine Lno (wanted_noB rfl rfl rfl h2 (by decide)) rfl ?_
    refine Lno (wanted_noB rfl rfl rfl h2 (by decide)) rfl ?_
    refine Lno (wanted_noB rfl rfl rfl h2 (by decide)) rfl ?_
    refine L0 (wanted_none rfl) rfl (y_pickT rfl rfl h2 rfl) ?_
    refine L0 (wanted_none rfl) rfl (y_move (v := Value.bool _) rfl rfl) ?_
    refine Lno (wanted_noB rfl rfl rfl rfl (by decide)) rfl ?_
    refine Lno (wanted_noB rfl rfl rfl rfl (by decide)) rfl ?_
    refine L0 (wanted_none rfl) rfl (y_pickT rfl rfl (rfl : true = true) rfl) ?_
    refine L0 (wanted_none rfl) rfl (y_move (v := Value.bool _) rfl rfl) ?_
    refine Lno (wanted_noB rfl rfl rfl rfl (by decide)) rfl ?_
    refine Lno (wanted_noB rfl rfl rfl rfl (by decide)) rfl ?_
    refine L0 (wanted_none rfl) rfl (y_pickT rfl rfl (rfl : true = true) rfl) ?_
    refine Lnil ?_
    refine W_condT rfl rfl ?_
    refine W_seq ?_
    refine W_region ?_
    refine L0 (wanted_none rfl) rfl (y_mkif rfl Tryd.underlying35 rfl rfl) ?_
    refine L0 (wanted_none rfl) rfl (y_assign (v := Value.string ⟨⟨_⟩⟩) rfl rfl) ?_
    refine L0 (wanted_none rfl) rfl (y_assign (v := Value.iface _ _) rfl rfl) ?_
    refine Lnil ?_
    refine W_ret ?_
    refine fin2 (fn := Tryd.f127) rfl rfl rfl ?_
    exact ⟨rfl, hs1⟩
  · have h2' := h2
    first | replace h2' := of_decide_eq_false h2' | replace h2' := bnF' h2' | skip
    refine L0 (wanted_yesB rfl rfl rfl h2) rfl (y_move (v := Value.string ⟨⟨_⟩⟩) rfl rfl) ?_
    refine L0 (wanted_yesB rfl rfl rfl h2) rfl (y_len rfl Tryd.underlying9 rfl) ?_
    refine L0 (wanted_yesB rfl rfl rfl h2) rfl (y_ne rfl rfl rfl) ?_
    refine L0 (wanted_none rfl) rfl (y_pickF rfl rfl h2 rfl) ?_
    refine L0 (wanted_none rfl) rfl (y_move (v := Value.bool _) rfl rfl) ?_
    refine Lsp (t := 25) rfl (fun h3 => ?_) (fun h3 => ?_)
    · have h3' := h3
      first | replace h3' := of_decide_eq_true h3' | replace h3' := bnT' h3' | skip
      refine Lno (wanted_noB rfl rfl rfl h3 (by decide)) rfl ?_
      refine Lno (wanted_noB rfl rfl rfl h3 (by decide)) rfl ?_
      refine L0 (wanted_none rfl) rfl (y_pickT rfl rfl h3 rfl) ?_
      refine L0 (wanted_none rfl) rfl (y_move (v := Value.bool _) rfl rfl) ?_
      refine Lno (wanted_noB rfl rfl rfl rfl (by decide)) rfl ?_
      refine Lno (wanted_noB rfl rfl rfl rfl (by decide)) rfl ?_
      refine L0 (wanted_none rfl) rfl (y_pickT rfl rfl (rfl : true = true) rfl) ?_
      refine Lnil ?_
      refine W_condT rfl rfl ?_
      refine W_seq ?_
      refine W_region ?_
      refine L0 (wanted_none rfl) rfl (y_mkif rfl Tryd.underlying35 rfl rfl) ?_
      refine L0 (wanted_none rfl) rfl (y_assign (v := Value.string ⟨⟨_⟩⟩) rfl rfl) ?_
      refine L0 (wanted_none rfl) rfl (y_assign (v := Value.iface _ _) rfl rfl) ?_
      refine Lnil ?_
      refine W_ret ?_
      refine fin2 (fn := Tryd.f127) rfl rfl rfl ?_
      exact ⟨rfl, hs1⟩
    · have h3' := h3
      first | replace h3' := of_decide_eq_false h3' | replace h3' := bnF' h3' | skip
      refine L0 (wanted_yesB rfl rfl rfl h3) rfl (y_move (v := Value.int _ _) rfl rfl) ?_
      refine L0 (wanted_yesB rfl rfl rfl h3) rfl (y_lt rfl rfl rfl) ?_
      refine L0 (wanted_none rfl) rfl (y_pickF rfl rfl h3 rfl) ?_
      refine L0 (wanted_none rfl) rfl (y_move (v := Value.bool _) rfl rfl) ?_
      refine Lsp (t := 29) rfl (fun h4 => ?_) (fun h4 => ?_)
      · have h4' := h4
        first | replace h4' := of_decide_eq_true h4' | replace h4' := bnT' h4' | skip
        refine Lno (wanted_noB rfl rfl rfl h4 (by decide)) rfl ?_
        refine Lno (wanted_noB rfl rfl rfl h4 (by decide)) rfl ?_
        refine L0 (wanted_none rfl) rfl (y_pickT rfl rfl h4 rfl) ?_
        refine Lnil ?_
        refine W_condT rfl rfl ?_
        refine W_seq ?_
        refine W_region ?_
        refine L0 (wanted_none rfl) rfl (y_mkif rfl Tryd.underlying35 rfl rfl) ?_
        refine L0 (wanted_none rfl) rfl (y_assign (v := Value.string ⟨⟨_⟩⟩) rfl rfl) ?_
        refine L0 (wanted_none rfl) rfl (y_assign (v := Value.iface _ _) rfl rfl) ?_
        refine Lnil ?_
        refine W_ret ?_
        refine fin2 (fn := Tryd.f127) rfl rfl rfl ?_
        exact ⟨rfl, hs1⟩
      · have h4' := h4
        first | replace h4' := of_decide_eq_false h4' | replace h4' := bnF' h4' | skip
        refine L0 (wanted_yesB rfl rfl rfl h4) rfl (y_move (v := Value.int _ _) rfl rfl) ?_
        refine L0 (wanted_yesB rfl rfl rfl h4) rfl (y_ge rfl rfl rfl) ?_
        refine L0 (wanted_none rfl) rfl (y_pickF rfl rfl h4 rfl) ?_
        refine Lnil ?_
        refine Wkn (t := 32) (b0 := true) rfl (by exact decide_eq_true (by omega)) (fun h5 => ?_)
        refine W_condT rfl h5 ?_
        refine W_seq ?_
        refine W_region ?_
        refine L0 (wanted_none rfl) rfl (y_mkif rfl Tryd.underlying35 rfl rfl) ?_
        refine L0 (wanted_none rfl) rfl (y_assign (v := Value.string ⟨⟨_⟩⟩) rfl rfl) ?_
        refine L0 (wanted_none rfl) rfl (y_assign (v := Value.iface _ _) rfl rfl) ?_
        refine Lnil ?_
        refine W_ret ?_
        refine fin2 (fn := Tryd.f127) rfl rfl rfl ?_
        exact ⟨rfl, hs1⟩
theorem block_any (key nonce : List UInt8) (n : Int) (hk : key.length = 32) (hn : nonce.length = 12) (h0 : 0 ≤ n) (h1 : n < 4294967296) (w : World) :
    C Tryd.prog 127 ⟨[str key, iv n, str nonce]⟩ w fun v w' => v = .tuple #[str (blockOf key n nonce), .nilIface] ∧ St w [] w' := by
  refine C_enter (n := 123) Tryd.func127 rfl rfl rfl (fun w1 hs1 => ?_)
  refine W_seq ?_
  refine W_region ?_
  refine L0 (wanted_none rfl) rfl (y_assign (v := Value.string ⟨⟨_⟩⟩) rfl rfl) ?_
  refine L0 (wanted_none rfl) rfl (y_assign (v := Value.nilIface) rfl rfl) ?_
  refine Lnil ?_
  refine W_seq ?_
  refine W_seq ?_
  refine W_region ?_
  refine L0 (wanted_none rfl) rfl (y_move (v := Value.string ⟨⟨_⟩⟩) rfl rfl) ?_
  refine L0 (wanted_none rfl) rfl (y_len rfl Tryd.underlying9 rfl) ?_
  refine L0 (wanted_none rfl) rfl (y_ne rfl rfl rfl) ?_
  refine L0 (wanted_none rfl) rfl (y_move (v := Value.bool _) rfl rfl) ?_
  refine Lkn (t := 20) (b0 := false) rfl (by first | exact decide_eq_false (by omega) | exact bnF (by omega) | (simp; omega)) (fun h2 => ?_)
  refine L0 (wanted_yesB rfl rfl rfl h2) rfl (y_move (v := Value.string ⟨⟨_⟩⟩) rfl rfl) ?_
  refine L0 (wanted_yesB rfl rfl rfl h2) rfl (y_len rfl Tryd.underlying9 rfl) ?_
  refine L0 (wanted_yesB rfl rfl rfl h2) rfl (y_ne rfl rfl rfl) ?_
  refine L0 (wanted_none rfl) rfl (y_pickF rfl rfl h2 rfl) ?_
  refine L0 (wanted_none rfl) rfl (y_move (v := Value.bool _) rfl rfl) ?_
  refine Lkn (t := 25) (b0 := false) rfl (by first | exact decide_eq_false (by omega) | exact bnF (by omega) | (simp; omega)) (fun h3 => ?_)
  refine L0 (wanted_yesB rfl rfl rfl h3) rfl (y_move (v := Value.int _ _) rfl rfl) ?_
  refine L0 (wanted_yesB rfl rfl rfl h3) rfl (y_lt rfl rfl rfl) ?_
  refine L0 (wanted_none rfl) rfl (y_pickF rfl rfl h3 rfl) ?_
  refine L0 (wanted_none rfl) rfl (y_move (v := Value.bool _) rfl rfl) ?_
  refine Lkn (t := 29) (b0 := false) rfl (by first | exact decide_eq_false (by omega) | exact bnF (by omega) | (simp; omega)) (fun h4 => ?_)
  refine L0 (wanted_yesB rfl rfl rfl h4) rfl (y_move (v := Value.int _ _) rfl rfl) ?_
  refine L0 (wanted_yesB rfl rfl rfl h4) rfl (y_ge rfl rfl rfl) ?_
  refine L0 (wanted_none rfl) rfl (y_pickF rfl rfl h4 rfl) ?_
  refine Lnil ?_
  refine Wkn (t := 32) (b0 := false) rfl (by first | exact decide_eq_false (by omega) | exact bnF (by omega) | (simp; omega)) (fun h5 => ?_)
  refine W_condF rfl h5 ?_
  refine W_skip ?_
  refine W_seq ?_
  refine W_region ?_
  refine L0 (wanted_none rfl) rfl (y_buildA (cells := (us consts).toList) rfl Tryd.underlying206 zr206 sz123 (by kernel_rfl)) ?_
  refine Lc (wanted_none rfl) (c_alloc hs1 rfl rfl zr206 (fun b6 w7 hbb6 hs8 => ?_))
  refine Lc (wanted_none rfl) (c_storeN (i := 0) hs8 rfl rfl rfl rfl sz206 (by rfl) (by intro v hv; simp only [us, consts, List.map_cons, List.map_nil, List.mem_cons, List.not_mem_nil, or_false] at hv; rcases hv with h | h | h | h | h | h | h | h | h | h | h | h | h | h | h | h <;> (rw [h]; rfl)) rfl (by decide) (Fz.zero _) (fun w9 hs10 => ?_))
  change St w [(_, .cells (us consts) 206 (0, 0))] _ at hs10
  refine Lnil ?_
  refine W_seq ?_
  refine W_seq ?_
  have lc : consts.length = 16 := rfl
  refine W_region ?_
  refine L0 (wanted_none rfl) rfl (y_move (v := Value.int _ _) rfl rfl) ?_
  refine Lnil ?_
  refine W_block ?_
  refine W_loop (G := Nat) (fun g aL wl => ∃ e, aL = A 123 ((35, iv g) :: (8, pv b6 0) :: (0, str key) :: (1, iv n) :: (2, str nonce) :: e) ∧ g ≤ 8 ∧ St w [(b6, .cells (us (fillW key 4 consts g)) 206 (0, 0))] wl) (fun g => 8 - g) (0) ?_ ?_
  · exact ⟨_, A_pins _ _ [35, 8, 0, 1, 2], by omega, hs10⟩
  rintro g _ w11 ⟨ehs12, rfl, hg, hs12⟩
  refine W_seq ?_
  refine W_region ?_
  refine L0 (wanted_none rfl) rfl (y_lt rfl rfl rfl) ?_
  refine Lnil ?_
  refine W_seq ?_
  refine Wsp (t := 36) rfl (fun h13 => ?_) (fun h13 => ?_)
  · have h13' := h13
    first | replace h13' := of_decide_eq_true h13' | replace h13' := bnT' h13' | skip
    refine W_condT rfl h13 ?_
    refine W_skip ?_
    refine W_seq ?_
    refine W_block ?_
    refine W_seq ?_
    refine W_region ?_
    refine L0 (wanted_none rfl) rfl (y_move (v := Value.int _ _) rfl rfl) ?_
    refine L0 (wanted_none rfl) rfl (y_assign (v := Value.int _ _) rfl rfl) ?_
    refine Lnil ?_
    refine W_region ?_
    refine L0 (wanted_none rfl) rfl (y_move (v := Value.int _ _) rfl rfl) ?_
    refine L0 (wanted_none rfl) rfl (y_add64 rfl rfl rfl (by omega)) ?_
    refine L0 (wanted_none rfl) rfl (y_move (v := Value.string ⟨⟨_⟩⟩) rfl rfl) ?_
    refine L0 (wanted_none rfl) rfl (y_move (v := Value.int _ _) rfl rfl) ?_
    refine L0 (wanted_none rfl) rfl (y_mul64 rfl rfl rfl (by omega)) ?_
    refine L0 (wanted_none rfl) rfl (y_sslice_lo rfl Tryd.underlying9 rfl rfl (by omega)) ?_
    refine Lc (wanted_none rfl) (c_call rfl rfl rfl Tryd.func149 (by kernel_rfl) rfl (word_wd _ (by simp only [List.length_drop]; omega) w11) rfl ?_)
    rintro _ w14 ⟨rfl, hc15⟩
    have hs16 := hs12.call0 hc15
    refine L0 (wanted_none rfl) rfl (y_indexArr rfl Tryd.underlying206 sz123 rfl rfl (by omega) (by omega)) ?_
    refine Lc (wanted_none rfl) (c_store (i := 0) (v := uv _) hs16 rfl rfl rfl rfl sz123 rfl rfl (by rw [us_size, fillW_len]; simp only [consts, List.length_cons, List.length_nil]; omega) (Fz.zero _) (fun w17 hs18 => ?_))
    rw [List.set_cons_zero, show (4 + (g : Int)).toNat = ((4 + g : Nat) : Int).toNat from by omega, us_set] at hs18
    refine Lnil ?_
    refine W_region ?_
    refine L0 (wanted_none rfl) rfl (y_add64 rfl rfl rfl (by omega)) ?_
    refine L0 (wanted_none rfl) rfl (y_move (v := Value.int _ _) rfl rfl) ?_
    refine Lnil ?_
    exact ⟨g + 1, by (try dsimp only); omega, _, A_c (iv_eq (by (try dsimp only); omega)) (A_c rfl (A_c rfl (A_c rfl (A_c rfl (rfl))))), by omega, hs18⟩
  · have h13' := h13
    first | replace h13' := of_decide_eq_false h13' | replace h13' := bnF' h13' | skip
    refine W_condF rfl h13 ?_
    refine W_exit ?_
    refine W_seq ?_
    obtain rfl : g = 8 := by omega
    refine W_region ?_
    refine L0 (wanted_none rfl) rfl (y_move (v := Value.int _ _) rfl rfl) ?_
    refine L0 (wanted_none rfl) rfl (y_cito32 rfl Tryd.underlying3 Tryd.underlying123 rfl) ?_
    refine L0 (wanted_none rfl) rfl (y_indexArr rfl Tryd.underlying206 sz123 rfl rfl (by omega) (by omega)) ?_
    refine Lc (wanted_none rfl) (c_store (i := 0) (v := uv _) hs12 rfl rfl rfl rfl sz123 rfl rfl (by rw [us_size, fillW_len]; decide) (Fz.zero _) (fun w19 hs20 => ?_))
    rw [List.set_cons_zero, show (12 : Int).toNat = ((12 : Nat) : Int).toNat from rfl, us_set] at hs20
    obtain ⟨S1, eS1⟩ : ∃ x, x = (fillW key 4 consts 8).set 12 (u32of n) := ⟨_, rfl⟩
    rw [← eS1] at hs20
    have lS1 : S1.length = 16 := by rw [eS1, List.length_set, fillW_len]; rfl
    refine Lnil ?_
    refine W_seq ?_
    refine W_seq ?_
    refine W_region ?_
    refine L0 (wanted_none rfl) rfl (y_move (v := Value.int _ _) rfl rfl) ?_
    refine Lnil ?_
    refine W_block ?_
    refine W_loop (G := Nat) (fun g aL wl => ∃ e, aL = A 123 ((50, iv g) :: (8, pv b6 0) :: (0, str key) :: (1, iv n) :: (2, str nonce) :: e) ∧ g ≤ 3 ∧ St w [(b6, .cells (us (fillW nonce 13 S1 g)) 206 (0, 0))] wl) (fun g => 3 - g) (0) ?_ ?_
    · exact ⟨_, A_pins _ _ [50, 8, 0, 1, 2], by omega, hs20⟩
    rintro g _ w21 ⟨ehs22, rfl, hg, hs22⟩
    refine W_seq ?_
    refine W_region ?_
    refine L0 (wanted_none rfl) rfl (y_lt rfl rfl rfl) ?_
    refine Lnil ?_
    refine W_seq ?_
    refine Wsp (t := 51) rfl (fun h23 => ?_) (fun h23 => ?_)
    · have h23' := h23
      first | replace h23' := of_decide_eq_true h23' | replace h23' := bnT' h23' | skip
      refine W_condT rfl h23 ?_
      refine W_skip ?_
      refine W_seq ?_
      refine W_block ?_
      refine W_seq ?_
      refine W_region ?_
      refine L0 (wanted_none rfl) rfl (y_move (v := Value.int _ _) rfl rfl) ?_
      refine L0 (wanted_none rfl) rfl (y_assign (v := Value.int _ _) rfl rfl) ?_
      refine Lnil ?_
      refine W_region ?_
      refine L0 (wanted_none rfl) rfl (y_move (v := Value.int _ _) rfl rfl) ?_
      refine L0 (wanted_none rfl) rfl (y_add64 rfl rfl rfl (by omega)) ?_
      refine L0 (wanted_none rfl) rfl (y_move (v := Value.string ⟨⟨_⟩⟩) rfl rfl) ?_
      refine L0 (wanted_none rfl) rfl (y_move (v := Value.int _ _) rfl rfl) ?_
      refine L0 (wanted_none rfl) rfl (y_mul64 rfl rfl rfl (by omega)) ?_
      refine L0 (wanted_none rfl) rfl (y_sslice_lo rfl Tryd.underlying9 rfl rfl (by omega)) ?_
      refine Lc (wanted_none rfl) (c_call rfl rfl rfl Tryd.func149 (by kernel_rfl) rfl (word_wd _ (by simp only [List.length_drop]; omega) w21) rfl ?_)
      rintro _ w24 ⟨rfl, hc25⟩
      have hs26 := hs22.call0 hc25
      refine L0 (wanted_none rfl) rfl (y_indexArr rfl Tryd.underlying206 sz123 rfl rfl (by omega) (by omega)) ?_
      refine Lc (wanted_none rfl) (c_store (i := 0) (v := uv _) hs26 rfl rfl rfl rfl sz123 rfl rfl (by rw [us_size, fillW_len]; omega) (Fz.zero _) (fun w27 hs28 => ?_))
      rw [List.set_cons_zero, show (13 + (g : Int)).toNat = ((13 + g : Nat) : Int).toNat from by omega, us_set] at hs28
      refine Lnil ?_
      refine W_region ?_
      refine L0 (wanted_none rfl) rfl (y_add64 rfl rfl rfl (by omega)) ?_
      refine L0 (wanted_none rfl) rfl (y_move (v := Value.int _ _) rfl rfl) ?_
      refine Lnil ?_
      exact ⟨g + 1, by (try dsimp only); omega, _, A_c (iv_eq (by (try dsimp only); omega)) (A_c rfl (A_c rfl (A_c rfl (A_c rfl (rfl))))), by omega, hs28⟩
    · have h23' := h23
      first | replace h23' := of_decide_eq_false h23' | replace h23' := bnF' h23' | skip
      refine W_condF rfl h23 ?_
      refine W_exit ?_
      refine W_seq ?_
      obtain rfl : g = 3 := by omega
      obtain ⟨S2, eS2⟩ : ∃ x, x = fillW nonce 13 S1 3 := ⟨_, rfl⟩
      rw [← eS2] at hs22
      have lS2 : S2.length = 16 := by rw [eS2, fillW_len, lS1]
      refine W_region ?_
      refine L1 (wanted_none rfl) rfl hs22 (y_loadN 0 rfl Tryd.underlying206 rfl sz206 rfl rfl (by first | decide | (simp; done) | (simp; omega))) ?_
      refine Lc (wanted_none rfl) (c_alloc hs22 rfl rfl zr206 (fun b29 w30 hbb29 hs31 => ?_))
      refine Lc (wanted_none rfl) (c_storeN (i := 0) hs31 rfl rfl rfl rfl sz206 (by rw [show (us S2).toList = S2.map uv from rfl, List.drop_zero, List.take_of_length_le (by simp [lS2]), List.length_map, lS2]) (by exact us_one S2) rfl (by decide) (Fz.zero _) (fun w32 hs33 => ?_))
      rw [List.set_cons_zero, us_copy lS2 (by rfl)] at hs33
      refine Lnil ?_
      refine W_seq ?_
      refine W_seq ?_
      refine W_region ?_
      refine L0 (wanted_none rfl) rfl (y_move (v := Value.int _ _) rfl rfl) ?_
      refine Lnil ?_
      refine W_block ?_
      refine W_loop (G := Nat) (fun r aL wl => ∃ e, aL = A 123 ((63, iv r) :: (11, pv b29 0) :: (8, pv b6 0) :: e) ∧ r ≤ 10 ∧ St w [(b29, .cells (us (iter dbl S2 r)) 206 (0, 0)), (b6, .cells (us S2) 206 (0, 0))] wl) (fun g => 10 - g) (0) ?_ ?_
      · exact ⟨_, A_pins _ _ [63, 11, 8], by omega, hs33⟩
      rintro r _ w34 ⟨ehs35, rfl, hr, hs35⟩
      obtain ⟨T, eT⟩ : ∃ x, x = iter dbl S2 r := ⟨_, rfl⟩
      rw [← eT] at hs35
      have lT : T.length = 16 := by rw [eT, iter_len _ dbl_len, lS2]
      refine W_seq ?_
      refine W_region ?_
      refine L0 (wanted_none rfl) rfl (y_lt rfl rfl rfl) ?_
      refine Lnil ?_
      refine W_seq ?_
      refine Wsp (t := 64) rfl (fun h36 => ?_) (fun h36 => ?_)
      · have h36' := h36
        first | replace h36' := of_decide_eq_true h36' | replace h36' := bnT' h36' | skip
        refine W_condT rfl h36 ?_
        refine W_skip ?_
        refine W_seq ?_
        refine W_block ?_
        refine W_seq ?_
        refine W_seq ?_
        refine W_region ?_
        refine L0 (wanted_none rfl) rfl (y_move (v := Value.int _ _) rfl rfl) ?_
        refine Lnil ?_
        refine W_block ?_
        refine W_loop (G := Nat) (fun g aL wl => ∃ e, aL = A 123 ((65, iv g) :: (63, iv r) :: (11, pv b29 0) :: (8, pv b6 0) :: e) ∧ g ≤ 4 ∧ St w [(b29, .cells (us (iter colR T g)) 206 (0, 0)), (b6, .cells (us S2) 206 (0, 0))] wl) (fun g => 4 - g) (0) ?_ ?_
        · exact ⟨_, A_pins _ _ [65, 63, 11, 8], by omega, hs35⟩
        rintro g _ w37 ⟨ehs38, rfl, hg, hs38⟩
        refine W_seq ?_
        refine W_region ?_
        refine L0 (wanted_none rfl) rfl (y_lt rfl rfl rfl) ?_
        refine Lnil ?_
        refine W_seq ?_
        refine Wsp (t := 66) rfl (fun h39 => ?_) (fun h39 => ?_)
        · have h39' := h39
          first | replace h39' := of_decide_eq_true h39' | replace h39' := bnT' h39' | skip
          refine W_condT rfl h39 ?_
          refine W_skip ?_
          refine W_seq ?_
          refine W_block ?_
          refine W_seq ?_
          refine W_region ?_
          refine L0 (wanted_none rfl) rfl (y_move (v := Value.int _ _) rfl rfl) ?_
          refine L0 (wanted_none rfl) rfl (y_assign (v := Value.int _ _) rfl rfl) ?_
          refine Lnil ?_
          refine W_region ?_
          refine L0 (wanted_none rfl) rfl (y_move (v := Value.int _ _) rfl rfl) ?_
          refine L0 (wanted_none rfl) rfl (y_move (v := Value.int _ _) rfl rfl) ?_
          refine L0 (wanted_none rfl) rfl (y_add64 rfl rfl rfl (by omega)) ?_
          refine L0 (wanted_none rfl) rfl (y_move (v := Value.int _ _) rfl rfl) ?_
          refine L0 (wanted_none rfl) rfl (y_add64 rfl rfl rfl (by omega)) ?_
          refine L0 (wanted_none rfl) rfl (y_move (v := Value.int _ _) rfl rfl) ?_
          refine L0 (wanted_none rfl) rfl (y_add64 rfl rfl rfl (by omega)) ?_
          refine Lc (wanted_none rfl) (c_call rfl rfl rfl Tryd.func150 (by kernel_rfl) rfl (quarter_col _ b29 g (by rw [iter_len _ colR_len]; exact lT) (by omega) w37 (hs38.get 0 rfl)) rfl ?_)
          rintro _ w40 ⟨rfl, hc41⟩
          have hs42 := hs38.call1 0 rfl hc41
          refine Lnil ?_
          refine W_region ?_
          refine L0 (wanted_none rfl) rfl (y_add64 rfl rfl rfl (by omega)) ?_
          refine L0 (wanted_none rfl) rfl (y_move (v := Value.int _ _) rfl rfl) ?_
          refine Lnil ?_
          exact ⟨g + 1, by (try dsimp only); omega, _, A_c (iv_eq (by (try dsimp only); omega)) (A_c rfl (A_c rfl (A_c rfl (rfl)))), by omega, hs42⟩
        · have h39' := h39
          first | replace h39' := of_decide_eq_false h39' | replace h39' := bnF' h39' | skip
          refine W_condF rfl h39 ?_
          refine W_exit ?_
          refine W_seq ?_
          obtain rfl : g = 4 := by omega
          obtain ⟨T1, eT1⟩ : ∃ x, x = iter colR T 4 := ⟨_, rfl⟩
          rw [← eT1] at hs38
          have lC : T1.length = 16 := by rw [eT1, iter_len _ colR_len, lT]
          refine W_region ?_
          refine L0 (wanted_none rfl) rfl (y_move (v := Value.int _ _) rfl rfl) ?_
          refine Lnil ?_
          refine W_block ?_
          refine W_loop (G := Nat) (fun g aL wl => ∃ e, aL = A 123 ((77, iv g) :: (63, iv r) :: (11, pv b29 0) :: (8, pv b6 0) :: e) ∧ g ≤ 4 ∧ St w [(b29, .cells (us (iter diaR T1 g)) 206 (0, 0)), (b6, .cells (us S2) 206 (0, 0))] wl) (fun g => 4 - g) (0) ?_ ?_
          · exact ⟨_, A_pins _ _ [77, 63, 11, 8], by omega, hs38⟩
          rintro g _ w43 ⟨ehs44, rfl, hg, hs44⟩
          refine W_seq ?_
          refine W_region ?_
          refine L0 (wanted_none rfl) rfl (y_lt rfl rfl rfl) ?_
          refine Lnil ?_
          refine W_seq ?_
          refine Wsp (t := 78) rfl (fun h45 => ?_) (fun h45 => ?_)
          · have h45' := h45
            first | replace h45' := of_decide_eq_true h45' | replace h45' := bnT' h45' | skip
            refine W_condT rfl h45 ?_
            refine W_skip ?_
            refine W_seq ?_
            refine W_block ?_
            refine W_seq ?_
            refine W_region ?_
            refine L0 (wanted_none rfl) rfl (y_move (v := Value.int _ _) rfl rfl) ?_
            refine L0 (wanted_none rfl) rfl (y_assign (v := Value.int _ _) rfl rfl) ?_
            refine Lnil ?_
            refine W_region ?_
            refine L0 (wanted_none rfl) rfl (y_move (v := Value.int _ _) rfl rfl) ?_
            refine L0 (wanted_none rfl) rfl (y_move (v := Value.int _ _) rfl rfl) ?_
            refine L0 (wanted_none rfl) rfl (y_add64 rfl rfl rfl (by omega)) ?_
            refine L0 (wanted_none rfl) rfl (y_rem64 rfl rfl rfl (by omega) (by omega)) ?_
            refine L0 (wanted_none rfl) rfl (y_add64 rfl rfl rfl (by omega)) ?_
            refine L0 (wanted_none rfl) rfl (y_move (v := Value.int _ _) rfl rfl) ?_
            refine L0 (wanted_none rfl) rfl (y_add64 rfl rfl rfl (by omega)) ?_
            refine L0 (wanted_none rfl) rfl (y_rem64 rfl rfl rfl (by omega) (by omega)) ?_
            refine L0 (wanted_none rfl) rfl (y_add64 rfl rfl rfl (by omega)) ?_
            refine L0 (wanted_none rfl) rfl (y_move (v := Value.int _ _) rfl rfl) ?_
            refine L0 (wanted_none rfl) rfl (y_add64 rfl rfl rfl (by omega)) ?_
            refine L0 (wanted_none rfl) rfl (y_rem64 rfl rfl rfl (by omega) (by omega)) ?_
            refine L0 (wanted_none rfl) rfl (y_add64 rfl rfl rfl (by omega)) ?_
            refine Lc (wanted_none rfl) (c_call rfl rfl rfl Tryd.func150 (by kernel_rfl) rfl (quarter_dia _ b29 g (by rw [iter_len _ diaR_len]; exact lC) (by omega) w43 (hs44.get 0 rfl)) rfl ?_)
            rintro _ w46 ⟨rfl, hc47⟩
            have hs48 := hs44.call1 0 rfl hc47
            refine Lnil ?_
            refine W_region ?_
            refine L0 (wanted_none rfl) rfl (y_add64 rfl rfl rfl (by omega)) ?_
            refine L0 (wanted_none rfl) rfl (y_move (v := Value.int _ _) rfl rfl) ?_
            refine Lnil ?_
            exact ⟨g + 1, by (try dsimp only); omega, _, A_c (iv_eq (by (try dsimp only); omega)) (A_c rfl (A_c rfl (A_c rfl (rfl)))), by omega, hs48⟩
          · have h45' := h45
            first | replace h45' := of_decide_eq_false h45' | replace h45' := bnF' h45' | skip
            refine W_condF rfl h45 ?_
            refine W_exit ?_
            refine W_region ?_
            refine L0 (wanted_none rfl) rfl (y_add64 rfl rfl rfl (by omega)) ?_
            refine L0 (wanted_none rfl) rfl (y_move (v := Value.int _ _) rfl rfl) ?_
            refine Lnil ?_
            obtain rfl : g = 4 := by omega
            rw [eT1, eT, dbl_succ] at hs44
            exact ⟨r + 1, by (try dsimp only); omega, _, A_c (iv_eq (by (try dsimp only); omega)) (A_c rfl (A_c rfl (rfl))), by omega, hs44⟩
      · have h36' := h36
        first | replace h36' := of_decide_eq_false h36' | replace h36' := bnF' h36' | skip
        refine W_condF rfl h36 ?_
        refine W_exit ?_
        refine W_seq ?_
        obtain rfl : r = 10 := by omega
        obtain ⟨T2, eT2⟩ : ∃ x, x = rounds S2 := ⟨_, rfl⟩
        rw [eT] at hs35
        change St w [(_, .cells (us (rounds S2)) 206 (0, 0)), _] _ at hs35
        rw [← eT2] at hs35
        have lT2 : T2.length = 16 := by rw [eT2, rounds_len, lS2]
        refine W_region ?_
        refine L0 (wanted_none rfl) rfl (y_assign (v := Value.slice _ _ _) rfl rfl) ?_
        refine Lnil ?_
        refine W_seq ?_
        refine W_seq ?_
        refine W_region ?_
        refine L1 (wanted_none rfl) rfl hs35 (y_loadN 0 rfl Tryd.underlying206 rfl sz206 rfl rfl (by first | decide | (simp; done) | (simp; omega))) ?_
        refine L0 (wanted_none rfl) rfl (y_move (v := Value.int _ _) rfl rfl) ?_
        refine Lnil ?_
        refine W_block ?_
        refine W_loop (G := Nat × Value × Blocks) (fun g aL wl => ∃ e, aL = A 123 ((97, iv g.1) :: (14, g.2.1) :: (96, .agg ⟨((us T2).toList.drop 0).take 16⟩) :: (8, pv b6 0) :: e) ∧ g.1 ≤ 16 ∧ Row w.heap.size 5 1 g.2.1 (4 * g.1) (bs (outW T2 S2 g.1)) g.2.2 ∧ St w ([(b29, .cells (us T2) 206 (0, 0)), (b6, .cells (us S2) 206 (0, 0))] ++ g.2.2) wl) (fun g => 16 - g.1) ((0, .slice none 0 0, [])) ?_ ?_
        · exact ⟨_, A_pins _ _ [97, 14, 96, 8], Nat.zero_le _, Row.nil _ _ _, hs35⟩
        rintro g _ w49 ⟨ehs50, rfl, hi, hrow, hs50⟩
        obtain ⟨i, v, ent⟩ := g
        dsimp only at *
        refine W_seq ?_
        refine W_region ?_
        refine L0 (wanted_none rfl) rfl (y_lt rfl rfl rfl) ?_
        refine Lnil ?_
        refine W_seq ?_
        refine Wsp (t := 98) rfl (fun h51 => ?_) (fun h51 => ?_)
        · have h51' := h51
          first | replace h51' := of_decide_eq_true h51' | replace h51' := bnT' h51' | skip
          refine W_condT rfl h51 ?_
          refine W_skip ?_
          refine W_seq ?_
          refine W_block ?_
          refine W_seq ?_
          refine W_region ?_
          refine L0 (wanted_none rfl) rfl (y_move (v := Value.int _ _) rfl rfl) ?_
          refine L0 (wanted_none rfl) rfl (y_iarr rfl Tryd.underlying206 Tryd.underlying123 rfl sz123 rfl rfl (by omega) (by omega) (us_agg lT2 (by omega))) ?_
          refine L0 (wanted_none rfl) rfl (y_assign (v := Value.int _ _) rfl rfl) ?_
          refine L0 (wanted_none rfl) rfl (y_assign (v := Value.int _ _) rfl rfl) ?_
          refine Lnil ?_
          refine W_seq ?_
          refine W_region ?_
          refine L0 (wanted_none rfl) rfl (y_move (v := Value.int _ _) rfl rfl) ?_
          refine L0 (wanted_none rfl) rfl (y_move (v := Value.int _ _) rfl rfl) ?_
          refine L0 (wanted_none rfl) rfl (y_indexArr rfl Tryd.underlying206 sz123 rfl rfl (by omega) (by omega)) ?_
          refine L1 (wanted_none rfl) rfl hs50 (y_load 1 rfl Tryd.underlying123 rfl rfl rfl (us_get (by omega))) ?_
          refine L0 (wanted_none rfl) rfl (y_add32 rfl rfl rfl) ?_
          refine L0 (wanted_none rfl) rfl (y_assign (v := Value.int _ _) rfl rfl) ?_
          refine Lnil ?_
          refine W_region ?_
          refine L0 (wanted_none rfl) rfl (y_move (v := v) rfl rfl) ?_
          refine L0 (wanted_none rfl) rfl (y_move (v := Value.int _ _) rfl rfl) ?_
          refine L0 (wanted_none rfl) rfl (y_c32to8 rfl Tryd.underlying123 Tryd.underlying5 rfl) ?_
          refine L0 (wanted_none rfl) rfl (y_move (v := Value.int _ _) rfl rfl) ?_
          refine L0 (wanted_none rfl) rfl (y_shr32 rfl rfl rfl (s := 8) (by first | rfl | omega) (by omega)) ?_
          refine L0 (wanted_none rfl) rfl (y_c32to8 rfl Tryd.underlying123 Tryd.underlying5 rfl) ?_
          refine L0 (wanted_none rfl) rfl (y_move (v := Value.int _ _) rfl rfl) ?_
          refine L0 (wanted_none rfl) rfl (y_shr32 rfl rfl rfl (s := 16) (by first | rfl | omega) (by omega)) ?_
          refine L0 (wanted_none rfl) rfl (y_c32to8 rfl Tryd.underlying123 Tryd.underlying5 rfl) ?_
          refine L0 (wanted_none rfl) rfl (y_move (v := Value.int _ _) rfl rfl) ?_
          refine L0 (wanted_none rfl) rfl (y_shr32 rfl rfl rfl (s := 24) (by first | rfl | omega) (by omega)) ?_
          refine L0 (wanted_none rfl) rfl (y_c32to8 rfl Tryd.underlying123 Tryd.underlying5 rfl) ?_
          refine Lc (wanted_none rfl) (c_bs4 (v0 := bv _) (v1 := bv _) (v2 := bv _) (v3 := bv _) hs50 rfl rfl Tryd.underlying113 sz5 zr5 rfl rfl rfl rfl rfl rfl rfl rfl (fun b52 w53 hbb52 hs54 => ?_))
          refine Lc (wanted_none rfl) (c_append (L0 := [(b29, .cells (us T2) 206 (0, 0)), (b6, .cells (us S2) 206 (0, 0))]) (ent := ent) hs54 hbb52 rfl rfl Tryd.underlying113 sz5 zr5 by5 rfl (by decide) rfl hrow rfl (by decide) rfl (by simp [Value.oneCell']) (by omega) (by omega) (fun v55 ent56 w57 hrow' hs58 => ?_))
          have hrow := hrow'
          refine L0 (wanted_none rfl) rfl (y_assign (v := v55) rfl rfl) ?_
          refine Lnil ?_
          refine W_region ?_
          refine L0 (wanted_none rfl) rfl (y_add64 rfl rfl rfl (by omega)) ?_
          refine L0 (wanted_none rfl) rfl (y_move (v := Value.int _ _) rfl rfl) ?_
          refine Lnil ?_
          have hrow2 : Row w.heap.size 5 1 v55 (4 * (i + 1)) (bs (outW T2 S2 (i + 1))) ent56 := by
            have h := hrow
            simp only [outW, bs, List.map_append]
            exact h
          exact ⟨(i + 1, _, _), by (try dsimp only); omega, _, A_c (iv_eq (by (try dsimp only); omega)) (A_c rfl (A_c rfl (A_c rfl (rfl)))), by omega, hrow2, hs58⟩
        · have h51' := h51
          first | replace h51' := of_decide_eq_false h51' | replace h51' := bnF' h51' | skip
          refine W_condF rfl h51 ?_
          refine W_exit ?_
          refine W_seq ?_
          refine W_region ?_
          refine L0 (wanted_none rfl) rfl (y_move (v := v) rfl rfl) ?_
          refine L1 (wanted_none rfl) rfl hs50 (y_bstr rfl Tryd.underlying113 Tryd.underlying5 Tryd.underlying9 rfl hrow (fun x hx => by first | exact hx | exact List.mem_cons.2 (.inl (List.mem_singleton.1 hx)) | simp [hx])) ?_
          refine L0 (wanted_none rfl) rfl (y_assign (v := Value.string ⟨⟨_⟩⟩) rfl rfl) ?_
          refine L0 (wanted_none rfl) rfl (y_assign (v := Value.nilIface) rfl rfl) ?_
          refine Lnil ?_
          refine W_ret ?_
          refine fin2 (fn := Tryd.f127) rfl rfl rfl ?_
          obtain rfl : i = 16 := by omega
          refine ⟨?_, hs50.drops ?_⟩
          · rw [eT2, eS2, eS1]; rfl
          · intro x hx
            simp only [List.cons_append, List.nil_append, List.mem_cons] at hx
            rcases hx with rfl | rfl | hx
            · exact .inl hbb29
            · exact .inl hbb6
            · exact .inl (hrow.new x hx)
end Go.Proofs.YtkolfgmpmnelmabDoor
