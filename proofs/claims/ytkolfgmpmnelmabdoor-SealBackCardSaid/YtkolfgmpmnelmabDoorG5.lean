/-
  Walks: keep.flip, keep.SealBack.
-/
import Derived.Test.YtkolfgmpmnelmabDoorG3
import Derived.Test.YtkolfgmpmnelmabDoorE2
namespace Go.Proofs.YtkolfgmpmnelmabDoor
open Go Vx Go.Proofs
set_option linter.unusedVariables false
set_option maxRecDepth 4000
set_option maxHeartbeats 400000

theorem sealed_tag {key : List UInt8} {cell : Int} {s : List UInt8} (h : Sealed key cell s) (hl : s.length ≤ 109) : tagOf key cell (s.drop 16) = s.take 16 := by
  have h2 := h.2
  rw [List.take_of_length_le (by rw [List.length_drop]; omega)] at h2; exact h2
theorem y_quo64x {P : Program} {n : Nat} {e : Env} {o : Oper} {x y : Operand} {ty ty' : TypeId} {a b z : Int} (ho : o.op = .binOp .quo ty x y ty') (hx : opv n e x = iv a) (hy : opv n e y = iv b) (h0 : 0 ≤ a) (h1 : 0 < b) (h2 : a ≤ 9223372036854775807) (hz : a / b = z) : Y0 P n e o (iv z) := hz ▸ y_quo64 ho hx hy h0 h1 h2
theorem y_rem64x {P : Program} {n : Nat} {e : Env} {o : Oper} {x y : Operand} {ty ty' : TypeId} {a b z : Int} (ho : o.op = .binOp .rem ty x y ty') (hx : opv n e x = iv a) (hy : opv n e y = iv b) (h0 : 0 ≤ a) (h1 : 0 < b) (hz : a % b = z) : Y0 P n e o (iv z) := hz ▸ y_rem64 ho hx hy h0 h1
theorem flip_any (s : List UInt8) (bit : Int) (h0 : s ≠ []) (hs : s.length ≤ 1000) (w : World) : C Tryd.prog 23 ⟨[str s, iv bit]⟩ w fun v w' => (∃ t, v = str t ∧ t.length = s.length) ∧ St w [] w' := by
  have hl0 : 0 < s.length := by rcases s with _ | _; exact absurd rfl h0; simp
  have hp := pickOf_range (a := bit) (n := 8 * (s.length : Int)) (by omega)
  obtain ⟨q, r, hq, hr, hqr⟩ : ∃ q r : Nat, q < s.length ∧ r < 8 ∧ pickOf bit (8 * (s.length : Int)) = 8 * q + r := ⟨(pickOf bit (8 * (s.length : Int)) / 8).toNat, (pickOf bit (8 * (s.length : Int)) % 8).toNat, by omega, by omega, by omega⟩
  have e1 : pickOf bit (8 * (s.length : Int)) / 8 = (q : Int) := by omega
  have e2 : pickOf bit (8 * (s.length : Int)) % 8 = (r : Int) := by omega
  refine C_enter (n := 28) Tryd.func23 rfl rfl rfl (fun w1 hs1 => ?_)
  refine W_seq ?_
  refine W_region ?_
  refine L0 (wanted_none rfl) rfl (y_assign (v := Value.string ⟨⟨_⟩⟩) rfl rfl) ?_
  refine Lnil ?_
  refine W_seq ?_
  refine W_seq ?_
  refine W_region ?_
  refine L0 (wanted_none rfl) rfl (y_move (v := Value.string ⟨⟨_⟩⟩) rfl rfl) ?_
  refine L0 (wanted_none rfl) rfl (y_seq rfl rfl rfl) ?_
  refine Lnil ?_
  refine Wkn (t := 7) (b0 := false) rfl (by exact decide_eq_false h0) (fun h2 => ?_)
  refine W_condF rfl h2 ?_
  refine W_skip ?_
  refine W_seq ?_
  refine W_region ?_
  refine L0 (wanted_none rfl) rfl (y_move (v := Value.string ⟨⟨_⟩⟩) rfl rfl) ?_
  refine Lc (wanted_none rfl) (c_tobytes hs1 rfl rfl Tryd.underlying9 Tryd.underlying113 Tryd.underlying5 rfl (by omega) (fun b3 capb3 curb3 fzb3 w4 hbb3 hs5 => ?_))
  have hB0 := hbb3
  refine L0 (wanted_none rfl) rfl (y_assign (v := Value.slice _ _ _) rfl rfl) ?_
  refine Lnil ?_
  refine W_seq ?_
  refine W_region ?_
  refine L0 (wanted_none rfl) rfl (y_move (v := Value.int _ _) rfl rfl) ?_
  refine L0 (wanted_none rfl) rfl (y_move (v := Value.slice _ _ _) rfl rfl) ?_
  refine L0 (wanted_none rfl) rfl (y_slen rfl Tryd.underlying113 rfl) ?_
  refine L0 (wanted_none rfl) rfl (y_mul64 rfl rfl rfl (by omega)) ?_
  refine Lc (wanted_none rfl) (c_call rfl rfl rfl Tryd.func14 (by kernel_rfl) rfl (pick_any bit _ (by omega) (by omega) w4) rfl ?_)
  rintro _ w6 ⟨rfl, hc7⟩
  have hs8 := hs5.call0 hc7
  refine L0 (wanted_none rfl) rfl (y_assign (v := Value.int _ _) rfl rfl) ?_
  refine Lnil ?_
  refine W_seq ?_
  rw [hqr]
  refine W_drawSt [(0, 0), (0, 1), (0, 5), (0, 2), (0, 6), (0, 3), (0, 7), (1, 4), (0, 8), (0, 9), (2, 10)] hs8 mixed (by kernel_rfl) (fun w9 hs10 => ?_)
  refine E0 (wanted_none rfl) rfl (y_move (v := Value.slice _ _ _) rfl rfl) ?_
  refine E0 (wanted_none rfl) rfl (y_move (v := Value.int _ _) rfl rfl) ?_
  refine E0 (wanted_none rfl) rfl (y_move (v := Value.int _ _) rfl rfl) ?_
  refine E0 (wanted_none rfl) rfl (y_quo64x rfl rfl rfl (by omega) (by omega) (by omega) (z := (q : Int)) (by omega)) ?_
  refine E0 (wanted_none rfl) rfl (y_rem64x rfl rfl rfl (by omega) (by omega) (z := (r : Int)) (by omega)) ?_
  refine E0 (wanted_none rfl) rfl (y_indexSl rfl Tryd.underlying113 sz5 rfl rfl (by omega) (by omega)) ?_
  refine E0 (wanted_none rfl) rfl (y_shl8 (c := 1) rfl rfl rfl (s := r) (by first | rfl | omega) (by omega)) ?_
  refine E1 hs10 (wanted_none rfl) rfl (y_load 0 rfl Tryd.underlying5 rfl rfl rfl (Bytes.get' hB0 hq)) ?_
  refine E0 (wanted_none rfl) rfl (y_xor8 rfl rfl rfl) ?_
  refine E0 (wanted_none rfl) rfl (y_indexSl rfl Tryd.underlying113 sz5 rfl rfl (by omega) (by omega)) ?_
  refine E2 (wanted_none rfl) (c_store (i := 0) (v := bv _) hs10 rfl rfl rfl rfl sz5 rfl rfl (by rw [hB0.size]; have := hB0.room; simp; omega) (hB0.fz) (fun w11 hs12 => ?_))
  have hB2 := hB0.set q (s.getD q 0 ^^^ (1 <<< UInt8.ofNat r))
  rw [List.set_cons_zero, ix] at hs12
  have hrow2 := hB2.row (E := 5)
  rw [List.length_set] at hrow2
  refine Enil ?_
  refine W_seq ?_
  refine W_region ?_
  refine L0 (wanted_none rfl) rfl (y_move (v := Value.slice _ _ _) rfl rfl) ?_
  refine L1 (wanted_none rfl) rfl hs12 (y_bstr rfl Tryd.underlying113 Tryd.underlying5 Tryd.underlying9 rfl hrow2 (fun x hx => by first | exact hx | exact List.mem_cons.2 (.inl (List.mem_singleton.1 hx)) | simp [hx])) ?_
  refine L0 (wanted_none rfl) rfl (y_assign (v := Value.string ⟨⟨_⟩⟩) rfl rfl) ?_
  refine Lnil ?_
  refine W_ret ?_
  refine fin1 (fn := Tryd.f23) rfl rfl ?_
  exact ⟨⟨_, rfl, by simp⟩, hs12.drop (.inl hbb3.new)⟩
theorem sback_long (key text : List UInt8) (cell what bit : Int) (h : 40 < key.length ∨ 120 < text.length) (w : World) :
    C Tryd.prog 4 ⟨[str key, iv cell, str text, iv what, iv bit]⟩ w fun v w' => v = .bool true ∧ St w [] w' := by
  refine C_enter (n := 128) Tryd.func4 rfl rfl rfl (fun w1 hs1 => ?_)
  refine W_seq ?_
  refine W_region ?_
  refine L0 (wanted_none rfl) rfl (y_assign (v := Value.bool _) rfl rfl) ?_
  refine Lnil ?_
  refine W_seq ?_
  refine W_seq ?_
  refine W_region ?_
  refine L0 (wanted_none rfl) rfl (y_move (v := Value.string ⟨⟨_⟩⟩) rfl rfl) ?_
  refine L0 (wanted_none rfl) rfl (y_len rfl Tryd.underlying9 rfl) ?_
  refine L0 (wanted_none rfl) rfl (y_gt rfl rfl rfl) ?_
  refine L0 (wanted_none rfl) rfl (y_move (v := Value.bool _) rfl rfl) ?_
  refine Lsp (t := 18) rfl (fun h2 => ?_) (fun h2 => ?_)
  · have h2' := h2
    first | replace h2' := of_decide_eq_true h2' | replace h2' := bnT' h2' | skip
    refine Lno (wanted_noB rfl rfl rfl h2 (by decide)) rfl ?_
    refine Lno (wanted_noB rfl rfl rfl h2 (by decide)) rfl ?_
    refine Lno (wanted_noB rfl rfl rfl h2 (by decide)) rfl ?_
    refine L0 (wanted_none rfl) rfl (y_pickT rfl rfl h2 rfl) ?_
    refine Lnil ?_
    refine W_condT rfl rfl ?_
    refine W_seq ?_
    refine W_region ?_
    refine L0 (wanted_none rfl) rfl (y_assign (v := Value.bool _) rfl rfl) ?_
    refine Lnil ?_
    refine W_ret ?_
    refine fin1 (fn := Tryd.f4) rfl rfl ?_
    exact ⟨rfl, hs1⟩
  · have h2' := h2
    first | replace h2' := of_decide_eq_false h2' | replace h2' := bnF' h2' | skip
    refine L0 (wanted_yesB rfl rfl rfl h2) rfl (y_move (v := Value.string ⟨⟨_⟩⟩) rfl rfl) ?_
    refine L0 (wanted_yesB rfl rfl rfl h2) rfl (y_len rfl Tryd.underlying9 rfl) ?_
    refine L0 (wanted_yesB rfl rfl rfl h2) rfl (y_gt rfl rfl rfl) ?_
    refine L0 (wanted_none rfl) rfl (y_pickF rfl rfl h2 rfl) ?_
    refine Lnil ?_
    refine Wkn (t := 22) (b0 := true) rfl (by first | exact decide_eq_true (by omega) | exact bnT (by omega) | (simp; omega)) (fun h3 => ?_)
    refine W_condT rfl h3 ?_
    refine W_seq ?_
    refine W_region ?_
    refine L0 (wanted_none rfl) rfl (y_assign (v := Value.bool _) rfl rfl) ?_
    refine Lnil ?_
    refine W_ret ?_
    refine fin1 (fn := Tryd.f4) rfl rfl ?_
    exact ⟨rfl, hs1⟩
theorem sback_bad (key text : List UInt8) (cell what bit : Int) (l1 : key.length ≤ 40) (l2 : text.length ≤ 120) (h : ¬ okSeal key cell text) (w : World) (hr : RoundsAt w) :
    C Tryd.prog 4 ⟨[str key, iv cell, str text, iv what, iv bit]⟩ w fun v w' => v = .bool true ∧ St w [] w' := by
  unfold okSeal at h
  refine C_enter (n := 128) Tryd.func4 rfl rfl rfl (fun w1 hs1 => ?_)
  refine W_seq ?_
  refine W_region ?_
  refine L0 (wanted_none rfl) rfl (y_assign (v := Value.bool _) rfl rfl) ?_
  refine Lnil ?_
  refine W_seq ?_
  refine W_seq ?_
  refine W_region ?_
  refine L0 (wanted_none rfl) rfl (y_move (v := Value.string ⟨⟨_⟩⟩) rfl rfl) ?_
  refine L0 (wanted_none rfl) rfl (y_len rfl Tryd.underlying9 rfl) ?_
  refine L0 (wanted_none rfl) rfl (y_gt rfl rfl rfl) ?_
  refine L0 (wanted_none rfl) rfl (y_move (v := Value.bool _) rfl rfl) ?_
  refine Lkn (t := 18) (b0 := false) rfl (by first | exact decide_eq_false (by omega) | exact bnF (by omega) | (simp; omega)) (fun h2 => ?_)
  refine L0 (wanted_yesB rfl rfl rfl h2) rfl (y_move (v := Value.string ⟨⟨_⟩⟩) rfl rfl) ?_
  refine L0 (wanted_yesB rfl rfl rfl h2) rfl (y_len rfl Tryd.underlying9 rfl) ?_
  refine L0 (wanted_yesB rfl rfl rfl h2) rfl (y_gt rfl rfl rfl) ?_
  refine L0 (wanted_none rfl) rfl (y_pickF rfl rfl h2 rfl) ?_
  refine Lnil ?_
  refine Wkn (t := 22) (b0 := false) rfl (by first | exact decide_eq_false (by omega) | exact bnF (by omega) | (simp; omega)) (fun h3 => ?_)
  refine W_condF rfl h3 ?_
  refine W_skip ?_
  refine W_seq ?_
  refine W_seq ?_
  refine W_region ?_
  refine Lc (wanted_none rfl) (c_call rfl rfl rfl Tryd.func20 (by kernel_rfl) rfl (sealed_any w1 (hr.keep hs1 (by simp [keys]))) rfl ?_)
  rintro _ w4 ⟨rfl, hc5⟩
  have hs6 := hs1.call0 hc5
  refine L0 (wanted_none rfl) rfl (y_not rfl rfl) ?_
  refine Lnil ?_
  refine Wkn (t := 24) (b0 := false) rfl (by rfl) (fun h7 => ?_)
  refine W_condF rfl h7 ?_
  refine W_skip ?_
  refine W_seq ?_
  refine W_region ?_
  refine L0 (wanted_none rfl) rfl (y_move (v := Value.string ⟨⟨_⟩⟩) rfl rfl) ?_
  refine L0 (wanted_none rfl) rfl (y_move (v := Value.int _ _) rfl rfl) ?_
  refine L0 (wanted_none rfl) rfl (y_move (v := Value.string ⟨⟨_⟩⟩) rfl rfl) ?_
  refine Lc (wanted_none rfl) (c_call rfl rfl rfl Tryd.func21 (by kernel_rfl) rfl (seal_bad key text cell h w4) rfl ?_)
  rintro _ w8 ⟨⟨k1, rfl⟩, hc9⟩
  have hs10 := hs6.call0 hc9
  refine L0 (wanted_none rfl) rfl (y_move (v := Value.tuple ⟨_⟩) rfl rfl) ?_
  refine L0 (wanted_none rfl) rfl (y_extract rfl rfl rfl) ?_
  refine L0 (wanted_none rfl) rfl (y_extract rfl rfl rfl) ?_
  refine L0 (wanted_none rfl) rfl (y_assign (v := Value.string ⟨⟨_⟩⟩) rfl rfl) ?_
  refine L0 (wanted_none rfl) rfl (y_assign (v := _) rfl rfl) ?_
  refine Lnil ?_
  refine W_seq ?_
  refine W_seq ?_
  refine W_region ?_
  refine L0 (wanted_none rfl) rfl (y_move (v := _) rfl rfl) ?_
  refine L0 (wanted_none rfl) rfl (y_neNil rfl Tryd.underlying32 rfl) ?_
  refine Lnil ?_
  refine W_condT rfl rfl ?_
  refine W_seq ?_
  refine W_region ?_
  refine L0 (wanted_none rfl) rfl (y_move (v := Value.string ⟨⟨_⟩⟩) rfl rfl) ?_
  refine L0 (wanted_none rfl) rfl (y_len rfl Tryd.underlying9 rfl) ?_
  refine L0 (wanted_none rfl) rfl (y_ne rfl rfl rfl) ?_
  refine L0 (wanted_none rfl) rfl (y_move (v := Value.bool _) rfl rfl) ?_
  refine Lsp (t := 37) rfl (fun h11 => ?_) (fun h11 => ?_)
  · have h11' := h11
    first | replace h11' := of_decide_eq_true h11' | replace h11' := bnT' h11' | skip
    refine Lno (wanted_noB rfl rfl rfl h11 (by decide)) rfl ?_
    refine Lno (wanted_noB rfl rfl rfl h11 (by decide)) rfl ?_
    refine L0 (wanted_none rfl) rfl (y_pickT rfl rfl h11 rfl) ?_
    refine L0 (wanted_none rfl) rfl (y_move (v := Value.bool _) rfl rfl) ?_
    refine Lno (wanted_noB rfl rfl rfl rfl (by decide)) rfl ?_
    refine Lno (wanted_noB rfl rfl rfl rfl (by decide)) rfl ?_
    refine L0 (wanted_none rfl) rfl (y_pickT rfl rfl (rfl : true = true) rfl) ?_
    refine L0 (wanted_none rfl) rfl (y_move (v := Value.bool _) rfl rfl) ?_
    refine Lno (wanted_noB rfl rfl rfl rfl (by decide)) rfl ?_
    refine Lno (wanted_noB rfl rfl rfl rfl (by decide)) rfl ?_
    refine Lno (wanted_noB rfl rfl rfl rfl (by decide)) rfl ?_
    refine L0 (wanted_none rfl) rfl (y_pickT rfl rfl (rfl : true = true) rfl) ?_
    refine L0 (wanted_none rfl) rfl (y_assign (v := Value.bool _) rfl rfl) ?_
    refine Lnil ?_
    refine W_ret ?_
    refine fin1 (fn := Tryd.f4) rfl rfl ?_
    first | exact ⟨rfl, hs10⟩ | exact ⟨congrArg Value.bool (decide_eq_true (by omega)), hs10⟩
  · have h11' := h11
    first | replace h11' := of_decide_eq_false h11' | replace h11' := bnF' h11' | skip
    refine L0 (wanted_yesB rfl rfl rfl h11) rfl (y_move (v := Value.int _ _) rfl rfl) ?_
    refine L0 (wanted_yesB rfl rfl rfl h11) rfl (y_lt rfl rfl rfl) ?_
    refine L0 (wanted_none rfl) rfl (y_pickF rfl rfl h11 rfl) ?_
    refine L0 (wanted_none rfl) rfl (y_move (v := Value.bool _) rfl rfl) ?_
    refine Lsp (t := 41) rfl (fun h12 => ?_) (fun h12 => ?_)
    · have h12' := h12
      first | replace h12' := of_decide_eq_true h12' | replace h12' := bnT' h12' | skip
      refine Lno (wanted_noB rfl rfl rfl h12 (by decide)) rfl ?_
      refine Lno (wanted_noB rfl rfl rfl h12 (by decide)) rfl ?_
      refine L0 (wanted_none rfl) rfl (y_pickT rfl rfl h12 rfl) ?_
      refine L0 (wanted_none rfl) rfl (y_move (v := Value.bool _) rfl rfl) ?_
      refine Lno (wanted_noB rfl rfl rfl rfl (by decide)) rfl ?_
      refine Lno (wanted_noB rfl rfl rfl rfl (by decide)) rfl ?_
      refine Lno (wanted_noB rfl rfl rfl rfl (by decide)) rfl ?_
      refine L0 (wanted_none rfl) rfl (y_pickT rfl rfl (rfl : true = true) rfl) ?_
      refine L0 (wanted_none rfl) rfl (y_assign (v := Value.bool _) rfl rfl) ?_
      refine Lnil ?_
      refine W_ret ?_
      refine fin1 (fn := Tryd.f4) rfl rfl ?_
      first | exact ⟨rfl, hs10⟩ | exact ⟨congrArg Value.bool (decide_eq_true (by omega)), hs10⟩
    · have h12' := h12
      first | replace h12' := of_decide_eq_false h12' | replace h12' := bnF' h12' | skip
      refine L0 (wanted_yesB rfl rfl rfl h12) rfl (y_move (v := Value.int _ _) rfl rfl) ?_
      refine L0 (wanted_yesB rfl rfl rfl h12) rfl (y_ge rfl rfl rfl) ?_
      refine L0 (wanted_none rfl) rfl (y_pickF rfl rfl h12 rfl) ?_
      refine L0 (wanted_none rfl) rfl (y_move (v := Value.bool _) rfl rfl) ?_
      refine Lsp (t := 45) rfl (fun h13 => ?_) (fun h13 => ?_)
      · have h13' := h13
        first | replace h13' := of_decide_eq_true h13' | replace h13' := bnT' h13' | skip
        refine Lno (wanted_noB rfl rfl rfl h13 (by decide)) rfl ?_
        refine Lno (wanted_noB rfl rfl rfl h13 (by decide)) rfl ?_
        refine Lno (wanted_noB rfl rfl rfl h13 (by decide)) rfl ?_
        refine L0 (wanted_none rfl) rfl (y_pickT rfl rfl h13 rfl) ?_
        refine L0 (wanted_none rfl) rfl (y_assign (v := Value.bool _) rfl rfl) ?_
        refine Lnil ?_
        refine W_ret ?_
        refine fin1 (fn := Tryd.f4) rfl rfl ?_
        first | exact ⟨rfl, hs10⟩ | exact ⟨congrArg Value.bool (decide_eq_true (by omega)), hs10⟩
      · have h13' := h13
        first | replace h13' := of_decide_eq_false h13' | replace h13' := bnF' h13' | skip
        refine L0 (wanted_yesB rfl rfl rfl h13) rfl (y_move (v := Value.string ⟨⟨_⟩⟩) rfl rfl) ?_
        refine L0 (wanted_yesB rfl rfl rfl h13) rfl (y_len rfl Tryd.underlying9 rfl) ?_
        refine L0 (wanted_yesB rfl rfl rfl h13) rfl (y_gt rfl rfl rfl) ?_
        refine L0 (wanted_none rfl) rfl (y_pickF rfl rfl h13 rfl) ?_
        refine L0 (wanted_none rfl) rfl (y_assign (v := Value.bool _) rfl rfl) ?_
        refine Lnil ?_
        refine W_ret ?_
        refine fin1 (fn := Tryd.f4) rfl rfl ?_
        first | exact ⟨rfl, hs10⟩ | exact ⟨congrArg Value.bool (decide_eq_true (by omega)), hs10⟩
theorem sback_0 (key text : List UInt8) (cell what bit : Int) (l1 : key.length ≤ 40) (l2 : text.length ≤ 120) (v : okSeal key cell text) (hw : pickOf what 4 = 0) (w : World) (hr : RoundsAt w) (he : ErrAt w) :
    C Tryd.prog 4 ⟨[str key, iv cell, str text, iv what, iv bit]⟩ w fun v w' => v = .bool true ∧ St w [] w' := by
  have lso := sealOf_len (key := key) (cell := cell) v.2
  have hto := seal_text key cell text (List.replicate 19 0) v.2
  have hk := v.1.1
  have hrl := hr.1
  have hc0 := v.1.2.1
  have hc1 := v.1.2.2
  have hne : sealOf key cell text ≠ [] := fun h => by rw [h] at lso; exact absurd lso (by decide)
  have hke : key ≠ [] := fun h => by rw [h] at hk; exact absurd hk (by decide)
  have hp23 := pickOf_range (a := bit) (n := 23) (by omega)
  have hpl := pickOf_range (a := bit) (n := ((sealOf key cell text).length : Int)) (by omega)
  refine C_enter (n := 128) Tryd.func4 rfl rfl rfl (fun w1 hs1 => ?_)
  refine W_seq ?_
  refine W_region ?_
  refine L0 (wanted_none rfl) rfl (y_assign (v := Value.bool _) rfl rfl) ?_
  refine Lnil ?_
  refine W_seq ?_
  refine W_seq ?_
  refine W_region ?_
  refine L0 (wanted_none rfl) rfl (y_move (v := Value.string ⟨⟨_⟩⟩) rfl rfl) ?_
  refine L0 (wanted_none rfl) rfl (y_len rfl Tryd.underlying9 rfl) ?_
  refine L0 (wanted_none rfl) rfl (y_gt rfl rfl rfl) ?_
  refine L0 (wanted_none rfl) rfl (y_move (v := Value.bool _) rfl rfl) ?_
  refine Lkn (t := 18) (b0 := false) rfl (by first | exact decide_eq_false (by omega) | exact bnF (by omega) | (simp; omega)) (fun h2 => ?_)
  refine L0 (wanted_yesB rfl rfl rfl h2) rfl (y_move (v := Value.string ⟨⟨_⟩⟩) rfl rfl) ?_
  refine L0 (wanted_yesB rfl rfl rfl h2) rfl (y_len rfl Tryd.underlying9 rfl) ?_
  refine L0 (wanted_yesB rfl rfl rfl h2) rfl (y_gt rfl rfl rfl) ?_
  refine L0 (wanted_none rfl) rfl (y_pickF rfl rfl h2 rfl) ?_
  refine Lnil ?_
  refine Wkn (t := 22) (b0 := false) rfl (by first | exact decide_eq_false (by omega) | exact bnF (by omega) | (simp; omega)) (fun h3 => ?_)
  refine W_condF rfl h3 ?_
  refine W_skip ?_
  refine W_seq ?_
  refine W_seq ?_
  refine W_region ?_
  refine Lc (wanted_none rfl) (c_call rfl rfl rfl Tryd.func20 (by kernel_rfl) rfl (sealed_any w1 (hr.keep hs1 (by simp [keys]))) rfl ?_)
  rintro _ w4 ⟨rfl, hc5⟩
  have hs6 := hs1.call0 hc5
  refine L0 (wanted_none rfl) rfl (y_not rfl rfl) ?_
  refine Lnil ?_
  refine Wkn (t := 24) (b0 := false) rfl (by rfl) (fun h7 => ?_)
  refine W_condF rfl h7 ?_
  refine W_skip ?_
  refine W_seq ?_
  refine W_region ?_
  refine L0 (wanted_none rfl) rfl (y_move (v := Value.string ⟨⟨_⟩⟩) rfl rfl) ?_
  refine L0 (wanted_none rfl) rfl (y_move (v := Value.int _ _) rfl rfl) ?_
  refine L0 (wanted_none rfl) rfl (y_move (v := Value.string ⟨⟨_⟩⟩) rfl rfl) ?_
  refine Lc (wanted_none rfl) (c_call rfl rfl rfl Tryd.func21 (by kernel_rfl) rfl (seal_any key text cell v.1.1 v.1.2.1 v.1.2.2 v.2 w4 (hr.keep hs6 (by simp [keys]))) rfl ?_)
  rintro _ w8 ⟨rfl, hc9⟩
  have hs10 := hs6.call0 hc9
  refine L0 (wanted_none rfl) rfl (y_move (v := Value.tuple ⟨_⟩) rfl rfl) ?_
  refine L0 (wanted_none rfl) rfl (y_extract rfl rfl rfl) ?_
  refine L0 (wanted_none rfl) rfl (y_extract rfl rfl rfl) ?_
  refine L0 (wanted_none rfl) rfl (y_assign (v := Value.string ⟨⟨_⟩⟩) rfl rfl) ?_
  refine L0 (wanted_none rfl) rfl (y_assign (v := _) rfl rfl) ?_
  refine Lnil ?_
  refine W_seq ?_
  refine W_seq ?_
  refine W_region ?_
  refine L0 (wanted_none rfl) rfl (y_move (v := _) rfl rfl) ?_
  refine L0 (wanted_none rfl) rfl (y_neNilNil rfl Tryd.underlying32 rfl) ?_
  refine Lnil ?_
  refine W_condF rfl rfl ?_
  refine W_skip ?_
  refine W_seq ?_
  refine W_region ?_
  refine L0 (wanted_none rfl) rfl (y_move (v := Value.string ⟨⟨_⟩⟩) rfl rfl) ?_
  refine L0 (wanted_none rfl) rfl (y_move (v := Value.int _ _) rfl rfl) ?_
  refine L0 (wanted_none rfl) rfl (y_move (v := Value.string ⟨⟨_⟩⟩) rfl rfl) ?_
  refine L0 (wanted_none rfl) rfl (y_move (v := Value.string ⟨⟨_⟩⟩) rfl rfl) ?_
  refine L0 (wanted_none rfl) rfl (y_len rfl Tryd.underlying9 rfl) ?_
  refine L0 (wanted_none rfl) rfl (y_sub64 rfl rfl rfl (by omega)) ?_
  refine Lc (wanted_none rfl) (c_call rfl rfl rfl Tryd.func17 (by kernel_rfl) rfl (repeat_int 0 _ 19 (by omega) (by decide) w8) rfl ?_)
  rintro _ w11 ⟨rfl, hc12⟩
  have hs13 := hs10.call0 hc12
  refine L0 (wanted_none rfl) rfl (y_scat rfl rfl rfl (by rw [List.length_replicate]; omega)) ?_
  refine Lc (wanted_none rfl) (c_call rfl rfl rfl Tryd.func22 (by kernel_rfl) rfl (open_any key (sealOf key cell text ++ List.replicate 19 0) cell v.1.1 (by rw [List.length_append, List.length_replicate]; omega) (seal_sealed key cell text _ v.2) w11 (hr.keep hs13 (by simp [keys]))) rfl ?_)
  rintro _ w14 ⟨rfl, hc15⟩
  have hs16 := hs13.call0 hc15
  refine L0 (wanted_none rfl) rfl (y_move (v := Value.tuple ⟨_⟩) rfl rfl) ?_
  refine L0 (wanted_none rfl) rfl (y_extract rfl rfl rfl) ?_
  refine L0 (wanted_none rfl) rfl (y_extract rfl rfl rfl) ?_
  refine L0 (wanted_none rfl) rfl (y_extract rfl rfl rfl) ?_
  refine L0 (wanted_none rfl) rfl (y_assign (v := Value.string ⟨⟨_⟩⟩) rfl rfl) ?_
  refine L0 (wanted_none rfl) rfl (y_assign (v := Value.string ⟨⟨_⟩⟩) rfl rfl) ?_
  refine L0 (wanted_none rfl) rfl (y_assign (v := _) rfl rfl) ?_
  refine Lnil ?_
  refine W_seq ?_
  refine W_seq ?_
  refine W_region ?_
  refine L0 (wanted_none rfl) rfl (y_move (v := _) rfl rfl) ?_
  refine L0 (wanted_none rfl) rfl (y_neNilNil rfl Tryd.underlying32 rfl) ?_
  refine L0 (wanted_none rfl) rfl (y_move (v := Value.bool _) rfl rfl) ?_
  refine L0 (wanted_yesB rfl rfl rfl rfl) rfl (y_move (v := Value.string ⟨⟨_⟩⟩) rfl rfl) ?_
  refine L0 (wanted_yesB rfl rfl rfl rfl) rfl (y_move (v := Value.string ⟨⟨_⟩⟩) rfl rfl) ?_
  refine L0 (wanted_yesB rfl rfl rfl rfl) rfl (y_sne rfl rfl rfl) ?_
  refine L0 (wanted_none rfl) rfl (y_pickF rfl rfl (rfl : false = false) rfl) ?_
  refine Lnil ?_
  refine Wkn (t := 69) (b0 := false) rfl (by exact bnF hto) (fun h17 => ?_)
  refine W_condF rfl h17 ?_
  refine W_skip ?_
  refine W_seq ?_
  refine W_seq ?_
  refine W_region ?_
  refine L0 (wanted_none rfl) rfl (y_move (v := Value.int _ _) rfl rfl) ?_
  refine Lc (wanted_none rfl) (c_call rfl rfl rfl Tryd.func14 (by kernel_rfl) rfl (pick_any what 4 (by omega) (by omega) w14) rfl ?_)
  rintro _ w18 ⟨rfl, hc19⟩
  have hs20 := hs16.call0 hc19
  refine Lnil ?_
  refine W_block ?_
  refine W_seq ?_
  refine W_region ?_
  refine L0 (wanted_none rfl) rfl (y_eq rfl rfl rfl) ?_
  refine L0 (wanted_none rfl) rfl (y_assign (v := Value.bool _) rfl rfl) ?_
  refine Lnil ?_
  refine Wkn (t := 78) (b0 := true) rfl (by first | exact decide_eq_true (by omega) | exact bnT (by omega) | (simp; omega)) (fun h21 => ?_)
  refine W_condT rfl h21 ?_
  refine W_region ?_
  refine L0 (wanted_none rfl) rfl (y_move (v := Value.string ⟨⟨_⟩⟩) rfl rfl) ?_
  refine L0 (wanted_none rfl) rfl (y_move (v := Value.int _ _) rfl rfl) ?_
  refine Lc (wanted_none rfl) (c_call rfl rfl rfl Tryd.func23 (by kernel_rfl) rfl (flip_any (sealOf key cell text) bit hne (by omega) w18) rfl ?_)
  rintro vt w22 ⟨⟨t, rfl, ht⟩, hc23⟩
  have hs24 := hs20.call0 hc23
  have htl : t.length = 109 := by omega
  refine L0 (wanted_none rfl) rfl (y_assign (v := Value.string ⟨⟨_⟩⟩) rfl rfl) ?_
  refine Lnil ?_
  refine W_seq ?_
  by_cases v3 : Sealed key cell t
  · skip
    refine W_region ?_
    refine L0 (wanted_none rfl) rfl (y_move (v := Value.string ⟨⟨_⟩⟩) rfl rfl) ?_
    refine L0 (wanted_none rfl) rfl (y_move (v := Value.int _ _) rfl rfl) ?_
    refine L0 (wanted_none rfl) rfl (y_move (v := Value.string ⟨⟨_⟩⟩) rfl rfl) ?_
    refine Lc (wanted_none rfl) (c_call rfl rfl rfl Tryd.func22 (by kernel_rfl) rfl (open_any key t cell (by omega) (by omega) v3 w22 (hr.keep hs24 (by simp [keys]))) rfl ?_)
    rintro _ w25 ⟨rfl, hc26⟩
    have hs27 := hs24.call0 hc26
    refine L0 (wanted_none rfl) rfl (y_move (v := Value.tuple ⟨_⟩) rfl rfl) ?_
    refine L0 (wanted_none rfl) rfl (y_extract rfl rfl rfl) ?_
    refine L0 (wanted_none rfl) rfl (y_extract rfl rfl rfl) ?_
    refine L0 (wanted_none rfl) rfl (y_extract rfl rfl rfl) ?_
    refine L0 (wanted_none rfl) rfl (y_assign (v := Value.string ⟨⟨_⟩⟩) rfl rfl) ?_
    refine L0 (wanted_none rfl) rfl (y_assign (v := _) rfl rfl) ?_
    refine Lnil ?_
    refine W_seq ?_
    refine W_seq ?_
    refine W_region ?_
    refine L0 (wanted_none rfl) rfl (y_move (v := _) rfl rfl) ?_
    refine L0 (wanted_none rfl) rfl (y_eqNilNil rfl Tryd.underlying32 rfl) ?_
    refine Lnil ?_
    refine W_condT rfl rfl ?_
    refine W_seq ?_
    refine W_drawSt [(0, 0), (0, 1), (0, 2), (0, 3), (0, 4), (0, 5), (0, 7), (0, 11), (0, 8), (0, 12), (2, 6), (2, 9), (2, 10), (0, 13), (0, 14), (0, 15)] hs27 mixed (by kernel_rfl) (fun w28 hs29 => ?_)
    refine E0 (wanted_none rfl) rfl (y_move (v := Value.string ⟨⟨_⟩⟩) rfl rfl) ?_
    refine E0 (wanted_none rfl) rfl (y_len rfl Tryd.underlying9 rfl) ?_
    refine E0 (wanted_none rfl) rfl (y_eq rfl rfl rfl) ?_
    refine E0 (wanted_none rfl) rfl (y_move (v := Value.bool _) rfl rfl) ?_
    refine Ekn (t := 109) (b0 := true) rfl (by exact decide_eq_true (by omega)) (fun h30 => ?_)
    refine E0 (wanted_yesB rfl rfl rfl h30) rfl (y_move (v := Value.string ⟨⟨_⟩⟩) rfl rfl) ?_
    refine E0 (wanted_yesB rfl rfl rfl h30) rfl (y_move (v := Value.int _ _) rfl rfl) ?_
    refine E0 (wanted_yesB rfl rfl rfl h30) rfl (y_move (v := Value.string ⟨⟨_⟩⟩) rfl rfl) ?_
    refine E0 (wanted_yesB rfl rfl rfl h30) rfl (y_move (v := Value.string ⟨⟨_⟩⟩) rfl rfl) ?_
    refine E0 (wanted_yesB rfl rfl rfl h30) rfl (y_sslice_lo rfl Tryd.underlying9 rfl rfl (by omega)) ?_
    refine E0 (wanted_yesB rfl rfl rfl h30) rfl (y_sslice_hi rfl Tryd.underlying9 rfl rfl (by omega)) ?_
    refine E2 (wanted_yesB rfl rfl rfl h30) (c_call rfl rfl rfl Tryd.func25 (by kernel_rfl) rfl (num_any cell w28) rfl ?_)
    rintro _ w31 ⟨rfl, hc32⟩
    have hs33 := hs29.call0 hc32
    refine E2 (wanted_yesB rfl rfl rfl h30) (c_bs3 (v0 := str _) (v1 := str _) (v2 := str _) hs33 rfl rfl Tryd.underlying22 sz9 zr9 rfl rfl rfl rfl rfl rfl (fun b34 w35 hbb34 hs36 => ?_))
    refine E2 (wanted_yesB rfl rfl rfl h30) (c_call rfl rfl rfl Tryd.func24 (by kernel_rfl) rfl (mark_any 103 [key, numOf cell, (t).drop 16] _ (by rw [mark3_len, numOf_len, List.length_drop]; omega) (by simp) w35 (hr.keep hs36 (by have := hbb34; simp [keys]; omega)) (sl_three (hs36.get 0 rfl) rfl)) rfl ?_)
    rintro _ w37 ⟨rfl, hc38⟩
    have hs39 := hs36.call0 hc38
    refine E0 (wanted_yesB rfl rfl rfl h30) rfl (y_seq rfl rfl rfl) ?_
    refine E0 (wanted_none rfl) rfl (y_pickT rfl rfl h30 rfl) ?_
    refine E0 (wanted_none rfl) rfl (y_assign (v := Value.bool _) rfl rfl) ?_
    refine Enil ?_
    refine W_ret ?_
    refine fin1 (fn := Tryd.f4) rfl rfl ?_
    first | exact ⟨congrArg Value.bool (decide_eq_true rfl), hs39⟩ | exact ⟨congrArg Value.bool (decide_eq_true (sealed_tag v3 (by omega))), hs39.drop (.inl hbb34)⟩
  · skip
    refine W_region ?_
    refine L0 (wanted_none rfl) rfl (y_move (v := Value.string ⟨⟨_⟩⟩) rfl rfl) ?_
    refine L0 (wanted_none rfl) rfl (y_move (v := Value.int _ _) rfl rfl) ?_
    refine L0 (wanted_none rfl) rfl (y_move (v := Value.string ⟨⟨_⟩⟩) rfl rfl) ?_
    refine Lc (wanted_none rfl) (c_call rfl rfl rfl Tryd.func22 (by kernel_rfl) rfl (open_spoilt key t cell (by omega) (by omega) v3 w22 (hr.keep hs24 (by simp [keys]))) rfl ?_)
    rintro _ w40 ⟨rfl, hc41⟩
    have hs42 := hs24.call0 hc41
    refine L0 (wanted_none rfl) rfl (y_move (v := Value.tuple ⟨_⟩) rfl rfl) ?_
    refine L0 (wanted_none rfl) rfl (y_extract rfl rfl rfl) ?_
    refine L0 (wanted_none rfl) rfl (y_extract rfl rfl rfl) ?_
    refine L0 (wanted_none rfl) rfl (y_extract rfl rfl rfl) ?_
    refine L0 (wanted_none rfl) rfl (y_assign (v := Value.string ⟨⟨_⟩⟩) rfl rfl) ?_
    refine L0 (wanted_none rfl) rfl (y_assign (v := _) rfl rfl) ?_
    refine Lnil ?_
    refine W_seq ?_
    refine W_seq ?_
    refine W_region ?_
    refine L0 (wanted_none rfl) rfl (y_move (v := _) rfl rfl) ?_
    refine L0 (wanted_none rfl) rfl (y_eqNil rfl Tryd.underlying32 rfl) ?_
    refine Lnil ?_
    refine W_condF rfl rfl ?_
    refine W_skip ?_
    refine W_seq ?_
    refine W_region ?_
    refine L0 (wanted_none rfl) rfl (y_move (v := _) rfl rfl) ?_
    refine Lc (wanted_none rfl) (c_call rfl rfl rfl Tryd.func16 (by kernel_rfl) rfl (tell_errno 15 w40 (he.keep hs42 (by simp [keys]))) rfl ?_)
    rintro _ w43 ⟨rfl, hc44⟩
    have hs45 := hs42.call0 hc44
    refine L0 (wanted_none rfl) rfl (y_eq rfl rfl rfl) ?_
    refine L0 (wanted_none rfl) rfl (y_move (v := Value.bool _) rfl rfl) ?_
    refine Lkn (t := 124) (b0 := true) rfl (by exact decide_eq_true rfl) (fun h46 => ?_)
    refine L0 (wanted_yesB rfl rfl rfl h46) rfl (y_move (v := Value.string ⟨⟨_⟩⟩) rfl rfl) ?_
    refine L0 (wanted_yesB rfl rfl rfl h46) rfl (y_seq rfl rfl rfl) ?_
    refine L0 (wanted_none rfl) rfl (y_pickT rfl rfl h46 rfl) ?_
    refine L0 (wanted_none rfl) rfl (y_assign (v := Value.bool _) rfl rfl) ?_
    refine Lnil ?_
    refine W_ret ?_
    refine fin1 (fn := Tryd.f4) rfl rfl ?_
    first | exact ⟨congrArg Value.bool (decide_eq_true rfl), hs45⟩ | exact ⟨congrArg Value.bool (decide_eq_true (sealed_tag v3 (by omega))), hs45.drop (.inl hbNOBLOCK)⟩
theorem sback_1 (key text : List UInt8) (cell what bit : Int) (l1 : key.length ≤ 40) (l2 : text.length ≤ 120) (v : okSeal key cell text) (hw : pickOf what 4 = 1) (w : World) (hr : RoundsAt w) (he : ErrAt w) :
    C Tryd.prog 4 ⟨[str key, iv cell, str text, iv what, iv bit]⟩ w fun v w' => v = .bool true ∧ St w [] w' := by
  have lso := sealOf_len (key := key) (cell := cell) v.2
  have hto := seal_text key cell text (List.replicate 19 0) v.2
  have hk := v.1.1
  have hrl := hr.1
  have hc0 := v.1.2.1
  have hc1 := v.1.2.2
  have hne : sealOf key cell text ≠ [] := fun h => by rw [h] at lso; exact absurd lso (by decide)
  have hke : key ≠ [] := fun h => by rw [h] at hk; exact absurd hk (by decide)
  have hp23 := pickOf_range (a := bit) (n := 23) (by omega)
  have hpl := pickOf_range (a := bit) (n := ((sealOf key cell text).length : Int)) (by omega)
  refine C_enter (n := 128) Tryd.func4 rfl rfl rfl (fun w1 hs1 => ?_)
  refine W_seq ?_
  refine W_region ?_
  refine L0 (wanted_none rfl) rfl (y_assign (v := Value.bool _) rfl rfl) ?_
  refine Lnil ?_
  refine W_seq ?_
  refine W_seq ?_
  refine W_region ?_
  refine L0 (wanted_none rfl) rfl (y_move (v := Value.string ⟨⟨_⟩⟩) rfl rfl) ?_
  refine L0 (wanted_none rfl) rfl (y_len rfl Tryd.underlying9 rfl) ?_
  refine L0 (wanted_none rfl) rfl (y_gt rfl rfl rfl) ?_
  refine L0 (wanted_none rfl) rfl (y_move (v := Value.bool _) rfl rfl) ?_
  refine Lkn (t := 18) (b0 := false) rfl (by first | exact decide_eq_false (by omega) | exact bnF (by omega) | (simp; omega)) (fun h2 => ?_)
  refine L0 (wanted_yesB rfl rfl rfl h2) rfl (y_move (v := Value.string ⟨⟨_⟩⟩) rfl rfl) ?_
  refine L0 (wanted_yesB rfl rfl rfl h2) rfl (y_len rfl Tryd.underlying9 rfl) ?_
  refine L0 (wanted_yesB rfl rfl rfl h2) rfl (y_gt rfl rfl rfl) ?_
  refine L0 (wanted_none rfl) rfl (y_pickF rfl rfl h2 rfl) ?_
  refine Lnil ?_
  refine Wkn (t := 22) (b0 := false) rfl (by first | exact decide_eq_false (by omega) | exact bnF (by omega) | (simp; omega)) (fun h3 => ?_)
  refine W_condF rfl h3 ?_
  refine W_skip ?_
  refine W_seq ?_
  refine W_seq ?_
  refine W_region ?_
  refine Lc (wanted_none rfl) (c_call rfl rfl rfl Tryd.func20 (by kernel_rfl) rfl (sealed_any w1 (hr.keep hs1 (by simp [keys]))) rfl ?_)
  rintro _ w4 ⟨rfl, hc5⟩
  have hs6 := hs1.call0 hc5
  refine L0 (wanted_none rfl) rfl (y_not rfl rfl) ?_
  refine Lnil ?_
  refine Wkn (t := 24) (b0 := false) rfl (by rfl) (fun h7 => ?_)
  refine W_condF rfl h7 ?_
  refine W_skip ?_
  refine W_seq ?_
  refine W_region ?_
  refine L0 (wanted_none rfl) rfl (y_move (v := Value.string ⟨⟨_⟩⟩) rfl rfl) ?_
  refine L0 (wanted_none rfl) rfl (y_move (v := Value.int _ _) rfl rfl) ?_
  refine L0 (wanted_none rfl) rfl (y_move (v := Value.string ⟨⟨_⟩⟩) rfl rfl) ?_
  refine Lc (wanted_none rfl) (c_call rfl rfl rfl Tryd.func21 (by kernel_rfl) rfl (seal_any key text cell v.1.1 v.1.2.1 v.1.2.2 v.2 w4 (hr.keep hs6 (by simp [keys]))) rfl ?_)
  rintro _ w8 ⟨rfl, hc9⟩
  have hs10 := hs6.call0 hc9
  refine L0 (wanted_none rfl) rfl (y_move (v := Value.tuple ⟨_⟩) rfl rfl) ?_
  refine L0 (wanted_none rfl) rfl (y_extract rfl rfl rfl) ?_
  refine L0 (wanted_none rfl) rfl (y_extract rfl rfl rfl) ?_
  refine L0 (wanted_none rfl) rfl (y_assign (v := Value.string ⟨⟨_⟩⟩) rfl rfl) ?_
  refine L0 (wanted_none rfl) rfl (y_assign (v := _) rfl rfl) ?_
  refine Lnil ?_
  refine W_seq ?_
  refine W_seq ?_
  refine W_region ?_
  refine L0 (wanted_none rfl) rfl (y_move (v := _) rfl rfl) ?_
  refine L0 (wanted_none rfl) rfl (y_neNilNil rfl Tryd.underlying32 rfl) ?_
  refine Lnil ?_
  refine W_condF rfl rfl ?_
  refine W_skip ?_
  refine W_seq ?_
  refine W_region ?_
  refine L0 (wanted_none rfl) rfl (y_move (v := Value.string ⟨⟨_⟩⟩) rfl rfl) ?_
  refine L0 (wanted_none rfl) rfl (y_move (v := Value.int _ _) rfl rfl) ?_
  refine L0 (wanted_none rfl) rfl (y_move (v := Value.string ⟨⟨_⟩⟩) rfl rfl) ?_
  refine L0 (wanted_none rfl) rfl (y_move (v := Value.string ⟨⟨_⟩⟩) rfl rfl) ?_
  refine L0 (wanted_none rfl) rfl (y_len rfl Tryd.underlying9 rfl) ?_
  refine L0 (wanted_none rfl) rfl (y_sub64 rfl rfl rfl (by omega)) ?_
  refine Lc (wanted_none rfl) (c_call rfl rfl rfl Tryd.func17 (by kernel_rfl) rfl (repeat_int 0 _ 19 (by omega) (by decide) w8) rfl ?_)
  rintro _ w11 ⟨rfl, hc12⟩
  have hs13 := hs10.call0 hc12
  refine L0 (wanted_none rfl) rfl (y_scat rfl rfl rfl (by rw [List.length_replicate]; omega)) ?_
  refine Lc (wanted_none rfl) (c_call rfl rfl rfl Tryd.func22 (by kernel_rfl) rfl (open_any key (sealOf key cell text ++ List.replicate 19 0) cell v.1.1 (by rw [List.length_append, List.length_replicate]; omega) (seal_sealed key cell text _ v.2) w11 (hr.keep hs13 (by simp [keys]))) rfl ?_)
  rintro _ w14 ⟨rfl, hc15⟩
  have hs16 := hs13.call0 hc15
  refine L0 (wanted_none rfl) rfl (y_move (v := Value.tuple ⟨_⟩) rfl rfl) ?_
  refine L0 (wanted_none rfl) rfl (y_extract rfl rfl rfl) ?_
  refine L0 (wanted_none rfl) rfl (y_extract rfl rfl rfl) ?_
  refine L0 (wanted_none rfl) rfl (y_extract rfl rfl rfl) ?_
  refine L0 (wanted_none rfl) rfl (y_assign (v := Value.string ⟨⟨_⟩⟩) rfl rfl) ?_
  refine L0 (wanted_none rfl) rfl (y_assign (v := Value.string ⟨⟨_⟩⟩) rfl rfl) ?_
  refine L0 (wanted_none rfl) rfl (y_assign (v := _) rfl rfl) ?_
  refine Lnil ?_
  refine W_seq ?_
  refine W_seq ?_
  refine W_region ?_
  refine L0 (wanted_none rfl) rfl (y_move (v := _) rfl rfl) ?_
  refine L0 (wanted_none rfl) rfl (y_neNilNil rfl Tryd.underlying32 rfl) ?_
  refine L0 (wanted_none rfl) rfl (y_move (v := Value.bool _) rfl rfl) ?_
  refine L0 (wanted_yesB rfl rfl rfl rfl) rfl (y_move (v := Value.string ⟨⟨_⟩⟩) rfl rfl) ?_
  refine L0 (wanted_yesB rfl rfl rfl rfl) rfl (y_move (v := Value.string ⟨⟨_⟩⟩) rfl rfl) ?_
  refine L0 (wanted_yesB rfl rfl rfl rfl) rfl (y_sne rfl rfl rfl) ?_
  refine L0 (wanted_none rfl) rfl (y_pickF rfl rfl (rfl : false = false) rfl) ?_
  refine Lnil ?_
  refine Wkn (t := 69) (b0 := false) rfl (by exact bnF hto) (fun h17 => ?_)
  refine W_condF rfl h17 ?_
  refine W_skip ?_
  refine W_seq ?_
  refine W_seq ?_
  refine W_region ?_
  refine L0 (wanted_none rfl) rfl (y_move (v := Value.int _ _) rfl rfl) ?_
  refine Lc (wanted_none rfl) (c_call rfl rfl rfl Tryd.func14 (by kernel_rfl) rfl (pick_any what 4 (by omega) (by omega) w14) rfl ?_)
  rintro _ w18 ⟨rfl, hc19⟩
  have hs20 := hs16.call0 hc19
  refine Lnil ?_
  refine W_block ?_
  refine W_seq ?_
  refine W_region ?_
  refine L0 (wanted_none rfl) rfl (y_eq rfl rfl rfl) ?_
  refine L0 (wanted_none rfl) rfl (y_assign (v := Value.bool _) rfl rfl) ?_
  refine Lnil ?_
  refine Wkn (t := 78) (b0 := false) rfl (by first | exact decide_eq_false (by omega) | exact bnF (by omega) | (simp; omega)) (fun h21 => ?_)
  refine W_condF rfl h21 ?_
  refine W_seq ?_
  refine W_region ?_
  refine L0 (wanted_none rfl) rfl (y_eq rfl rfl rfl) ?_
  refine L0 (wanted_none rfl) rfl (y_assign (v := Value.bool _) rfl rfl) ?_
  refine Lnil ?_
  refine Wkn (t := 83) (b0 := true) rfl (by first | exact decide_eq_true (by omega) | exact bnT (by omega) | (simp; omega)) (fun h22 => ?_)
  refine W_condT rfl h22 ?_
  refine W_region ?_
  refine L0 (wanted_none rfl) rfl (y_move (v := Value.string ⟨⟨_⟩⟩) rfl rfl) ?_
  refine L0 (wanted_none rfl) rfl (y_move (v := Value.int _ _) rfl rfl) ?_
  refine Lc (wanted_none rfl) (c_call rfl rfl rfl Tryd.func23 (by kernel_rfl) rfl (flip_any key bit hke (by omega) w18) rfl ?_)
  rintro vt w23 ⟨⟨t, rfl, ht⟩, hc24⟩
  have hs25 := hs20.call0 hc24
  have htl : t.length = 32 := by omega
  refine L0 (wanted_none rfl) rfl (y_assign (v := Value.string ⟨⟨_⟩⟩) rfl rfl) ?_
  refine Lnil ?_
  refine W_seq ?_
  by_cases v3 : Sealed t cell (sealOf key cell text)
  · skip
    refine W_region ?_
    refine L0 (wanted_none rfl) rfl (y_move (v := Value.string ⟨⟨_⟩⟩) rfl rfl) ?_
    refine L0 (wanted_none rfl) rfl (y_move (v := Value.int _ _) rfl rfl) ?_
    refine L0 (wanted_none rfl) rfl (y_move (v := Value.string ⟨⟨_⟩⟩) rfl rfl) ?_
    refine Lc (wanted_none rfl) (c_call rfl rfl rfl Tryd.func22 (by kernel_rfl) rfl (open_any t (sealOf key cell text) cell (by omega) (by omega) v3 w23 (hr.keep hs25 (by simp [keys]))) rfl ?_)
    rintro _ w26 ⟨rfl, hc27⟩
    have hs28 := hs25.call0 hc27
    refine L0 (wanted_none rfl) rfl (y_move (v := Value.tuple ⟨_⟩) rfl rfl) ?_
    refine L0 (wanted_none rfl) rfl (y_extract rfl rfl rfl) ?_
    refine L0 (wanted_none rfl) rfl (y_extract rfl rfl rfl) ?_
    refine L0 (wanted_none rfl) rfl (y_extract rfl rfl rfl) ?_
    refine L0 (wanted_none rfl) rfl (y_assign (v := Value.string ⟨⟨_⟩⟩) rfl rfl) ?_
    refine L0 (wanted_none rfl) rfl (y_assign (v := _) rfl rfl) ?_
    refine Lnil ?_
    refine W_seq ?_
    refine W_seq ?_
    refine W_region ?_
    refine L0 (wanted_none rfl) rfl (y_move (v := _) rfl rfl) ?_
    refine L0 (wanted_none rfl) rfl (y_eqNilNil rfl Tryd.underlying32 rfl) ?_
    refine Lnil ?_
    refine W_condT rfl rfl ?_
    refine W_seq ?_
    refine W_drawSt [(0, 0), (0, 1), (0, 2), (0, 3), (0, 4), (0, 5), (0, 7), (0, 11), (0, 8), (0, 12), (2, 6), (2, 9), (2, 10), (0, 13), (0, 14), (0, 15)] hs28 mixed (by kernel_rfl) (fun w29 hs30 => ?_)
    refine E0 (wanted_none rfl) rfl (y_move (v := Value.string ⟨⟨_⟩⟩) rfl rfl) ?_
    refine E0 (wanted_none rfl) rfl (y_len rfl Tryd.underlying9 rfl) ?_
    refine E0 (wanted_none rfl) rfl (y_eq rfl rfl rfl) ?_
    refine E0 (wanted_none rfl) rfl (y_move (v := Value.bool _) rfl rfl) ?_
    refine Ekn (t := 109) (b0 := true) rfl (by exact decide_eq_true (by omega)) (fun h31 => ?_)
    refine E0 (wanted_yesB rfl rfl rfl h31) rfl (y_move (v := Value.string ⟨⟨_⟩⟩) rfl rfl) ?_
    refine E0 (wanted_yesB rfl rfl rfl h31) rfl (y_move (v := Value.int _ _) rfl rfl) ?_
    refine E0 (wanted_yesB rfl rfl rfl h31) rfl (y_move (v := Value.string ⟨⟨_⟩⟩) rfl rfl) ?_
    refine E0 (wanted_yesB rfl rfl rfl h31) rfl (y_move (v := Value.string ⟨⟨_⟩⟩) rfl rfl) ?_
    refine E0 (wanted_yesB rfl rfl rfl h31) rfl (y_sslice_lo rfl Tryd.underlying9 rfl rfl (by omega)) ?_
    refine E0 (wanted_yesB rfl rfl rfl h31) rfl (y_sslice_hi rfl Tryd.underlying9 rfl rfl (by omega)) ?_
    refine E2 (wanted_yesB rfl rfl rfl h31) (c_call rfl rfl rfl Tryd.func25 (by kernel_rfl) rfl (num_any cell w29) rfl ?_)
    rintro _ w32 ⟨rfl, hc33⟩
    have hs34 := hs30.call0 hc33
    refine E2 (wanted_yesB rfl rfl rfl h31) (c_bs3 (v0 := str _) (v1 := str _) (v2 := str _) hs34 rfl rfl Tryd.underlying22 sz9 zr9 rfl rfl rfl rfl rfl rfl (fun b35 w36 hbb35 hs37 => ?_))
    refine E2 (wanted_yesB rfl rfl rfl h31) (c_call rfl rfl rfl Tryd.func24 (by kernel_rfl) rfl (mark_any 103 [t, numOf cell, ((sealOf key cell text)).drop 16] _ (by rw [mark3_len, numOf_len, List.length_drop]; omega) (by simp) w36 (hr.keep hs37 (by have := hbb35; simp [keys]; omega)) (sl_three (hs37.get 0 rfl) rfl)) rfl ?_)
    rintro _ w38 ⟨rfl, hc39⟩
    have hs40 := hs37.call0 hc39
    refine E0 (wanted_yesB rfl rfl rfl h31) rfl (y_seq rfl rfl rfl) ?_
    refine E0 (wanted_none rfl) rfl (y_pickT rfl rfl h31 rfl) ?_
    refine E0 (wanted_none rfl) rfl (y_assign (v := Value.bool _) rfl rfl) ?_
    refine Enil ?_
    refine W_ret ?_
    refine fin1 (fn := Tryd.f4) rfl rfl ?_
    first | exact ⟨congrArg Value.bool (decide_eq_true rfl), hs40⟩ | exact ⟨congrArg Value.bool (decide_eq_true (sealed_tag v3 (by omega))), hs40.drop (.inl hbb35)⟩
  · skip
    refine W_region ?_
    refine L0 (wanted_none rfl) rfl (y_move (v := Value.string ⟨⟨_⟩⟩) rfl rfl) ?_
    refine L0 (wanted_none rfl) rfl (y_move (v := Value.int _ _) rfl rfl) ?_
    refine L0 (wanted_none rfl) rfl (y_move (v := Value.string ⟨⟨_⟩⟩) rfl rfl) ?_
    refine Lc (wanted_none rfl) (c_call rfl rfl rfl Tryd.func22 (by kernel_rfl) rfl (open_spoilt t (sealOf key cell text) cell (by omega) (by omega) v3 w23 (hr.keep hs25 (by simp [keys]))) rfl ?_)
    rintro _ w41 ⟨rfl, hc42⟩
    have hs43 := hs25.call0 hc42
    refine L0 (wanted_none rfl) rfl (y_move (v := Value.tuple ⟨_⟩) rfl rfl) ?_
    refine L0 (wanted_none rfl) rfl (y_extract rfl rfl rfl) ?_
    refine L0 (wanted_none rfl) rfl (y_extract rfl rfl rfl) ?_
    refine L0 (wanted_none rfl) rfl (y_extract rfl rfl rfl) ?_
    refine L0 (wanted_none rfl) rfl (y_assign (v := Value.string ⟨⟨_⟩⟩) rfl rfl) ?_
    refine L0 (wanted_none rfl) rfl (y_assign (v := _) rfl rfl) ?_
    refine Lnil ?_
    refine W_seq ?_
    refine W_seq ?_
    refine W_region ?_
    refine L0 (wanted_none rfl) rfl (y_move (v := _) rfl rfl) ?_
    refine L0 (wanted_none rfl) rfl (y_eqNil rfl Tryd.underlying32 rfl) ?_
    refine Lnil ?_
    refine W_condF rfl rfl ?_
    refine W_skip ?_
    refine W_seq ?_
    refine W_region ?_
    refine L0 (wanted_none rfl) rfl (y_move (v := _) rfl rfl) ?_
    refine Lc (wanted_none rfl) (c_call rfl rfl rfl Tryd.func16 (by kernel_rfl) rfl (tell_errno 15 w41 (he.keep hs43 (by simp [keys]))) rfl ?_)
    rintro _ w44 ⟨rfl, hc45⟩
    have hs46 := hs43.call0 hc45
    refine L0 (wanted_none rfl) rfl (y_eq rfl rfl rfl) ?_
    refine L0 (wanted_none rfl) rfl (y_move (v := Value.bool _) rfl rfl) ?_
    refine Lkn (t := 124) (b0 := true) rfl (by exact decide_eq_true rfl) (fun h47 => ?_)
    refine L0 (wanted_yesB rfl rfl rfl h47) rfl (y_move (v := Value.string ⟨⟨_⟩⟩) rfl rfl) ?_
    refine L0 (wanted_yesB rfl rfl rfl h47) rfl (y_seq rfl rfl rfl) ?_
    refine L0 (wanted_none rfl) rfl (y_pickT rfl rfl h47 rfl) ?_
    refine L0 (wanted_none rfl) rfl (y_assign (v := Value.bool _) rfl rfl) ?_
    refine Lnil ?_
    refine W_ret ?_
    refine fin1 (fn := Tryd.f4) rfl rfl ?_
    first | exact ⟨congrArg Value.bool (decide_eq_true rfl), hs46⟩ | exact ⟨congrArg Value.bool (decide_eq_true (sealed_tag v3 (by omega))), hs46.drop (.inl hbNOBLOCK)⟩
theorem sback_2 (key text : List UInt8) (cell what bit : Int) (l1 : key.length ≤ 40) (l2 : text.length ≤ 120) (v : okSeal key cell text) (hw : pickOf what 4 = 2) (w : World) (hr : RoundsAt w) (he : ErrAt w) :
    C Tryd.prog 4 ⟨[str key, iv cell, str text, iv what, iv bit]⟩ w fun v w' => v = .bool true ∧ St w [] w' := by
  have lso := sealOf_len (key := key) (cell := cell) v.2
  have hto := seal_text key cell text (List.replicate 19 0) v.2
  have hk := v.1.1
  have hrl := hr.1
  have hc0 := v.1.2.1
  have hc1 := v.1.2.2
  have hne : sealOf key cell text ≠ [] := fun h => by rw [h] at lso; exact absurd lso (by decide)
  have hke : key ≠ [] := fun h => by rw [h] at hk; exact absurd hk (by decide)
  have hp23 := pickOf_range (a := bit) (n := 23) (by omega)
  have hpl := pickOf_range (a := bit) (n := ((sealOf key cell text).length : Int)) (by omega)
  refine C_enter (n := 128) Tryd.func4 rfl rfl rfl (fun w1 hs1 => ?_)
  refine W_seq ?_
  refine W_region ?_
  refine L0 (wanted_none rfl) rfl (y_assign (v := Value.bool _) rfl rfl) ?_
  refine Lnil ?_
  refine W_seq ?_
  refine W_seq ?_
  refine W_region ?_
  refine L0 (wanted_none rfl) rfl (y_move (v := Value.string ⟨⟨_⟩⟩) rfl rfl) ?_
  refine L0 (wanted_none rfl) rfl (y_len rfl Tryd.underlying9 rfl) ?_
  refine L0 (wanted_none rfl) rfl (y_gt rfl rfl rfl) ?_
  refine L0 (wanted_none rfl) rfl (y_move (v := Value.bool _) rfl rfl) ?_
  refine Lkn (t := 18) (b0 := false) rfl (by first | exact decide_eq_false (by omega) | exact bnF (by omega) | (simp; omega)) (fun h2 => ?_)
  refine L0 (wanted_yesB rfl rfl rfl h2) rfl (y_move (v := Value.string ⟨⟨_⟩⟩) rfl rfl) ?_
  refine L0 (wanted_yesB rfl rfl rfl h2) rfl (y_len rfl Tryd.underlying9 rfl) ?_
  refine L0 (wanted_yesB rfl rfl rfl h2) rfl (y_gt rfl rfl rfl) ?_
  refine L0 (wanted_none rfl) rfl (y_pickF rfl rfl h2 rfl) ?_
  refine Lnil ?_
  refine Wkn (t := 22) (b0 := false) rfl (by first | exact decide_eq_false (by omega) | exact bnF (by omega) | (simp; omega)) (fun h3 => ?_)
  refine W_condF rfl h3 ?_
  refine W_skip ?_
  refine W_seq ?_
  refine W_seq ?_
  refine W_region ?_
  refine Lc (wanted_none rfl) (c_call rfl rfl rfl Tryd.func20 (by kernel_rfl) rfl (sealed_any w1 (hr.keep hs1 (by simp [keys]))) rfl ?_)
  rintro _ w4 ⟨rfl, hc5⟩
  have hs6 := hs1.call0 hc5
  refine L0 (wanted_none rfl) rfl (y_not rfl rfl) ?_
  refine Lnil ?_
  refine Wkn (t := 24) (b0 := false) rfl (by rfl) (fun h7 => ?_)
  refine W_condF rfl h7 ?_
  refine W_skip ?_
  refine W_seq ?_
  refine W_region ?_
  refine L0 (wanted_none rfl) rfl (y_move (v := Value.string ⟨⟨_⟩⟩) rfl rfl) ?_
  refine L0 (wanted_none rfl) rfl (y_move (v := Value.int _ _) rfl rfl) ?_
  refine L0 (wanted_none rfl) rfl (y_move (v := Value.string ⟨⟨_⟩⟩) rfl rfl) ?_
  refine Lc (wanted_none rfl) (c_call rfl rfl rfl Tryd.func21 (by kernel_rfl) rfl (seal_any key text cell v.1.1 v.1.2.1 v.1.2.2 v.2 w4 (hr.keep hs6 (by simp [keys]))) rfl ?_)
  rintro _ w8 ⟨rfl, hc9⟩
  have hs10 := hs6.call0 hc9
  refine L0 (wanted_none rfl) rfl (y_move (v := Value.tuple ⟨_⟩) rfl rfl) ?_
  refine L0 (wanted_none rfl) rfl (y_extract rfl rfl rfl) ?_
  refine L0 (wanted_none rfl) rfl (y_extract rfl rfl rfl) ?_
  refine L0 (wanted_none rfl) rfl (y_assign (v := Value.string ⟨⟨_⟩⟩) rfl rfl) ?_
  refine L0 (wanted_none rfl) rfl (y_assign (v := _) rfl rfl) ?_
  refine Lnil ?_
  refine W_seq ?_
  refine W_seq ?_
  refine W_region ?_
  refine L0 (wanted_none rfl) rfl (y_move (v := _) rfl rfl) ?_
  refine L0 (wanted_none rfl) rfl (y_neNilNil rfl Tryd.underlying32 rfl) ?_
  refine Lnil ?_
  refine W_condF rfl rfl ?_
  refine W_skip ?_
  refine W_seq ?_
  refine W_region ?_
  refine L0 (wanted_none rfl) rfl (y_move (v := Value.string ⟨⟨_⟩⟩) rfl rfl) ?_
  refine L0 (wanted_none rfl) rfl (y_move (v := Value.int _ _) rfl rfl) ?_
  refine L0 (wanted_none rfl) rfl (y_move (v := Value.string ⟨⟨_⟩⟩) rfl rfl) ?_
  refine L0 (wanted_none rfl) rfl (y_move (v := Value.string ⟨⟨_⟩⟩) rfl rfl) ?_
  refine L0 (wanted_none rfl) rfl (y_len rfl Tryd.underlying9 rfl) ?_
  refine L0 (wanted_none rfl) rfl (y_sub64 rfl rfl rfl (by omega)) ?_
  refine Lc (wanted_none rfl) (c_call rfl rfl rfl Tryd.func17 (by kernel_rfl) rfl (repeat_int 0 _ 19 (by omega) (by decide) w8) rfl ?_)
  rintro _ w11 ⟨rfl, hc12⟩
  have hs13 := hs10.call0 hc12
  refine L0 (wanted_none rfl) rfl (y_scat rfl rfl rfl (by rw [List.length_replicate]; omega)) ?_
  refine Lc (wanted_none rfl) (c_call rfl rfl rfl Tryd.func22 (by kernel_rfl) rfl (open_any key (sealOf key cell text ++ List.replicate 19 0) cell v.1.1 (by rw [List.length_append, List.length_replicate]; omega) (seal_sealed key cell text _ v.2) w11 (hr.keep hs13 (by simp [keys]))) rfl ?_)
  rintro _ w14 ⟨rfl, hc15⟩
  have hs16 := hs13.call0 hc15
  refine L0 (wanted_none rfl) rfl (y_move (v := Value.tuple ⟨_⟩) rfl rfl) ?_
  refine L0 (wanted_none rfl) rfl (y_extract rfl rfl rfl) ?_
  refine L0 (wanted_none rfl) rfl (y_extract rfl rfl rfl) ?_
  refine L0 (wanted_none rfl) rfl (y_extract rfl rfl rfl) ?_
  refine L0 (wanted_none rfl) rfl (y_assign (v := Value.string ⟨⟨_⟩⟩) rfl rfl) ?_
  refine L0 (wanted_none rfl) rfl (y_assign (v := Value.string ⟨⟨_⟩⟩) rfl rfl) ?_
  refine L0 (wanted_none rfl) rfl (y_assign (v := _) rfl rfl) ?_
  refine Lnil ?_
  refine W_seq ?_
  refine W_seq ?_
  refine W_region ?_
  refine L0 (wanted_none rfl) rfl (y_move (v := _) rfl rfl) ?_
  refine L0 (wanted_none rfl) rfl (y_neNilNil rfl Tryd.underlying32 rfl) ?_
  refine L0 (wanted_none rfl) rfl (y_move (v := Value.bool _) rfl rfl) ?_
  refine L0 (wanted_yesB rfl rfl rfl rfl) rfl (y_move (v := Value.string ⟨⟨_⟩⟩) rfl rfl) ?_
  refine L0 (wanted_yesB rfl rfl rfl rfl) rfl (y_move (v := Value.string ⟨⟨_⟩⟩) rfl rfl) ?_
  refine L0 (wanted_yesB rfl rfl rfl rfl) rfl (y_sne rfl rfl rfl) ?_
  refine L0 (wanted_none rfl) rfl (y_pickF rfl rfl (rfl : false = false) rfl) ?_
  refine Lnil ?_
  refine Wkn (t := 69) (b0 := false) rfl (by exact bnF hto) (fun h17 => ?_)
  refine W_condF rfl h17 ?_
  refine W_skip ?_
  refine W_seq ?_
  refine W_seq ?_
  refine W_region ?_
  refine L0 (wanted_none rfl) rfl (y_move (v := Value.int _ _) rfl rfl) ?_
  refine Lc (wanted_none rfl) (c_call rfl rfl rfl Tryd.func14 (by kernel_rfl) rfl (pick_any what 4 (by omega) (by omega) w14) rfl ?_)
  rintro _ w18 ⟨rfl, hc19⟩
  have hs20 := hs16.call0 hc19
  refine Lnil ?_
  refine W_block ?_
  refine W_seq ?_
  refine W_region ?_
  refine L0 (wanted_none rfl) rfl (y_eq rfl rfl rfl) ?_
  refine L0 (wanted_none rfl) rfl (y_assign (v := Value.bool _) rfl rfl) ?_
  refine Lnil ?_
  refine Wkn (t := 78) (b0 := false) rfl (by first | exact decide_eq_false (by omega) | exact bnF (by omega) | (simp; omega)) (fun h21 => ?_)
  refine W_condF rfl h21 ?_
  refine W_seq ?_
  refine W_region ?_
  refine L0 (wanted_none rfl) rfl (y_eq rfl rfl rfl) ?_
  refine L0 (wanted_none rfl) rfl (y_assign (v := Value.bool _) rfl rfl) ?_
  refine Lnil ?_
  refine Wkn (t := 83) (b0 := false) rfl (by first | exact decide_eq_false (by omega) | exact bnF (by omega) | (simp; omega)) (fun h22 => ?_)
  refine W_condF rfl h22 ?_
  refine W_seq ?_
  refine W_region ?_
  refine L0 (wanted_none rfl) rfl (y_eq rfl rfl rfl) ?_
  refine L0 (wanted_none rfl) rfl (y_assign (v := Value.bool _) rfl rfl) ?_
  refine Lnil ?_
  refine Wkn (t := 88) (b0 := true) rfl (by first | exact decide_eq_true (by omega) | exact bnT (by omega) | (simp; omega)) (fun h23 => ?_)
  refine W_condT rfl h23 ?_
  refine W_region ?_
  refine L0 (wanted_none rfl) rfl (y_move (v := Value.int _ _) rfl rfl) ?_
  refine L0 (wanted_none rfl) rfl (y_add64 rfl rfl rfl (by omega)) ?_
  refine L0 (wanted_none rfl) rfl (y_move (v := Value.int _ _) rfl rfl) ?_
  refine Lc (wanted_none rfl) (c_call rfl rfl rfl Tryd.func14 (by kernel_rfl) rfl (pick_any bit 23 (by omega) (by omega) w18) rfl ?_)
  rintro _ w24 ⟨rfl, hc25⟩
  have hs26 := hs20.call0 hc25
  refine L0 (wanted_none rfl) rfl (y_add64 rfl rfl rfl (by omega)) ?_
  refine L0 (wanted_none rfl) rfl (y_rem64 rfl rfl rfl (by omega) (by omega)) ?_
  refine L0 (wanted_none rfl) rfl (y_assign (v := Value.int _ _) rfl rfl) ?_
  refine Lnil ?_
  refine W_seq ?_
  by_cases v3 : Sealed key ((cell + 1 + pickOf bit 23) % 24) (sealOf key cell text)
  · skip
    refine W_region ?_
    refine L0 (wanted_none rfl) rfl (y_move (v := Value.string ⟨⟨_⟩⟩) rfl rfl) ?_
    refine L0 (wanted_none rfl) rfl (y_move (v := Value.int _ _) rfl rfl) ?_
    refine L0 (wanted_none rfl) rfl (y_move (v := Value.string ⟨⟨_⟩⟩) rfl rfl) ?_
    refine Lc (wanted_none rfl) (c_call rfl rfl rfl Tryd.func22 (by kernel_rfl) rfl (open_any key (sealOf key cell text) ((cell + 1 + pickOf bit 23) % 24) (by omega) (by omega) v3 w24 (hr.keep hs26 (by simp [keys]))) rfl ?_)
    rintro _ w27 ⟨rfl, hc28⟩
    have hs29 := hs26.call0 hc28
    refine L0 (wanted_none rfl) rfl (y_move (v := Value.tuple ⟨_⟩) rfl rfl) ?_
    refine L0 (wanted_none rfl) rfl (y_extract rfl rfl rfl) ?_
    refine L0 (wanted_none rfl) rfl (y_extract rfl rfl rfl) ?_
    refine L0 (wanted_none rfl) rfl (y_extract rfl rfl rfl) ?_
    refine L0 (wanted_none rfl) rfl (y_assign (v := Value.string ⟨⟨_⟩⟩) rfl rfl) ?_
    refine L0 (wanted_none rfl) rfl (y_assign (v := _) rfl rfl) ?_
    refine Lnil ?_
    refine W_seq ?_
    refine W_seq ?_
    refine W_region ?_
    refine L0 (wanted_none rfl) rfl (y_move (v := _) rfl rfl) ?_
    refine L0 (wanted_none rfl) rfl (y_eqNilNil rfl Tryd.underlying32 rfl) ?_
    refine Lnil ?_
    refine W_condT rfl rfl ?_
    refine W_seq ?_
    refine W_drawSt [(0, 0), (0, 1), (0, 2), (0, 3), (0, 4), (0, 5), (0, 7), (0, 11), (0, 8), (0, 12), (2, 6), (2, 9), (2, 10), (0, 13), (0, 14), (0, 15)] hs29 mixed (by kernel_rfl) (fun w30 hs31 => ?_)
    refine E0 (wanted_none rfl) rfl (y_move (v := Value.string ⟨⟨_⟩⟩) rfl rfl) ?_
    refine E0 (wanted_none rfl) rfl (y_len rfl Tryd.underlying9 rfl) ?_
    refine E0 (wanted_none rfl) rfl (y_eq rfl rfl rfl) ?_
    refine E0 (wanted_none rfl) rfl (y_move (v := Value.bool _) rfl rfl) ?_
    refine Ekn (t := 109) (b0 := true) rfl (by exact decide_eq_true (by omega)) (fun h32 => ?_)
    refine E0 (wanted_yesB rfl rfl rfl h32) rfl (y_move (v := Value.string ⟨⟨_⟩⟩) rfl rfl) ?_
    refine E0 (wanted_yesB rfl rfl rfl h32) rfl (y_move (v := Value.int _ _) rfl rfl) ?_
    refine E0 (wanted_yesB rfl rfl rfl h32) rfl (y_move (v := Value.string ⟨⟨_⟩⟩) rfl rfl) ?_
    refine E0 (wanted_yesB rfl rfl rfl h32) rfl (y_move (v := Value.string ⟨⟨_⟩⟩) rfl rfl) ?_
    refine E0 (wanted_yesB rfl rfl rfl h32) rfl (y_sslice_lo rfl Tryd.underlying9 rfl rfl (by omega)) ?_
    refine E0 (wanted_yesB rfl rfl rfl h32) rfl (y_sslice_hi rfl Tryd.underlying9 rfl rfl (by omega)) ?_
    refine E2 (wanted_yesB rfl rfl rfl h32) (c_call rfl rfl rfl Tryd.func25 (by kernel_rfl) rfl (num_any ((cell + 1 + pickOf bit 23) % 24) w30) rfl ?_)
    rintro _ w33 ⟨rfl, hc34⟩
    have hs35 := hs31.call0 hc34
    refine E2 (wanted_yesB rfl rfl rfl h32) (c_bs3 (v0 := str _) (v1 := str _) (v2 := str _) hs35 rfl rfl Tryd.underlying22 sz9 zr9 rfl rfl rfl rfl rfl rfl (fun b36 w37 hbb36 hs38 => ?_))
    refine E2 (wanted_yesB rfl rfl rfl h32) (c_call rfl rfl rfl Tryd.func24 (by kernel_rfl) rfl (mark_any 103 [key, numOf ((cell + 1 + pickOf bit 23) % 24), ((sealOf key cell text)).drop 16] _ (by rw [mark3_len, numOf_len, List.length_drop]; omega) (by simp) w37 (hr.keep hs38 (by have := hbb36; simp [keys]; omega)) (sl_three (hs38.get 0 rfl) rfl)) rfl ?_)
    rintro _ w39 ⟨rfl, hc40⟩
    have hs41 := hs38.call0 hc40
    refine E0 (wanted_yesB rfl rfl rfl h32) rfl (y_seq rfl rfl rfl) ?_
    refine E0 (wanted_none rfl) rfl (y_pickT rfl rfl h32 rfl) ?_
    refine E0 (wanted_none rfl) rfl (y_assign (v := Value.bool _) rfl rfl) ?_
    refine Enil ?_
    refine W_ret ?_
    refine fin1 (fn := Tryd.f4) rfl rfl ?_
    first | exact ⟨congrArg Value.bool (decide_eq_true rfl), hs41⟩ | exact ⟨congrArg Value.bool (decide_eq_true (sealed_tag v3 (by omega))), hs41.drop (.inl hbb36)⟩
  · skip
    refine W_region ?_
    refine L0 (wanted_none rfl) rfl (y_move (v := Value.string ⟨⟨_⟩⟩) rfl rfl) ?_
    refine L0 (wanted_none rfl) rfl (y_move (v := Value.int _ _) rfl rfl) ?_
    refine L0 (wanted_none rfl) rfl (y_move (v := Value.string ⟨⟨_⟩⟩) rfl rfl) ?_
    refine Lc (wanted_none rfl) (c_call rfl rfl rfl Tryd.func22 (by kernel_rfl) rfl (open_spoilt key (sealOf key cell text) ((cell + 1 + pickOf bit 23) % 24) (by omega) (by omega) v3 w24 (hr.keep hs26 (by simp [keys]))) rfl ?_)
    rintro _ w42 ⟨rfl, hc43⟩
    have hs44 := hs26.call0 hc43
    refine L0 (wanted_none rfl) rfl (y_move (v := Value.tuple ⟨_⟩) rfl rfl) ?_
    refine L0 (wanted_none rfl) rfl (y_extract rfl rfl rfl) ?_
    refine L0 (wanted_none rfl) rfl (y_extract rfl rfl rfl) ?_
    refine L0 (wanted_none rfl) rfl (y_extract rfl rfl rfl) ?_
    refine L0 (wanted_none rfl) rfl (y_assign (v := Value.string ⟨⟨_⟩⟩) rfl rfl) ?_
    refine L0 (wanted_none rfl) rfl (y_assign (v := _) rfl rfl) ?_
    refine Lnil ?_
    refine W_seq ?_
    refine W_seq ?_
    refine W_region ?_
    refine L0 (wanted_none rfl) rfl (y_move (v := _) rfl rfl) ?_
    refine L0 (wanted_none rfl) rfl (y_eqNil rfl Tryd.underlying32 rfl) ?_
    refine Lnil ?_
    refine W_condF rfl rfl ?_
    refine W_skip ?_
    refine W_seq ?_
    refine W_region ?_
    refine L0 (wanted_none rfl) rfl (y_move (v := _) rfl rfl) ?_
    refine Lc (wanted_none rfl) (c_call rfl rfl rfl Tryd.func16 (by kernel_rfl) rfl (tell_errno 15 w42 (he.keep hs44 (by simp [keys]))) rfl ?_)
    rintro _ w45 ⟨rfl, hc46⟩
    have hs47 := hs44.call0 hc46
    refine L0 (wanted_none rfl) rfl (y_eq rfl rfl rfl) ?_
    refine L0 (wanted_none rfl) rfl (y_move (v := Value.bool _) rfl rfl) ?_
    refine Lkn (t := 124) (b0 := true) rfl (by exact decide_eq_true rfl) (fun h48 => ?_)
    refine L0 (wanted_yesB rfl rfl rfl h48) rfl (y_move (v := Value.string ⟨⟨_⟩⟩) rfl rfl) ?_
    refine L0 (wanted_yesB rfl rfl rfl h48) rfl (y_seq rfl rfl rfl) ?_
    refine L0 (wanted_none rfl) rfl (y_pickT rfl rfl h48 rfl) ?_
    refine L0 (wanted_none rfl) rfl (y_assign (v := Value.bool _) rfl rfl) ?_
    refine Lnil ?_
    refine W_ret ?_
    refine fin1 (fn := Tryd.f4) rfl rfl ?_
    first | exact ⟨congrArg Value.bool (decide_eq_true rfl), hs47⟩ | exact ⟨congrArg Value.bool (decide_eq_true (sealed_tag v3 (by omega))), hs47.drop (.inl hbNOBLOCK)⟩
theorem sback_3 (key text : List UInt8) (cell what bit : Int) (l1 : key.length ≤ 40) (l2 : text.length ≤ 120) (v : okSeal key cell text) (hw : 3 ≤ pickOf what 4) (w : World) (hr : RoundsAt w) (he : ErrAt w) :
    C Tryd.prog 4 ⟨[str key, iv cell, str text, iv what, iv bit]⟩ w fun v w' => v = .bool true ∧ St w [] w' := by
  have lso := sealOf_len (key := key) (cell := cell) v.2
  have hto := seal_text key cell text (List.replicate 19 0) v.2
  have hk := v.1.1
  have hrl := hr.1
  have hc0 := v.1.2.1
  have hc1 := v.1.2.2
  have hne : sealOf key cell text ≠ [] := fun h => by rw [h] at lso; exact absurd lso (by decide)
  have hke : key ≠ [] := fun h => by rw [h] at hk; exact absurd hk (by decide)
  have hp23 := pickOf_range (a := bit) (n := 23) (by omega)
  have hpl := pickOf_range (a := bit) (n := ((sealOf key cell text).length : Int)) (by omega)
  refine C_enter (n := 128) Tryd.func4 rfl rfl rfl (fun w1 hs1 => ?_)
  refine W_seq ?_
  refine W_region ?_
  refine L0 (wanted_none rfl) rfl (y_assign (v := Value.bool _) rfl rfl) ?_
  refine Lnil ?_
  refine W_seq ?_
  refine W_seq ?_
  refine W_region ?_
  refine L0 (wanted_none rfl) rfl (y_move (v := Value.string ⟨⟨_⟩⟩) rfl rfl) ?_
  refine L0 (wanted_none rfl) rfl (y_len rfl Tryd.underlying9 rfl) ?_
  refine L0 (wanted_none rfl) rfl (y_gt rfl rfl rfl) ?_
  refine L0 (wanted_none rfl) rfl (y_move (v := Value.bool _) rfl rfl) ?_
  refine Lkn (t := 18) (b0 := false) rfl (by first | exact decide_eq_false (by omega) | exact bnF (by omega) | (simp; omega)) (fun h2 => ?_)
  refine L0 (wanted_yesB rfl rfl rfl h2) rfl (y_move (v := Value.string ⟨⟨_⟩⟩) rfl rfl) ?_
  refine L0 (wanted_yesB rfl rfl rfl h2) rfl (y_len rfl Tryd.underlying9 rfl) ?_
  refine L0 (wanted_yesB rfl rfl rfl h2) rfl (y_gt rfl rfl rfl) ?_
  refine L0 (wanted_none rfl) rfl (y_pickF rfl rfl h2 rfl) ?_
  refine Lnil ?_
  refine Wkn (t := 22) (b0 := false) rfl (by first | exact decide_eq_false (by omega) | exact bnF (by omega) | (simp; omega)) (fun h3 => ?_)
  refine W_condF rfl h3 ?_
  refine W_skip ?_
  refine W_seq ?_
  refine W_seq ?_
  refine W_region ?_
  refine Lc (wanted_none rfl) (c_call rfl rfl rfl Tryd.func20 (by kernel_rfl) rfl (sealed_any w1 (hr.keep hs1 (by simp [keys]))) rfl ?_)
  rintro _ w4 ⟨rfl, hc5⟩
  have hs6 := hs1.call0 hc5
  refine L0 (wanted_none rfl) rfl (y_not rfl rfl) ?_
  refine Lnil ?_
  refine Wkn (t := 24) (b0 := false) rfl (by rfl) (fun h7 => ?_)
  refine W_condF rfl h7 ?_
  refine W_skip ?_
  refine W_seq ?_
  refine W_region ?_
  refine L0 (wanted_none rfl) rfl (y_move (v := Value.string ⟨⟨_⟩⟩) rfl rfl) ?_
  refine L0 (wanted_none rfl) rfl (y_move (v := Value.int _ _) rfl rfl) ?_
  refine L0 (wanted_none rfl) rfl (y_move (v := Value.string ⟨⟨_⟩⟩) rfl rfl) ?_
  refine Lc (wanted_none rfl) (c_call rfl rfl rfl Tryd.func21 (by kernel_rfl) rfl (seal_any key text cell v.1.1 v.1.2.1 v.1.2.2 v.2 w4 (hr.keep hs6 (by simp [keys]))) rfl ?_)
  rintro _ w8 ⟨rfl, hc9⟩
  have hs10 := hs6.call0 hc9
  refine L0 (wanted_none rfl) rfl (y_move (v := Value.tuple ⟨_⟩) rfl rfl) ?_
  refine L0 (wanted_none rfl) rfl (y_extract rfl rfl rfl) ?_
  refine L0 (wanted_none rfl) rfl (y_extract rfl rfl rfl) ?_
  refine L0 (wanted_none rfl) rfl (y_assign (v := Value.string ⟨⟨_⟩⟩) rfl rfl) ?_
  refine L0 (wanted_none rfl) rfl (y_assign (v := _) rfl rfl) ?_
  refine Lnil ?_
  refine W_seq ?_
  refine W_seq ?_
  refine W_region ?_
  refine L0 (wanted_none rfl) rfl (y_move (v := _) rfl rfl) ?_
  refine L0 (wanted_none rfl) rfl (y_neNilNil rfl Tryd.underlying32 rfl) ?_
  refine Lnil ?_
  refine W_condF rfl rfl ?_
  refine W_skip ?_
  refine W_seq ?_
  refine W_region ?_
  refine L0 (wanted_none rfl) rfl (y_move (v := Value.string ⟨⟨_⟩⟩) rfl rfl) ?_
  refine L0 (wanted_none rfl) rfl (y_move (v := Value.int _ _) rfl rfl) ?_
  refine L0 (wanted_none rfl) rfl (y_move (v := Value.string ⟨⟨_⟩⟩) rfl rfl) ?_
  refine L0 (wanted_none rfl) rfl (y_move (v := Value.string ⟨⟨_⟩⟩) rfl rfl) ?_
  refine L0 (wanted_none rfl) rfl (y_len rfl Tryd.underlying9 rfl) ?_
  refine L0 (wanted_none rfl) rfl (y_sub64 rfl rfl rfl (by omega)) ?_
  refine Lc (wanted_none rfl) (c_call rfl rfl rfl Tryd.func17 (by kernel_rfl) rfl (repeat_int 0 _ 19 (by omega) (by decide) w8) rfl ?_)
  rintro _ w11 ⟨rfl, hc12⟩
  have hs13 := hs10.call0 hc12
  refine L0 (wanted_none rfl) rfl (y_scat rfl rfl rfl (by rw [List.length_replicate]; omega)) ?_
  refine Lc (wanted_none rfl) (c_call rfl rfl rfl Tryd.func22 (by kernel_rfl) rfl (open_any key (sealOf key cell text ++ List.replicate 19 0) cell v.1.1 (by rw [List.length_append, List.length_replicate]; omega) (seal_sealed key cell text _ v.2) w11 (hr.keep hs13 (by simp [keys]))) rfl ?_)
  rintro _ w14 ⟨rfl, hc15⟩
  have hs16 := hs13.call0 hc15
  refine L0 (wanted_none rfl) rfl (y_move (v := Value.tuple ⟨_⟩) rfl rfl) ?_
  refine L0 (wanted_none rfl) rfl (y_extract rfl rfl rfl) ?_
  refine L0 (wanted_none rfl) rfl (y_extract rfl rfl rfl) ?_
  refine L0 (wanted_none rfl) rfl (y_extract rfl rfl rfl) ?_
  refine L0 (wanted_none rfl) rfl (y_assign (v := Value.string ⟨⟨_⟩⟩) rfl rfl) ?_
  refine L0 (wanted_none rfl) rfl (y_assign (v := Value.string ⟨⟨_⟩⟩) rfl rfl) ?_
  refine L0 (wanted_none rfl) rfl (y_assign (v := _) rfl rfl) ?_
  refine Lnil ?_
  refine W_seq ?_
  refine W_seq ?_
  refine W_region ?_
  refine L0 (wanted_none rfl) rfl (y_move (v := _) rfl rfl) ?_
  refine L0 (wanted_none rfl) rfl (y_neNilNil rfl Tryd.underlying32 rfl) ?_
  refine L0 (wanted_none rfl) rfl (y_move (v := Value.bool _) rfl rfl) ?_
  refine L0 (wanted_yesB rfl rfl rfl rfl) rfl (y_move (v := Value.string ⟨⟨_⟩⟩) rfl rfl) ?_
  refine L0 (wanted_yesB rfl rfl rfl rfl) rfl (y_move (v := Value.string ⟨⟨_⟩⟩) rfl rfl) ?_
  refine L0 (wanted_yesB rfl rfl rfl rfl) rfl (y_sne rfl rfl rfl) ?_
  refine L0 (wanted_none rfl) rfl (y_pickF rfl rfl (rfl : false = false) rfl) ?_
  refine Lnil ?_
  refine Wkn (t := 69) (b0 := false) rfl (by exact bnF hto) (fun h17 => ?_)
  refine W_condF rfl h17 ?_
  refine W_skip ?_
  refine W_seq ?_
  refine W_seq ?_
  refine W_region ?_
  refine L0 (wanted_none rfl) rfl (y_move (v := Value.int _ _) rfl rfl) ?_
  refine Lc (wanted_none rfl) (c_call rfl rfl rfl Tryd.func14 (by kernel_rfl) rfl (pick_any what 4 (by omega) (by omega) w14) rfl ?_)
  rintro _ w18 ⟨rfl, hc19⟩
  have hs20 := hs16.call0 hc19
  refine Lnil ?_
  refine W_block ?_
  refine W_seq ?_
  refine W_region ?_
  refine L0 (wanted_none rfl) rfl (y_eq rfl rfl rfl) ?_
  refine L0 (wanted_none rfl) rfl (y_assign (v := Value.bool _) rfl rfl) ?_
  refine Lnil ?_
  refine Wkn (t := 78) (b0 := false) rfl (by first | exact decide_eq_false (by omega) | exact bnF (by omega) | (simp; omega)) (fun h21 => ?_)
  refine W_condF rfl h21 ?_
  refine W_seq ?_
  refine W_region ?_
  refine L0 (wanted_none rfl) rfl (y_eq rfl rfl rfl) ?_
  refine L0 (wanted_none rfl) rfl (y_assign (v := Value.bool _) rfl rfl) ?_
  refine Lnil ?_
  refine Wkn (t := 83) (b0 := false) rfl (by first | exact decide_eq_false (by omega) | exact bnF (by omega) | (simp; omega)) (fun h22 => ?_)
  refine W_condF rfl h22 ?_
  refine W_seq ?_
  refine W_region ?_
  refine L0 (wanted_none rfl) rfl (y_eq rfl rfl rfl) ?_
  refine L0 (wanted_none rfl) rfl (y_assign (v := Value.bool _) rfl rfl) ?_
  refine Lnil ?_
  refine Wkn (t := 88) (b0 := false) rfl (by first | exact decide_eq_false (by omega) | exact bnF (by omega) | (simp; omega)) (fun h23 => ?_)
  refine W_condF rfl h23 ?_
  refine W_region ?_
  refine L0 (wanted_none rfl) rfl (y_move (v := Value.string ⟨⟨_⟩⟩) rfl rfl) ?_
  refine L0 (wanted_none rfl) rfl (y_move (v := Value.int _ _) rfl rfl) ?_
  refine L0 (wanted_none rfl) rfl (y_move (v := Value.string ⟨⟨_⟩⟩) rfl rfl) ?_
  refine L0 (wanted_none rfl) rfl (y_len rfl Tryd.underlying9 rfl) ?_
  refine Lc (wanted_none rfl) (c_call rfl rfl rfl Tryd.func14 (by kernel_rfl) rfl (pick_any bit _ (by omega) (by omega) w18) rfl ?_)
  rintro _ w24 ⟨rfl, hc25⟩
  have hs26 := hs20.call0 hc25
  refine L0 (wanted_none rfl) rfl (y_sslice_hi rfl Tryd.underlying9 rfl rfl (by omega)) ?_
  refine L0 (wanted_none rfl) rfl (y_assign (v := Value.string ⟨⟨_⟩⟩) rfl rfl) ?_
  refine Lnil ?_
  refine W_seq ?_
  refine W_region ?_
  refine L0 (wanted_none rfl) rfl (y_move (v := Value.string ⟨⟨_⟩⟩) rfl rfl) ?_
  refine L0 (wanted_none rfl) rfl (y_move (v := Value.int _ _) rfl rfl) ?_
  refine L0 (wanted_none rfl) rfl (y_move (v := Value.string ⟨⟨_⟩⟩) rfl rfl) ?_
  refine Lc (wanted_none rfl) (c_call rfl rfl rfl Tryd.func22 (by kernel_rfl) rfl (open_spoilt key ((sealOf key cell text).take (pickOf bit (sealOf key cell text).length).toNat) cell (by omega) (by rw [List.length_take]; omega) (fun hh => by have h1 := hh.1; rw [List.length_take] at h1; omega) w24 (hr.keep hs26 (by simp [keys]))) rfl ?_)
  rintro _ w27 ⟨rfl, hc28⟩
  have hs29 := hs26.call0 hc28
  refine L0 (wanted_none rfl) rfl (y_move (v := Value.tuple ⟨_⟩) rfl rfl) ?_
  refine L0 (wanted_none rfl) rfl (y_extract rfl rfl rfl) ?_
  refine L0 (wanted_none rfl) rfl (y_extract rfl rfl rfl) ?_
  refine L0 (wanted_none rfl) rfl (y_extract rfl rfl rfl) ?_
  refine L0 (wanted_none rfl) rfl (y_assign (v := Value.string ⟨⟨_⟩⟩) rfl rfl) ?_
  refine L0 (wanted_none rfl) rfl (y_assign (v := _) rfl rfl) ?_
  refine Lnil ?_
  refine W_seq ?_
  refine W_seq ?_
  refine W_region ?_
  refine L0 (wanted_none rfl) rfl (y_move (v := _) rfl rfl) ?_
  refine L0 (wanted_none rfl) rfl (y_eqNil rfl Tryd.underlying32 rfl) ?_
  refine Lnil ?_
  refine W_condF rfl rfl ?_
  refine W_skip ?_
  refine W_seq ?_
  refine W_region ?_
  refine L0 (wanted_none rfl) rfl (y_move (v := _) rfl rfl) ?_
  refine Lc (wanted_none rfl) (c_call rfl rfl rfl Tryd.func16 (by kernel_rfl) rfl (tell_errno 15 w27 (he.keep hs29 (by simp [keys]))) rfl ?_)
  rintro _ w30 ⟨rfl, hc31⟩
  have hs32 := hs29.call0 hc31
  refine L0 (wanted_none rfl) rfl (y_eq rfl rfl rfl) ?_
  refine L0 (wanted_none rfl) rfl (y_move (v := Value.bool _) rfl rfl) ?_
  refine Lkn (t := 124) (b0 := true) rfl (by exact decide_eq_true rfl) (fun h33 => ?_)
  refine L0 (wanted_yesB rfl rfl rfl h33) rfl (y_move (v := Value.string ⟨⟨_⟩⟩) rfl rfl) ?_
  refine L0 (wanted_yesB rfl rfl rfl h33) rfl (y_seq rfl rfl rfl) ?_
  refine L0 (wanted_none rfl) rfl (y_pickT rfl rfl h33 rfl) ?_
  refine L0 (wanted_none rfl) rfl (y_assign (v := Value.bool _) rfl rfl) ?_
  refine Lnil ?_
  refine W_ret ?_
  refine fin1 (fn := Tryd.f4) rfl rfl ?_
  exact ⟨congrArg Value.bool (decide_eq_true rfl), hs32⟩
theorem sback_any (key text : List UInt8) (cell what bit : Int) (w : World) (hr : RoundsAt w) (he : ErrAt w) :
    C Tryd.prog 4 ⟨[str key, iv cell, str text, iv what, iv bit]⟩ w fun v w' => v = .bool true ∧ St w [] w' := by
  by_cases hl : 40 < key.length ∨ 120 < text.length
  · exact sback_long key text cell what bit hl w
  · have l1 : key.length ≤ 40 := by omega
    have l2 : text.length ≤ 120 := by omega
    by_cases v : okSeal key cell text
    · have hp := pickOf_range (a := what) (n := 4) (by omega)
      by_cases h0 : pickOf what 4 = 0
      · exact sback_0 key text cell what bit l1 l2 v h0 w hr he
      · by_cases h1 : pickOf what 4 = 1
        · exact sback_1 key text cell what bit l1 l2 v h1 w hr he
        · by_cases h2 : pickOf what 4 = 2
          · exact sback_2 key text cell what bit l1 l2 v h2 w hr he
          · exact sback_3 key text cell what bit l1 l2 v (by omega) w hr he
    · exact sback_bad key text cell what bit l1 l2 v w hr
end Go.Proofs.YtkolfgmpmnelmabDoor
