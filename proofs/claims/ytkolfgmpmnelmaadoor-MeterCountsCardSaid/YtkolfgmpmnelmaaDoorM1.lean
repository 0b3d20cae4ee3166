/-
  Walks: meter.uses, meter.Key.
-/
import Derived.Test.YtkolfgmpmnelmaaDoorE2
import Derived.Test.YtkolfgmpmnelmaaDoorVo
import Derived.Test.YtkolfgmpmnelmaaDoorH6
namespace Go.Proofs.YtkolfgmpmnelmaaDoor
open Go Vx Go.Proofs
set_option linter.unusedVariables false
set_option maxRecDepth 4000
set_option maxHeartbeats 400000

def blocksW : List UInt8 := [98, 108, 111, 99, 107, 115]
def tablesW : List UInt8 := [116, 97, 98, 108, 101, 115]
def usesE : Array MapEntry := (#[].push { key := .int .u8 98, val := .agg ⟨[str blocksW]⟩, born := 0 }).push { key := .int .u8 116, val := .agg ⟨[str tablesW]⟩, born := 1 }
theorem uses_any (w : World) : C Tryd.prog 46 ⟨[]⟩ w fun v w' => ∃ g, v = .map (some g) ∧ w.heap.size ≤ g ∧ St w [(g, .map usesE 2)] w' := by
  refine C_enter (n := 5) Tryd.func46 rfl rfl rfl (fun w1 hs1 => ?_)
  refine W_seq ?_
  refine W_region ?_
  refine L0 (wanted_none rfl) rfl (y_assign (v := Value.map _) rfl rfl) ?_
  refine Lnil ?_
  refine W_seq ?_
  refine W_region ?_
  refine Lc (wanted_none rfl) (c_makeMap hs1 rfl rfl (fun b2 w3 hbb2 hs4 => ?_))
  refine L0 (wanted_none rfl) rfl (y_buildS1 (v0 := str blocksW) rfl Tryd.underlying80 rfl rfl sz9 zr80 rfl rfl) ?_
  refine Lc (wanted_none rfl) (c_insert (i := 0) hs4 rfl rfl rfl rfl rfl Tryd.underlying82 Tryd.underlying5 rfl (rfl) (fun w5 hs6 => ?_))
  refine L0 (wanted_none rfl) rfl (y_buildS1 (v0 := str tablesW) rfl Tryd.underlying80 rfl rfl sz9 zr80 rfl rfl) ?_
  refine Lc (wanted_none rfl) (c_insert (i := 0) hs6 rfl rfl rfl rfl rfl Tryd.underlying82 Tryd.underlying5 rfl (rfl) (fun w7 hs8 => ?_))
  refine L0 (wanted_none rfl) rfl (y_move (v := Value.map _) rfl rfl) ?_
  refine L0 (wanted_none rfl) rfl (y_assign (v := Value.map _) rfl rfl) ?_
  refine Lnil ?_
  refine W_ret ?_
  refine fin1 (fn := Tryd.f46) rfl rfl ?_
  exact ⟨_, rfl, hbb2, hs8⟩
def keyOf (secret : List UInt8) (word : List UInt8) : List UInt8 := shaOf (markOf 107 [secret, word])
theorem sl_two {w : World} {b : Nat} {p q : List UInt8} {T : TypeId} {fz : Nat × Nat} (h : w.heap[b]? = some (.cells ⟨[str p, str q]⟩ T fz)) : Sl w (.slice (some ⟨b, 0, none⟩) 2 2) [p, q].length (strs [p, q]) :=
  Sl.of (fun j hj => by
    have hj' : j = 0 ∨ j = 1 := by have h2 : j < 2 := hj; omega
    rw [cell_of_has h]
    rcases hj' with rfl | rfl <;> rfl)
theorem markOf_len (k : UInt8) (l : List (List UInt8)) : (markOf k l).length = 16 := by rw [markOf, List.length_take, shaOf_len]; rfl
theorem key_ok (secret word : List UInt8) (c : UInt8) (j : Nat) (hl : secret.length = 16) (hwl : word.length = 6) (hf : Instr.findNow (.int .u8) (.int .u8 (c.toNat : Int)) usesE.toList 0 = some (some (j, .agg ⟨[str word]⟩))) (w : World) (hr : RoundsAt w) :
    C Tryd.prog 26 ⟨[str secret, bv c]⟩ w fun v w' => v = .tuple #[str (keyOf secret word), .nilIface] ∧ St w [] w' := by
  refine C_enter (n := 29) Tryd.func26 rfl rfl rfl (fun w1 hs1 => ?_)
  refine W_seq ?_
  refine W_region ?_
  refine L0 (wanted_none rfl) rfl (y_assign (v := Value.string ⟨⟨_⟩⟩) rfl rfl) ?_
  refine L0 (wanted_none rfl) rfl (y_assign (v := Value.nilIface) rfl rfl) ?_
  refine Lnil ?_
  refine W_seq ?_
  refine W_region ?_
  refine Lc (wanted_none rfl) (c_call rfl rfl rfl Tryd.func46 (by kernel_rfl) rfl (uses_any w1) rfl ?_)
  rintro _ w2 ⟨gm, rfl, hgm, hc3⟩
  have hgm0 : w.heap.size ≤ gm := Nat.le_trans hs1.size hgm
  have hs4 := hs1.call_new hc3 (by intro b hb; simp [keys] at hb; omega)
  refine L0 (wanted_none rfl) rfl (y_move (v := Value.int _ _) rfl rfl) ?_
  refine L1 (wanted_none rfl) rfl hs4 (y_lookup (i := 0) rfl Tryd.underlying82 Tryd.underlying5 rfl rfl rfl (hf)) ?_
  refine L0 (wanted_none rfl) rfl (y_move (v := Value.tuple ⟨_⟩) rfl rfl) ?_
  refine L0 (wanted_none rfl) rfl (y_extract rfl rfl rfl) ?_
  refine L0 (wanted_none rfl) rfl (y_extract rfl rfl rfl) ?_
  refine Lc (wanted_none rfl) (c_alloc hs4 rfl rfl zr80 (fun b5 w6 hbb5 hs7 => ?_))
  refine Lc (wanted_none rfl) (c_storeN (i := 0) hs7 rfl rfl rfl rfl sz80 (by rfl) (by simp [Value.oneCell']) rfl (by decide) (Fz.zero _) (fun w8 hs9 => ?_))
  change St w [(_, .cells ⟨[str word]⟩ 80 (0, 0)), (gm, _)] _ at hs9
  refine L0 (wanted_none rfl) rfl (y_assign (v := Value.bool _) rfl rfl) ?_
  refine Lnil ?_
  refine W_seq ?_
  refine W_block ?_
  refine W_seq ?_
  refine W_region ?_
  refine L0 (wanted_none rfl) rfl (y_move (v := Value.string ⟨⟨_⟩⟩) rfl rfl) ?_
  refine L0 (wanted_none rfl) rfl (y_len rfl Tryd.underlying9 rfl) ?_
  refine L0 (wanted_none rfl) rfl (y_ne rfl rfl rfl) ?_
  refine L0 (wanted_none rfl) rfl (y_assign (v := Value.bool _) rfl rfl) ?_
  refine Lnil ?_
  refine Wkn (t := 14) (b0 := false) rfl (by first | exact decide_eq_false (by omega) | exact bnF (by omega) | (simp; omega)) (fun h10 => ?_)
  refine W_condF rfl h10 ?_
  refine W_seq ?_
  refine W_region ?_
  refine L0 (wanted_none rfl) rfl (y_move (v := Value.bool _) rfl rfl) ?_
  refine L0 (wanted_none rfl) rfl (y_not rfl rfl) ?_
  refine L0 (wanted_none rfl) rfl (y_assign (v := Value.bool _) rfl rfl) ?_
  refine Lnil ?_
  refine Wkn (t := 19) (b0 := false) rfl (by rfl) (fun h11 => ?_)
  refine W_condF rfl h11 ?_
  refine W_skip ?_
  refine W_seq ?_
  refine W_region ?_
  refine L0 (wanted_none rfl) rfl (y_move (v := Value.string ⟨⟨_⟩⟩) rfl rfl) ?_
  refine L0 (wanted_none rfl) rfl (y_fieldAddr rfl Tryd.underlying80 rfl sz9 rfl) ?_
  refine L1 (wanted_none rfl) rfl hs9 (y_load 0 rfl Tryd.underlying9 rfl rfl rfl rfl) ?_
  refine Lc (wanted_none rfl) (c_bs2 (v0 := str _) (v1 := str _) hs9 rfl rfl Tryd.underlying22 sz9 zr9 rfl rfl rfl rfl (fun b12 w13 hbb12 hs14 => ?_))
  refine Lc (wanted_none rfl) (c_call rfl rfl rfl Tryd.func15 (by kernel_rfl) rfl (mark_any 107 [secret, word] _ (by rw [markS_body, List.length_append]; simp only [body, List.length_append, numOf_len, List.length_cons, List.length_nil]; omega) (by simp) w13 (hr.keep hs14 (by have := hbb12; have := hbb5; have := hr.1; simp [keys]; omega)) (sl_two (hs14.get 0 rfl))) rfl ?_)
  rintro _ w15 ⟨rfl, hc16⟩
  have hs17 := hs14.call0 hc16
  refine Lc (wanted_none rfl) (c_call rfl rfl rfl Tryd.func14 (by kernel_rfl) rfl (sum_any _ (by rw [markOf_len]; decide) w15 (hr.keep hs17 (by have := hbb12; have := hbb5; have := hr.1; simp [keys]; omega))) rfl ?_)
  rintro _ w18 ⟨rfl, hc19⟩
  have hs20 := hs17.call0 hc19
  refine L0 (wanted_none rfl) rfl (y_assign (v := Value.string ⟨⟨_⟩⟩) rfl rfl) ?_
  refine L0 (wanted_none rfl) rfl (y_assign (v := Value.nilIface) rfl rfl) ?_
  refine Lnil ?_
  refine W_ret ?_
  refine fin2 (fn := Tryd.f26) rfl rfl rfl ?_
  exact ⟨rfl, ((hs20.drop (.inl hbb12)).drop (.inl hbb5)).drop (.inl hgm0)⟩
theorem key_lenT (secret word : List UInt8) (c : UInt8) (j : Nat) (hl : secret.length ≠ 16) (hf : Instr.findNow (.int .u8) (.int .u8 (c.toNat : Int)) usesE.toList 0 = some (some (j, .agg ⟨[str word]⟩))) (w : World) :
    C Tryd.prog 26 ⟨[str secret, bv c]⟩ w fun v w' => v = .tuple #[str [], errno 1] ∧ St w [] w' := by
  refine C_enter (n := 29) Tryd.func26 rfl rfl rfl (fun w1 hs1 => ?_)
  refine W_seq ?_
  refine W_region ?_
  refine L0 (wanted_none rfl) rfl (y_assign (v := Value.string ⟨⟨_⟩⟩) rfl rfl) ?_
  refine L0 (wanted_none rfl) rfl (y_assign (v := Value.nilIface) rfl rfl) ?_
  refine Lnil ?_
  refine W_seq ?_
  refine W_region ?_
  refine Lc (wanted_none rfl) (c_call rfl rfl rfl Tryd.func46 (by kernel_rfl) rfl (uses_any w1) rfl ?_)
  rintro _ w2 ⟨gm, rfl, hgm, hc3⟩
  have hgm0 : w.heap.size ≤ gm := Nat.le_trans hs1.size hgm
  have hs4 := hs1.call_new hc3 (by intro b hb; simp [keys] at hb; omega)
  refine L0 (wanted_none rfl) rfl (y_move (v := Value.int _ _) rfl rfl) ?_
  refine L1 (wanted_none rfl) rfl hs4 (y_lookup (i := 0) rfl Tryd.underlying82 Tryd.underlying5 rfl rfl rfl (hf)) ?_
  refine L0 (wanted_none rfl) rfl (y_move (v := Value.tuple ⟨_⟩) rfl rfl) ?_
  refine L0 (wanted_none rfl) rfl (y_extract rfl rfl rfl) ?_
  refine L0 (wanted_none rfl) rfl (y_extract rfl rfl rfl) ?_
  refine Lc (wanted_none rfl) (c_alloc hs4 rfl rfl zr80 (fun b5 w6 hbb5 hs7 => ?_))
  refine Lc (wanted_none rfl) (c_storeN (i := 0) hs7 rfl rfl rfl rfl sz80 (by rfl) (by simp [Value.oneCell']) rfl (by decide) (Fz.zero _) (fun w8 hs9 => ?_))
  change St w [(_, .cells ⟨[str word]⟩ 80 (0, 0)), (gm, _)] _ at hs9
  refine L0 (wanted_none rfl) rfl (y_assign (v := Value.bool _) rfl rfl) ?_
  refine Lnil ?_
  refine W_seq ?_
  refine W_block ?_
  refine W_seq ?_
  refine W_region ?_
  refine L0 (wanted_none rfl) rfl (y_move (v := Value.string ⟨⟨_⟩⟩) rfl rfl) ?_
  refine L0 (wanted_none rfl) rfl (y_len rfl Tryd.underlying9 rfl) ?_
  refine L0 (wanted_none rfl) rfl (y_ne rfl rfl rfl) ?_
  refine L0 (wanted_none rfl) rfl (y_assign (v := Value.bool _) rfl rfl) ?_
  refine Lnil ?_
  refine Wkn (t := 14) (b0 := true) rfl (by first | exact decide_eq_true (by omega) | exact bnT (by omega) | (simp; omega)) (fun h10 => ?_)
  refine W_condT rfl h10 ?_
  refine W_seq ?_
  refine W_region ?_
  refine L0 (wanted_none rfl) rfl (y_mkif rfl Tryd.underlying31 rfl rfl) ?_
  refine L0 (wanted_none rfl) rfl (y_assign (v := Value.string ⟨⟨_⟩⟩) rfl rfl) ?_
  refine L0 (wanted_none rfl) rfl (y_assign (v := Value.iface _ _) rfl rfl) ?_
  refine Lnil ?_
  refine W_ret ?_
  refine fin2 (fn := Tryd.f26) rfl rfl rfl ?_
  exact ⟨rfl, (hs9.drop (.inl hbb5)).drop (.inl hgm0)⟩
theorem key_lenF (secret : List UInt8) (c : UInt8) (hl : secret.length ≠ 16) (hf : Instr.findNow (.int .u8) (.int .u8 (c.toNat : Int)) usesE.toList 0 = some none) (w : World) :
    C Tryd.prog 26 ⟨[str secret, bv c]⟩ w fun v w' => v = .tuple #[str [], errno 1] ∧ St w [] w' := by
  refine C_enter (n := 29) Tryd.func26 rfl rfl rfl (fun w1 hs1 => ?_)
  refine W_seq ?_
  refine W_region ?_
  refine L0 (wanted_none rfl) rfl (y_assign (v := Value.string ⟨⟨_⟩⟩) rfl rfl) ?_
  refine L0 (wanted_none rfl) rfl (y_assign (v := Value.nilIface) rfl rfl) ?_
  refine Lnil ?_
  refine W_seq ?_
  refine W_region ?_
  refine Lc (wanted_none rfl) (c_call rfl rfl rfl Tryd.func46 (by kernel_rfl) rfl (uses_any w1) rfl ?_)
  rintro _ w2 ⟨gm, rfl, hgm, hc3⟩
  have hgm0 : w.heap.size ≤ gm := Nat.le_trans hs1.size hgm
  have hs4 := hs1.call_new hc3 (by intro b hb; simp [keys] at hb; omega)
  refine L0 (wanted_none rfl) rfl (y_move (v := Value.int _ _) rfl rfl) ?_
  refine L1 (wanted_none rfl) rfl hs4 (y_lookupNo (i := 0) rfl Tryd.underlying82 Tryd.underlying5 zr80 rfl rfl rfl (hf)) ?_
  refine L0 (wanted_none rfl) rfl (y_move (v := Value.tuple ⟨_⟩) rfl rfl) ?_
  refine L0 (wanted_none rfl) rfl (y_extract rfl rfl rfl) ?_
  refine L0 (wanted_none rfl) rfl (y_extract rfl rfl rfl) ?_
  refine Lc (wanted_none rfl) (c_alloc hs4 rfl rfl zr80 (fun b5 w6 hbb5 hs7 => ?_))
  refine Lc (wanted_none rfl) (c_storeN (i := 0) hs7 rfl rfl rfl rfl sz80 (by rfl) (by simp [Value.oneCell']) rfl (by decide) (Fz.zero _) (fun w8 hs9 => ?_))
  change St w [(_, .cells ⟨[str []]⟩ 80 (0, 0)), (gm, _)] _ at hs9
  refine L0 (wanted_none rfl) rfl (y_assign (v := Value.bool _) rfl rfl) ?_
  refine Lnil ?_
  refine W_seq ?_
  refine W_block ?_
  refine W_seq ?_
  refine W_region ?_
  refine L0 (wanted_none rfl) rfl (y_move (v := Value.string ⟨⟨_⟩⟩) rfl rfl) ?_
  refine L0 (wanted_none rfl) rfl (y_len rfl Tryd.underlying9 rfl) ?_
  refine L0 (wanted_none rfl) rfl (y_ne rfl rfl rfl) ?_
  refine L0 (wanted_none rfl) rfl (y_assign (v := Value.bool _) rfl rfl) ?_
  refine Lnil ?_
  refine Wkn (t := 14) (b0 := true) rfl (by first | exact decide_eq_true (by omega) | exact bnT (by omega) | (simp; omega)) (fun h10 => ?_)
  refine W_condT rfl h10 ?_
  refine W_seq ?_
  refine W_region ?_
  refine L0 (wanted_none rfl) rfl (y_mkif rfl Tryd.underlying31 rfl rfl) ?_
  refine L0 (wanted_none rfl) rfl (y_assign (v := Value.string ⟨⟨_⟩⟩) rfl rfl) ?_
  refine L0 (wanted_none rfl) rfl (y_assign (v := Value.iface _ _) rfl rfl) ?_
  refine Lnil ?_
  refine W_ret ?_
  refine fin2 (fn := Tryd.f26) rfl rfl rfl ?_
  exact ⟨rfl, (hs9.drop (.inl hbb5)).drop (.inl hgm0)⟩
theorem key_no (secret : List UInt8) (c : UInt8) (hl : secret.length = 16) (hf : Instr.findNow (.int .u8) (.int .u8 (c.toNat : Int)) usesE.toList 0 = some none) (w : World) :
    C Tryd.prog 26 ⟨[str secret, bv c]⟩ w fun v w' => v = .tuple #[str [], errno 8] ∧ St w [] w' := by
  refine C_enter (n := 29) Tryd.func26 rfl rfl rfl (fun w1 hs1 => ?_)
  refine W_seq ?_
  refine W_region ?_
  refine L0 (wanted_none rfl) rfl (y_assign (v := Value.string ⟨⟨_⟩⟩) rfl rfl) ?_
  refine L0 (wanted_none rfl) rfl (y_assign (v := Value.nilIface) rfl rfl) ?_
  refine Lnil ?_
  refine W_seq ?_
  refine W_region ?_
  refine Lc (wanted_none rfl) (c_call rfl rfl rfl Tryd.func46 (by kernel_rfl) rfl (uses_any w1) rfl ?_)
  rintro _ w2 ⟨gm, rfl, hgm, hc3⟩
  have hgm0 : w.heap.size ≤ gm := Nat.le_trans hs1.size hgm
  have hs4 := hs1.call_new hc3 (by intro b hb; simp [keys] at hb; omega)
  refine L0 (wanted_none rfl) rfl (y_move (v := Value.int _ _) rfl rfl) ?_
  refine L1 (wanted_none rfl) rfl hs4 (y_lookupNo (i := 0) rfl Tryd.underlying82 Tryd.underlying5 zr80 rfl rfl rfl (hf)) ?_
  refine L0 (wanted_none rfl) rfl (y_move (v := Value.tuple ⟨_⟩) rfl rfl) ?_
  refine L0 (wanted_none rfl) rfl (y_extract rfl rfl rfl) ?_
  refine L0 (wanted_none rfl) rfl (y_extract rfl rfl rfl) ?_
  refine Lc (wanted_none rfl) (c_alloc hs4 rfl rfl zr80 (fun b5 w6 hbb5 hs7 => ?_))
  refine Lc (wanted_none rfl) (c_storeN (i := 0) hs7 rfl rfl rfl rfl sz80 (by rfl) (by simp [Value.oneCell']) rfl (by decide) (Fz.zero _) (fun w8 hs9 => ?_))
  change St w [(_, .cells ⟨[str []]⟩ 80 (0, 0)), (gm, _)] _ at hs9
  refine L0 (wanted_none rfl) rfl (y_assign (v := Value.bool _) rfl rfl) ?_
  refine Lnil ?_
  refine W_seq ?_
  refine W_block ?_
  refine W_seq ?_
  refine W_region ?_
  refine L0 (wanted_none rfl) rfl (y_move (v := Value.string ⟨⟨_⟩⟩) rfl rfl) ?_
  refine L0 (wanted_none rfl) rfl (y_len rfl Tryd.underlying9 rfl) ?_
  refine L0 (wanted_none rfl) rfl (y_ne rfl rfl rfl) ?_
  refine L0 (wanted_none rfl) rfl (y_assign (v := Value.bool _) rfl rfl) ?_
  refine Lnil ?_
  refine Wkn (t := 14) (b0 := false) rfl (by first | exact decide_eq_false (by omega) | exact bnF (by omega) | (simp; omega)) (fun h10 => ?_)
  refine W_condF rfl h10 ?_
  refine W_seq ?_
  refine W_region ?_
  refine L0 (wanted_none rfl) rfl (y_move (v := Value.bool _) rfl rfl) ?_
  refine L0 (wanted_none rfl) rfl (y_not rfl rfl) ?_
  refine L0 (wanted_none rfl) rfl (y_assign (v := Value.bool _) rfl rfl) ?_
  refine Lnil ?_
  refine Wkn (t := 19) (b0 := true) rfl (by rfl) (fun h11 => ?_)
  refine W_condT rfl h11 ?_
  refine W_seq ?_
  refine W_region ?_
  refine L0 (wanted_none rfl) rfl (y_mkif rfl Tryd.underlying31 rfl rfl) ?_
  refine L0 (wanted_none rfl) rfl (y_assign (v := Value.string ⟨⟨_⟩⟩) rfl rfl) ?_
  refine L0 (wanted_none rfl) rfl (y_assign (v := Value.iface _ _) rfl rfl) ?_
  refine Lnil ?_
  refine W_ret ?_
  refine fin2 (fn := Tryd.f26) rfl rfl rfl ?_
  exact ⟨rfl, (hs9.drop (.inl hbb5)).drop (.inl hgm0)⟩
theorem uses_b : Instr.findNow (.int .u8) (.int .u8 (((98 : UInt8)).toNat : Int)) usesE.toList 0 = some (some (0, .agg ⟨[str blocksW]⟩)) := by rfl
theorem uses_t : Instr.findNow (.int .u8) (.int .u8 (((116 : UInt8)).toNat : Int)) usesE.toList 0 = some (some (1, .agg ⟨[str tablesW]⟩)) := by rfl
theorem uses_no {c : UInt8} (h1 : c ≠ 98) (h2 : c ≠ 116) : Instr.findNow (.int .u8) (.int .u8 (c.toNat : Int)) usesE.toList 0 = some none := by
  have e1 : ((c.toNat : Int) == 98) = false := by
    rw [beq_eq_false_iff_ne]; intro h; apply h1; apply UInt8.toNat_inj.1
    show c.toNat = 98
    omega
  have e2 : ((c.toNat : Int) == 116) = false := by
    rw [beq_eq_false_iff_ne]; intro h; apply h2; apply UInt8.toNat_inj.1
    show c.toNat = 116
    omega
  simp [usesE, Instr.findNow, Instr.sameNow, e1, e2]
/-! Counter -/
theorem raise_no (b : Nat) (c n : Int) (h : n ≤ c) (w : World) (hw : w.heap[b]? = some (.cells #[iv c] 44 (0, 0))) :
    C Tryd.prog 23 ⟨[pv b 0, iv n]⟩ w fun v w' => v = errno 10 ∧ St w [(b, .cells #[iv c] 44 (0, 0))] w' := by
  refine C_enter (n := 16) Tryd.func23 rfl rfl rfl (fun w1 hs1 => ?_)
  have hs2 := hs1.borrow hw (by simp [keys])
  refine W_seq ?_
  refine W_region ?_
  refine L0 (wanted_none rfl) rfl (y_assign (v := Value.nilIface) rfl rfl) ?_
  refine Lnil ?_
  refine W_seq ?_
  refine W_seq ?_
  refine W_region ?_
  refine L0 (wanted_none rfl) rfl (y_move (v := Value.int _ _) rfl rfl) ?_
  refine L0 (wanted_none rfl) rfl (y_move (v := Value.pointer _) rfl rfl) ?_
  refine L0 (wanted_none rfl) rfl (y_nilCheck rfl rfl) ?_
  refine L0 (wanted_none rfl) rfl (y_fieldAddr rfl Tryd.underlying44 rfl sz3 rfl) ?_
  refine L1 (wanted_none rfl) rfl hs2 (y_load 0 rfl Tryd.underlying3 rfl rfl rfl rfl) ?_
  refine L0 (wanted_none rfl) rfl (y_le rfl rfl rfl) ?_
  refine Lnil ?_
  refine Wkn (t := 10) (b0 := true) rfl (by first | exact decide_eq_true (by omega) | exact bnT (by omega) | (simp; omega)) (fun h2 => ?_)
  refine W_condT rfl h2 ?_
  refine W_seq ?_
  refine W_region ?_
  refine L0 (wanted_none rfl) rfl (y_mkif rfl Tryd.underlying31 rfl rfl) ?_
  refine L0 (wanted_none rfl) rfl (y_assign (v := Value.iface _ _) rfl rfl) ?_
  refine Lnil ?_
  refine W_ret ?_
  refine fin1 (fn := Tryd.f23) rfl rfl ?_
  exact ⟨rfl, hs2⟩
theorem raise_ok (b : Nat) (c n : Int) (h : ¬ n ≤ c) (w : World) (hw : w.heap[b]? = some (.cells #[iv c] 44 (0, 0))) :
    C Tryd.prog 23 ⟨[pv b 0, iv n]⟩ w fun v w' => v = .nilIface ∧ St w [(b, .cells #[iv n] 44 (0, 0))] w' := by
  refine C_enter (n := 16) Tryd.func23 rfl rfl rfl (fun w1 hs1 => ?_)
  have hs2 := hs1.borrow hw (by simp [keys])
  refine W_seq ?_
  refine W_region ?_
  refine L0 (wanted_none rfl) rfl (y_assign (v := Value.nilIface) rfl rfl) ?_
  refine Lnil ?_
  refine W_seq ?_
  refine W_seq ?_
  refine W_region ?_
  refine L0 (wanted_none rfl) rfl (y_move (v := Value.int _ _) rfl rfl) ?_
  refine L0 (wanted_none rfl) rfl (y_move (v := Value.pointer _) rfl rfl) ?_
  refine L0 (wanted_none rfl) rfl (y_nilCheck rfl rfl) ?_
  refine L0 (wanted_none rfl) rfl (y_fieldAddr rfl Tryd.underlying44 rfl sz3 rfl) ?_
  refine L1 (wanted_none rfl) rfl hs2 (y_load 0 rfl Tryd.underlying3 rfl rfl rfl rfl) ?_
  refine L0 (wanted_none rfl) rfl (y_le rfl rfl rfl) ?_
  refine Lnil ?_
  refine Wkn (t := 10) (b0 := false) rfl (by first | exact decide_eq_false (by omega) | exact bnF (by omega) | (simp; omega)) (fun h2 => ?_)
  refine W_condF rfl h2 ?_
  refine W_skip ?_
  refine W_seq ?_
  refine W_region ?_
  refine L0 (wanted_none rfl) rfl (y_move (v := Value.pointer _) rfl rfl) ?_
  refine L0 (wanted_none rfl) rfl (y_move (v := Value.int _ _) rfl rfl) ?_
  refine L0 (wanted_none rfl) rfl (y_nilCheck rfl rfl) ?_
  refine L0 (wanted_none rfl) rfl (y_fieldAddr rfl Tryd.underlying44 rfl sz3 rfl) ?_
  refine Lc (wanted_none rfl) (c_store (i := 0) (v := iv _) hs2 rfl rfl rfl rfl sz3 rfl rfl (by simp) (Fz.zero _) (fun w3 hs4 => ?_))
  refine Lnil ?_
  refine W_seq ?_
  refine W_region ?_
  refine L0 (wanted_none rfl) rfl (y_assign (v := Value.nilIface) rfl rfl) ?_
  refine Lnil ?_
  refine W_ret ?_
  refine fin1 (fn := Tryd.f23) rfl rfl ?_
  exact ⟨rfl, hs4⟩
theorem get_any (b : Nat) (c : Int) (w : World) (hw : w.heap[b]? = some (.cells #[iv c] 44 (0, 0))) :
    C Tryd.prog 25 ⟨[pv b 0]⟩ w fun v w' => v = iv c ∧ St w [(b, .cells #[iv c] 44 (0, 0))] w' := by
  refine C_enter (n := 7) Tryd.func25 rfl rfl rfl (fun w1 hs1 => ?_)
  have hs2 := hs1.borrow hw (by simp [keys])
  refine W_seq ?_
  refine W_region ?_
  refine L0 (wanted_none rfl) rfl (y_assign (v := Value.int _ _) rfl rfl) ?_
  refine Lnil ?_
  refine W_seq ?_
  refine W_region ?_
  refine L0 (wanted_none rfl) rfl (y_move (v := Value.pointer _) rfl rfl) ?_
  refine L0 (wanted_none rfl) rfl (y_nilCheck rfl rfl) ?_
  refine L0 (wanted_none rfl) rfl (y_fieldAddr rfl Tryd.underlying44 rfl sz3 rfl) ?_
  refine L1 (wanted_none rfl) rfl hs2 (y_load 0 rfl Tryd.underlying3 rfl rfl rfl rfl) ?_
  refine L0 (wanted_none rfl) rfl (y_assign (v := Value.int _ _) rfl rfl) ?_
  refine Lnil ?_
  refine W_ret ?_
  refine fin1 (fn := Tryd.f25) rfl rfl ?_
  exact ⟨rfl, hs2⟩
end Go.Proofs.YtkolfgmpmnelmaaDoor
