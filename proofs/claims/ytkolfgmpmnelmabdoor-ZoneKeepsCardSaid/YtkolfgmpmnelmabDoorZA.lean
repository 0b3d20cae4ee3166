/-
  Walk: keep.zoned.
-/
import Derived.Test.YtkolfgmpmnelmabDoorZ9
import Derived.Test.YtkolfgmpmnelmabDoorSh
namespace Go.Proofs.YtkolfgmpmnelmabDoor
open Go Vx Go.Proofs
set_option linter.unusedVariables false
set_option maxRecDepth 8000
set_option maxHeartbeats 400000

theorem zrepeatL_one (x : UInt8) : ∀ c, Lib.repeatL [x] c = List.replicate c x
  | 0 => rfl
  | c + 1 => by rw [Lib.repeatL, zrepeatL_one x c, List.replicate_succ]; rfl
theorem Vx.St.zofBelow {w w' : World} (h : Go.RowKit.Below w.heap.size w w') : St w [] w' :=
  ⟨h.os, h.tape, h.output, h.size, fun _ h => (by cases h), List.nodup_nil, fun b hb _ => h.block b hb⟩
theorem zrepeat_any (x : UInt8) (c : Nat) (h : c ≤ 100000) (w : World) : C Tryd.prog 17 ⟨[str [x], iv c]⟩ w fun v w' => v = str (List.replicate c x) ∧ St w [] w' := by
  have h1 := Tryd.strings_Repeat ⟨⟨[x]⟩⟩ c w (by omega) (by show 1 * c ≤ _; omega)
  refine Calls.mono h1 fun e w' ⟨he, hb⟩ => ⟨_, he, ?_, St.zofBelow hb⟩
  rw [zrepeatL_one]
def abcL : List (List UInt8) := [[97], [98], [99]]
def abcZ (i : Nat) : List (List UInt8) := (abcL.take i).map fun s => fillN s 128
def zDi (i : Nat) : Dv := { newD with z := updF (fun _ => []) 2 (abcZ i) }
theorem zDi_zero : zDi 0 = newD := by
  have h : updF (fun _ => []) 2 (abcZ 0) = fun _ => [] := by
    funext j
    by_cases h : j = 2
    · subst h; rw [updF_at]; rfl
    · rw [updF_ne _ _ h]
  unfold zDi
  rw [h]; rfl
theorem DSt.eqD {W0 : World} {K : Blocks} {b : Nat} {D D' : Dv} {w : World} {vz : Nat → Value} {vw : Value} {went rows : Blocks} (e : D = D') (h : DSt W0 K b D w vz vw went rows) : DSt W0 K b D' w vz vw went rows := e ▸ h
theorem zDi_succ {i : Nat} (h : i < 3) : ({ zDi i with z := updF (zDi i).z 2 ((zDi i).z 2 ++ [fillN (abcL.getD i []) 128]) } : Dv) = zDi (i + 1) := by
  have h1 : (zDi i).z 2 = abcZ i := rfl
  have h2 : (zDi i).z = updF (fun _ => []) 2 (abcZ i) := rfl
  rw [h1, h2, updF_updF]
  have h3 : abcZ i ++ [fillN (abcL.getD i []) 128] = abcZ (i + 1) := by
    have hi : i = 0 ∨ i = 1 ∨ i = 2 := by omega
    rcases hi with rfl | rfl | rfl <;> rfl
  rw [h3]; rfl
def zD4 : Dv := { zDi 3 with wait := [(1, fillN [120] 500)] }
def zK : List Int := [0, 0, 2]
def zD5 : Dv := { z := crZ zD4 zK 8, sure := crS zD4 zK 8, slot := landF zD4.slot zD4.wait (fun j => ([] : List Bool).getD j false) zD4.wait.length, wait := [], fuse := -1 }
theorem zD4_z (j : Nat) : zD4.z j = if j = 2 then abcZ 3 else [] := by
  show updF (fun _ => []) 2 (abcZ 3) j = _
  by_cases h : j = 2
  · subst h; rw [updF_at, if_pos rfl]
  · rw [updF_ne _ _ h, if_neg h]
theorem zD5_z2 : zD5.z 2 = [fillN [97] 128, fillN [98] 128] := rfl
theorem zD5_slot : zD5.slot 1 = List.replicate 500 0 := by
  show fillN [] 500 = _
  rw [fillN, List.nil_append, List.take_of_length_le (by simp)]
theorem zD4_len (j : Nat) : zD4.sure j ≤ (zD4.z j).length ∧ (zD4.z j).length ≤ 16 := by
  rw [zD4_z]
  refine ⟨Nat.zero_le _, ?_⟩
  split
  · decide
  · decide
theorem abc_len {i : Nat} (h : i < 3) : (abcL.getD i []).length = 1 := by
  have hi : i = 0 ∨ i = 1 ∨ i = 2 := by omega
  rcases hi with rfl | rfl | rfl <;> rfl
theorem abcZ_len (i : Nat) : (abcZ i).length = min i 3 := by rw [abcZ, List.length_map, List.length_take]; rfl
theorem abc_at {i : Nat} (h : i < 3) : (⟨[str [97], str [98], str [99]]⟩ : Array Value)[0 + (i : Int).toNat * 1]? = some (str (abcL.getD i [])) := by
  have hi : i = 0 ∨ i = 1 ∨ i = 2 := by omega
  rcases hi with rfl | rfl | rfl <;> rfl
theorem zK_sl {w : World} {b : Nat} {T : TypeId} {fz : Nat × Nat} (h : w.heap[b]? = some (.cells ⟨[iv 0, iv 0, iv 2]⟩ T fz)) : Sl w (.slice (some ⟨b, 0, none⟩) 3 3) zK.length (fun j => iv (zK.getD j 0)) :=
  Sl.of (fun j hj => by
    have hj' : j = 0 ∨ j = 1 ∨ j = 2 := by have h2 : j < 3 := hj; omega
    rw [cell_of_has h]
    rcases hj' with rfl | rfl | rfl <;> rfl)
theorem DSt.forget {W0 : World} {K : Blocks} {b : Nat} {D : Dv} {w : World} {vz : Nat → Value} {vw : Value} {went rows : Blocks} (h : DSt W0 K b D w vz vw went rows) {c : Array Value} {T : TypeId} {fz : Nat × Nat} {w' : World} (st : St W0 (K ++ ((b, .cells c T fz) :: (went ++ rows))) w') (hK : ∀ x ∈ K, W0.heap.size ≤ x.1) : St W0 [] w' :=
  St.dropR (L := []) st (fun x hx => (List.mem_append.1 hx).elim (hK x) (h.fresh x))
theorem zoned_any (w : World) : C Tryd.prog 12 ⟨[]⟩ w fun v w' => v = .bool true ∧ St w [] w' := by
  refine C_enter (n := 78) Tryd.func12 rfl rfl rfl (fun w1 hs1 => ?_)
  refine W_seq ?_
  refine W_region ?_
  refine L0 (wanted_none rfl) rfl (y_assign (v := Value.bool _) rfl rfl) ?_
  refine Lnil ?_
  refine W_seq ?_
  refine W_region ?_
  refine Lc (wanted_none rfl) (c_call rfl rfl rfl Tryd.func13 (by kernel_rfl) rfl (new_ok (K := []) hs1) rfl ?_)
  rintro vD w2 ⟨b, vz0, rows0, rfl, hD0⟩
  have hs4 := hD0.st
  refine L0 (wanted_none rfl) rfl (y_assign (v := Value.pointer _) rfl rfl) ?_
  refine Lnil ?_
  refine W_seq ?_
  refine W_seq ?_
  refine W_region ?_
  refine Lc (wanted_none rfl) (c_bs3 (v0 := str _) (v1 := str _) (v2 := str _) hs4 rfl rfl Tryd.underlying22 sz9 zr9 rfl rfl rfl rfl rfl rfl  (fun b5 w6 hbb5 hs7 => ?_))
  refine L0 (wanted_none rfl) rfl (y_slen rfl Tryd.underlying22 rfl) ?_
  refine L0 (wanted_none rfl) rfl (y_move (v := Value.int _ _) rfl rfl) ?_
  refine Lnil ?_
  refine W_block ?_
  refine W_loop (G := Nat × (Nat → Value) × Blocks) (fun g aL wl => ∃ e, aL = A 78 ((15, iv g.1) :: (14, iv 3) :: (13, .slice (some ⟨b5, 0, none⟩) 3 3) :: (1, pv b 0) :: e) ∧ g.1 ≤ 3 ∧ DSt w [(b5, .cells ⟨[str [97], str [98], str [99]]⟩ 9 (0, 0))] b (zDi g.1) wl g.2.1 (.slice none 0 0) [] g.2.2) (fun g => 3 - g.1) ((0, vz0, rows0)) ?_ ?_
  · exact ⟨_, A_pins _ _ [15, 14, 13, 1], Nat.zero_le _, zDi_zero ▸ hD0.drewn (K' := [(b5, .cells ⟨[str [97], str [98], str [99]]⟩ 9 (0, 0))]) hs7⟩
  rintro g _ w8 ⟨ehs9, rfl, hi, hDi⟩
  obtain ⟨i, vzi, rowsi⟩ := g
  dsimp only at *
  have hs9 := hDi.st
  refine W_seq ?_
  refine W_region ?_
  refine L0 (wanted_none rfl) rfl (y_lt rfl rfl rfl) ?_
  refine Lnil ?_
  refine W_seq ?_
  refine Wsp (t := 16) rfl (fun h10 => ?_) (fun h10 => ?_)
  · have h10' := h10
    first | replace h10' := of_decide_eq_true h10' | replace h10' := bnT' h10' | skip
    refine W_condT rfl h10 ?_
    refine W_skip ?_
    refine W_seq ?_
    refine W_block ?_
    refine W_seq ?_
    refine W_region ?_
    refine L0 (wanted_none rfl) rfl (y_indexSl rfl Tryd.underlying22 sz9 rfl rfl (by omega) (by omega)) ?_
    refine L1 (wanted_none rfl) rfl hs9 (y_load 0 rfl Tryd.underlying9 rfl rfl rfl (abc_at (by omega))) ?_
    refine L0 (wanted_none rfl) rfl (y_assign (v := Value.string ⟨⟨_⟩⟩) rfl rfl) ?_
    refine Lnil ?_
    refine W_seq ?_
    refine W_region ?_
    refine L0 (wanted_none rfl) rfl (y_move (v := Value.pointer _) rfl rfl) ?_
    refine L0 (wanted_none rfl) rfl (y_move (v := Value.string ⟨⟨_⟩⟩) rfl rfl) ?_
    refine Lc (wanted_none rfl) (c_call rfl rfl rfl Tryd.func15 (by kernel_rfl) rfl (app_ok (hDi.drewn (K' := [(b5, .cells ⟨[str [97], str [98], str [99]]⟩ 9 (0, 0))]) hs9) (by show (-1 : Int) < 0; decide) 2 (abcL.getD i []) (by decide) (by decide) (by rw [abc_len (by omega)]; decide) (by show (abcZ i).length < 16; rw [abcZ_len]; omega)) rfl ?_)
    rintro vv w11 ⟨vz2, rows2, rfl, hD2⟩
    replace hD2 := DSt.eqD (zDi_succ (i := i) (by omega)) hD2
    have hs13 := hD2.st
    refine L0 (wanted_none rfl) rfl (y_move (v := Value.tuple ⟨_⟩) rfl rfl) ?_
    refine L0 (wanted_none rfl) rfl (y_extract rfl rfl rfl) ?_
    refine L0 (wanted_none rfl) rfl (y_extract rfl rfl rfl) ?_
    refine L0 (wanted_none rfl) rfl (y_assign (v := Value.int _ _) rfl rfl) ?_
    refine L0 (wanted_none rfl) rfl (y_assign (v := _) rfl rfl) ?_
    refine Lnil ?_
    refine W_seq ?_
    refine W_region ?_
    refine L0 (wanted_none rfl) rfl (y_move (v := _) rfl rfl) ?_
    refine L0 (wanted_none rfl) rfl (y_neNilNil rfl Tryd.underlying32 rfl) ?_
    refine Lnil ?_
    refine W_condF rfl rfl ?_
    refine W_skip ?_
    refine W_region ?_
    refine L0 (wanted_none rfl) rfl (y_add64 rfl rfl rfl (by omega)) ?_
    refine L0 (wanted_none rfl) rfl (y_move (v := Value.int _ _) rfl rfl) ?_
    refine Lnil ?_
    exact ⟨(i + 1, vz2, rows2), by first | omega | (dsimp only; done) | (dsimp only; omega), _, A_c (iv_eq (by first | omega | (dsimp only; done) | (dsimp only; omega))) (A_c rfl (A_c rfl (A_c rfl (rfl)))), by first | omega | (dsimp only; done) | (dsimp only; omega), hD2.drewn hs13⟩
  · have h10' := h10
    first | replace h10' := of_decide_eq_false h10' | replace h10' := bnF' h10' | skip
    refine W_condF rfl h10 ?_
    refine W_exit ?_
    refine W_seq ?_
    refine W_seq ?_
    obtain rfl : i = 3 := by omega
    refine W_region ?_
    refine L0 (wanted_none rfl) rfl (y_move (v := Value.pointer _) rfl rfl) ?_
    refine Lc (wanted_none rfl) (c_call rfl rfl rfl Tryd.func36 (by kernel_rfl) rfl (put_ok (hDi.drewn (K' := [(b5, .cells ⟨[str [97], str [98], str [99]]⟩ 9 (0, 0))]) hs9) (by show (-1 : Int) < 0; decide) 1 [120] (by decide) (by decide) (by decide)) rfl ?_)
    rintro vp w14 ⟨vw4, went4, rfl, hD4⟩
    have hs16 := hD4.st
    refine L0 (wanted_none rfl) rfl (y_neNilNil rfl Tryd.underlying32 rfl) ?_
    refine Lnil ?_
    refine W_condF rfl rfl ?_
    refine W_skip ?_
    refine W_seq ?_
    refine W_region ?_
    refine L0 (wanted_none rfl) rfl (y_move (v := Value.pointer _) rfl rfl) ?_
    refine Lc (wanted_none rfl) (c_bs3 (v0 := iv _) (v1 := iv _) (v2 := iv _) hs16 rfl rfl Tryd.underlying23 sz3 zr3 rfl rfl rfl rfl rfl rfl  (fun b17 w18 hbb17 hs19 => ?_))
    refine Lc (wanted_none rfl) (c_call rfl rfl rfl Tryd.func42 (by kernel_rfl) rfl (crash_ok (D := zD4) (hD4.drewn (K' := [(b17, .cells ⟨[iv 0, iv 0, iv 2]⟩ 3 (0, 0)), (b5, .cells ⟨[str [97], str [98], str [99]]⟩ 9 (0, 0))]) hs19) zK [] _ _ (by decide) (by decide) (fun w2 L2 h2 _ => zK_sl (h2.has _ List.mem_cons_self)) (fun w2 L2 h2 _ => Sl.nil _ _ _ _) (fun j hj => by have hj2 : j < 1 := hj; obtain rfl : j = 0 := (by omega); decide) (by decide) (fun j _ => zD4_len j)) rfl ?_)
    rintro vc w20 ⟨vz5, rfl, hD5⟩
    have hs22 := hD5.st
    refine Lnil ?_
    refine W_seq ?_
    refine W_region ?_
    refine L0 (wanted_none rfl) rfl (y_move (v := Value.pointer _) rfl rfl) ?_
    refine Lc (wanted_none rfl) (c_call rfl rfl rfl Tryd.func18 (by kernel_rfl) rfl (at_any b vz5 zD5.sure zD5.slot (.slice none 0 0) (-1) w20 ((hD5.drewn hs22).has) 2 (by decide) (by decide) (zD5.z 2) ((hD5.drewn hs22).sl (j := 2) (by decide))) rfl ?_)
    rintro _ w23 ⟨rfl, hc24⟩
    have hs25 := hs22.call0 hc24
    refine L0 (wanted_none rfl) rfl (y_move (v := Value.tuple ⟨_⟩) rfl rfl) ?_
    refine L0 (wanted_none rfl) rfl (y_extract rfl rfl rfl) ?_
    refine L0 (wanted_none rfl) rfl (y_extract rfl rfl rfl) ?_
    refine L0 (wanted_none rfl) rfl (y_assign (v := Value.int _ _) rfl rfl) ?_
    refine L0 (wanted_none rfl) rfl (y_assign (v := _) rfl rfl) ?_
    refine Lnil ?_
    refine W_seq ?_
    refine W_region ?_
    refine L0 (wanted_none rfl) rfl (y_move (v := Value.pointer _) rfl rfl) ?_
    refine Lc (wanted_none rfl) (c_call rfl rfl rfl Tryd.func19 (by kernel_rfl) rfl (read_any b vz5 zD5.sure zD5.slot (.slice none 0 0) (-1) w23 ((hD5.drewn hs25).has) 2 1 (by decide) (by decide) (zD5.z 2) ((hD5.drewn hs25).sl (j := 2) (by decide)) (by decide) (by rw [zD5_z2]; decide)) rfl ?_)
    rintro _ w26 ⟨rfl, hc27⟩
    have hs28 := hs25.call0 hc27
    refine L0 (wanted_none rfl) rfl (y_move (v := Value.tuple ⟨_⟩) rfl rfl) ?_
    refine L0 (wanted_none rfl) rfl (y_extract rfl rfl rfl) ?_
    refine L0 (wanted_none rfl) rfl (y_extract rfl rfl rfl) ?_
    refine L0 (wanted_none rfl) rfl (y_assign (v := Value.string ⟨⟨_⟩⟩) rfl rfl) ?_
    refine L0 (wanted_none rfl) rfl (y_assign (v := _) rfl rfl) ?_
    refine Lnil ?_
    refine W_seq ?_
    refine W_region ?_
    refine L0 (wanted_none rfl) rfl (y_move (v := Value.pointer _) rfl rfl) ?_
    refine Lc (wanted_none rfl) (c_call rfl rfl rfl Tryd.func52 (by kernel_rfl) rfl (get_quiet b 1 (by decide) (by decide) (zD5.slot 1) w26 (dc_old (hD5.drewn hs28).has rfl) (dc_old (hD5.drewn hs28).has rfl) (lt_of_has (hD5.drewn hs28).has)) rfl ?_)
    rintro _ w29 ⟨rfl, hc30⟩
    have hs31 := hs28.call0 hc30
    refine L0 (wanted_none rfl) rfl (y_move (v := Value.tuple ⟨_⟩) rfl rfl) ?_
    refine L0 (wanted_none rfl) rfl (y_extract rfl rfl rfl) ?_
    refine L0 (wanted_none rfl) rfl (y_extract rfl rfl rfl) ?_
    refine L0 (wanted_none rfl) rfl (y_assign (v := Value.string ⟨⟨_⟩⟩) rfl rfl) ?_
    refine L0 (wanted_none rfl) rfl (y_assign (v := _) rfl rfl) ?_
    refine Lnil ?_
    refine W_seq ?_
    refine W_region ?_
    refine L0 (wanted_none rfl) rfl (y_move (v := _) rfl rfl) ?_
    refine L0 (wanted_none rfl) rfl (y_eqNilNil rfl Tryd.underlying32 rfl) ?_
    refine L0 (wanted_none rfl) rfl (y_move (v := Value.bool _) rfl rfl) ?_
    refine L0 (wanted_yesB rfl rfl rfl rfl) rfl (y_move (v := _) rfl rfl) ?_
    refine L0 (wanted_yesB rfl rfl rfl rfl) rfl (y_eqNilNil rfl Tryd.underlying32 rfl) ?_
    refine L0 (wanted_none rfl) rfl (y_pickT rfl rfl (rfl : true = true) rfl) ?_
    refine L0 (wanted_none rfl) rfl (y_move (v := Value.bool _) rfl rfl) ?_
    refine L0 (wanted_yesB rfl rfl rfl rfl) rfl (y_move (v := _) rfl rfl) ?_
    refine L0 (wanted_yesB rfl rfl rfl rfl) rfl (y_eqNilNil rfl Tryd.underlying32 rfl) ?_
    refine L0 (wanted_none rfl) rfl (y_pickT rfl rfl (rfl : true = true) rfl) ?_
    refine L0 (wanted_none rfl) rfl (y_move (v := Value.bool _) rfl rfl) ?_
    refine L0 (wanted_yesB rfl rfl rfl rfl) rfl (y_move (v := Value.int _ _) rfl rfl) ?_
    refine L0 (wanted_yesB rfl rfl rfl rfl) rfl (y_eq rfl rfl rfl) ?_
    refine L0 (wanted_none rfl) rfl (y_pickT rfl rfl (rfl : true = true) rfl) ?_
    refine L0 (wanted_none rfl) rfl (y_move (v := Value.bool _) rfl rfl) ?_
    refine Lkn (t := 63) (b0 := true) rfl (by exact decide_eq_true rfl) (fun h32 => ?_)
    refine L0 (wanted_yesB rfl rfl rfl h32) rfl (y_move (v := Value.string ⟨⟨_⟩⟩) rfl rfl) ?_
    refine L0 (wanted_yesB rfl rfl rfl h32) rfl (y_len rfl Tryd.underlying9 rfl) ?_
    refine L0 (wanted_yesB rfl rfl rfl h32) rfl (y_eq rfl rfl rfl) ?_
    refine L0 (wanted_none rfl) rfl (y_pickT rfl rfl h32 rfl) ?_
    refine L0 (wanted_none rfl) rfl (y_move (v := Value.bool _) rfl rfl) ?_
    refine Lkn (t := 68) (b0 := true) rfl (by exact decide_eq_true (by show ((fillN [98] 128).length : Int) = 128; rw [fillN_len]; rfl)) (fun h33 => ?_)
    refine L0 (wanted_yesB rfl rfl rfl h33) rfl (y_move (v := Value.string ⟨⟨_⟩⟩) rfl rfl) ?_
    refine L0 (wanted_yesB rfl rfl rfl h33) rfl (y_sslice_hi rfl Tryd.underlying9 rfl rfl (by show 0 ≤ (2 : Int) ∧ (2 : Int) ≤ ((fillN [98] 128).length : Int); rw [fillN_len]; decide)) ?_
    refine L0 (wanted_yesB rfl rfl rfl h33) rfl (y_seq rfl rfl rfl) ?_
    refine L0 (wanted_none rfl) rfl (y_pickT rfl rfl h33 rfl) ?_
    refine L0 (wanted_none rfl) rfl (y_move (v := Value.bool _) rfl rfl) ?_
    refine Lkn (t := 73) (b0 := true) rfl (by exact decide_eq_true rfl) (fun h34 => ?_)
    refine L0 (wanted_yesB rfl rfl rfl h34) rfl (y_move (v := Value.string ⟨⟨_⟩⟩) rfl rfl) ?_
    refine Lc (wanted_yesB rfl rfl rfl h34) (c_call rfl rfl rfl Tryd.func17 (by kernel_rfl) rfl (zrepeat_any 0 500 (by decide) w29) rfl ?_)
    rintro _ w35 ⟨rfl, hc36⟩
    have hs37 := hs31.call0 hc36
    refine L0 (wanted_yesB rfl rfl rfl h34) rfl (y_seq rfl rfl rfl) ?_
    refine L0 (wanted_none rfl) rfl (y_pickT rfl rfl h34 rfl) ?_
    refine L0 (wanted_none rfl) rfl (y_assign (v := Value.bool _) rfl rfl) ?_
    refine Lnil ?_
    refine W_ret ?_
    refine fin1 (fn := Tryd.f12) rfl rfl ?_
    exact ⟨congrArg Value.bool (decide_eq_true zD5_slot), hD5.forget hs37 (by intro x hx; simp only [List.mem_cons, List.not_mem_nil, or_false] at hx; rcases hx with rfl | rfl <;> assumption)⟩
end Go.Proofs.YtkolfgmpmnelmabDoor
