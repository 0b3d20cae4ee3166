/-
  Walks: keep.entered, keep.EntryFree.
-/
import Derived.Test.YtkolfgmpmnelmabDoorNA
namespace Go.Proofs.YtkolfgmpmnelmabDoor.Ent
open Go Vx Go.Proofs Go.RowKit
set_option linter.unusedVariables false
set_option maxRecDepth 8000
set_option maxHeartbeats 1000000
def l0 : List Fl := [⟨[97], 81, [5, 3]⟩, ⟨[98], 0, []⟩]
theorem l0_right : RightP l0 := by
  refine ⟨by decide, ?_, ?_, ?_, ?_, ?_, by decide⟩
  · intro f hf
    simp only [l0, List.mem_cons, List.not_mem_nil, or_false] at hf
    rcases hf with rfl | rfl <;> exact ⟨by simp, by simp, by decide, by intro c hc; simp only [List.mem_singleton] at hc; subst hc; decide⟩
  · intro i hi
    have h : i = 0 := by simp [l0] at hi; omega
    subst h; rfl
  · intro f hf
    simp only [l0, List.mem_cons, List.not_mem_nil, or_false] at hf
    rcases hf with rfl | rfl <;> decide
  · intro f hf
    simp only [l0, List.mem_cons, List.not_mem_nil, or_false] at hf
    rcases hf with rfl | rfl <;> decide
  · intro k hk
    simp only [l0, allCells, List.flatMap_cons, List.flatMap_nil, List.append_nil, List.mem_cons, List.not_mem_nil, or_false] at hk
    rcases hk with rfl | rfl <;> decide
theorem l0_printed : printed l0 = [97, 32, 56, 49, 32, 53, 32, 51, 10, 98, 32, 48, 10] := by
  have e81 : Lib.itoa 81 = [56, 49] := by rw [itoa_small (by decide)]; simp [Lib.decDigits]
  have e5 : Lib.itoa 5 = [53] := by rw [itoa_small (by decide)]; simp [Lib.decDigits]
  have e3 : Lib.itoa 3 = [51] := by rw [itoa_small (by decide)]; simp [Lib.decDigits]
  have e0 : Lib.itoa 0 = [48] := by rw [itoa_small (by decide)]; simp [Lib.decDigits]
  simp [printed, l0, lb, nums, e81, e5, e3, e0]
theorem sl_ints2 {w : World} {b : Nat} {p q : Int} {T : TypeId} {fz : Nat × Nat} (h : w.heap[b]? = some (.cells ⟨[iv p, iv q]⟩ T fz)) : Sl w (.slice (some ⟨b, 0, none⟩) 2 2) [p, q].length (ivs [p, q]) :=
  Sl.of (fun j hj => by
    have hj' : j = 0 ∨ j = 1 := by have h2 : j < 2 := hj; omega
    rw [cell_of_has h]
    rcases hj' with rfl | rfl <;> rfl)
def vc0 (b : Nat) : Nat → Value := fun j => if j = 0 then .slice (some ⟨b, 0, none⟩) 2 2 else .slice none 0 0
theorem fls0 {w : World} {b c : Nat} {T U : TypeId} {fz fz' : Nat × Nat} (h : w.heap[c]? = some (.cells ⟨flCells ⟨[97], 81, [5, 3]⟩ (vc0 b 0) ++ flCells ⟨[98], 0, []⟩ (vc0 b 1)⟩ T fz)) (hb : w.heap[b]? = some (.cells ⟨[iv 5, iv 3]⟩ U fz')) : FlsAt w (.slice (some ⟨c, 0, none⟩) 2 2) l0 (vc0 b) := by
  refine ⟨⟨_, 2, rfl, fun _ => rfl⟩, fun j hj q u hu => ?_, fun j hj => ?_, ⟨_, 2, rfl, Nat.le_refl _⟩⟩
  · have hq : q < 3 := by
      rcases Nat.lt_or_ge q 3 with h9 | h9
      · exact h9
      · rw [List.getElem?_eq_none (by rw [flCells_len]; exact h9)] at hu; cases hu
    have hj' : j = 0 ∨ j = 1 := by have h2 : j < 2 := hj; omega
    have hq' : q = 0 ∨ q = 1 ∨ q = 2 := by omega
    show w.cell? ⟨c, 0 + j * 3 + q, none⟩ = some u
    rw [cell_of_has h, ← hu]
    rcases hj' with rfl | rfl <;> rcases hq' with rfl | rfl | rfl <;> rfl
  · have hj' : j = 0 ∨ j = 1 := by have h2 : j < 2 := hj; omega
    rcases hj' with rfl | rfl
    · exact sl_ints2 hb
    · exact Sl.nil _ _ _ _
theorem parsed0 {s : List UInt8} {v : Value} {w' : World} (h : Parsed s v w') {l : List Fl} (hr : Reads s (some l)) : ∃ vl vc, v = .tuple #[vl, .nilIface] ∧ FlsAt w' vl l vc := by
  rcases h with ⟨h1, _⟩ | ⟨m, vl, vc, h1, h2, h3⟩
  · cases h1.unique hr
  · cases h1.unique hr
    exact ⟨vl, vc, h2, h3⟩
theorem entered_any (w : World) (hE : EntAt w) : C Tryd.prog 57 ⟨[]⟩ w fun v w' => v = .bool true ∧ St w [] w' := by
  have hNE : needI 80 = 1 := by decide
  refine C_enter (n := 44) Tryd.func57 rfl rfl rfl (fun w1 hs1 => ?_)
  refine W_seq ?_
  refine W_region ?_
  refine L0 (wanted_none rfl) rfl (y_assign (v := Value.bool _) rfl rfl) ?_
  refine Lnil ?_
  refine W_seq ?_
  refine W_region ?_
  refine Lc (wanted_none rfl) (c_bs2 (v0 := iv _) (v1 := iv _) hs1 rfl rfl Tryd.underlying23 sz3 zr3 rfl rfl rfl rfl  (fun b2 w3 hbb2 hs4 => ?_))
  refine L0 (wanted_none rfl) rfl (y_buildSG (places := #[(0, 1), (1, 1), (2, 1)]) (cells := flCells ⟨[97], 81, [5, 3]⟩ (vc0 b2 0)) rfl Tryd.underlying97 zr97 (fun w => by kernel_rfl) (by kernel_rfl)) ?_
  refine L0 (wanted_none rfl) rfl (y_buildSG (places := #[(0, 1), (1, 1), (2, 1)]) (cells := flCells ⟨[98], 0, []⟩ (vc0 b2 1)) rfl Tryd.underlying97 zr97 (fun w => by kernel_rfl) (by kernel_rfl)) ?_
  refine Lc (wanted_none rfl) (c_buildSlice (cells := (flCells ⟨[97], 81, [5, 3]⟩ (vc0 b2 0) ++ flCells ⟨[98], 0, []⟩ (vc0 b2 1))) hs4 rfl rfl Tryd.underlying87 sz97 zr97 (by decide) (by kernel_rfl) (fun b5 w6 hbb5 hs7 => ?_))
  refine L0 (wanted_none rfl) rfl (y_assign (v := Value.slice _ _ _) rfl rfl) ?_
  refine Lnil ?_
  refine W_seq ?_
  refine W_region ?_
  refine L0 (wanted_none rfl) rfl (y_move (v := Value.slice _ _ _) rfl rfl) ?_
  refine Lc (wanted_none rfl) (c_call rfl rfl rfl Tryd.func59 (by kernel_rfl) rfl (print2_any l0 _ (vc0 b2) w6 (fls0 (hs7.get 0 rfl) (hs7.get 1 rfl)) (hE.keep hs7 (fr2 hbb5 hbb2))) rfl ?_)
  rintro vp w8 ⟨⟨t, ev, rfl, hp1, hp2⟩, hc9⟩
  have hs10 := hs7.call0 hc9
  obtain ⟨rfl, rfl⟩ := hp1 l0_right
  refine L0 (wanted_none rfl) rfl (y_move (v := Value.tuple ⟨_⟩) rfl rfl) ?_
  refine L0 (wanted_none rfl) rfl (y_extract rfl rfl rfl) ?_
  refine L0 (wanted_none rfl) rfl (y_extract rfl rfl rfl) ?_
  refine L0 (wanted_none rfl) rfl (y_assign (v := Value.string ⟨⟨_⟩⟩) rfl rfl) ?_
  refine L0 (wanted_none rfl) rfl (y_assign (v := _) rfl rfl) ?_
  refine Lnil ?_
  refine W_seq ?_
  refine W_seq ?_
  refine W_region ?_
  refine L0 (wanted_none rfl) rfl (y_move (v := _) rfl rfl) ?_
  refine L0 (wanted_none rfl) rfl (y_neNilNil rfl Tryd.underlying32 rfl) ?_
  refine L0 (wanted_none rfl) rfl (y_move (v := Value.bool _) rfl rfl) ?_
  refine L0 (wanted_yesB rfl rfl rfl rfl) rfl (y_move (v := Value.string ⟨⟨_⟩⟩) rfl rfl) ?_
  refine L0 (wanted_yesB rfl rfl rfl rfl) rfl (y_sne rfl rfl rfl) ?_
  refine L0 (wanted_none rfl) rfl (y_pickF rfl rfl (rfl : false = false) rfl) ?_
  refine Lnil ?_
  refine Wkn (t := 19) (b0 := false) rfl (by rw [l0_printed]; rfl) (fun h11 => ?_)
  refine W_condF rfl h11 ?_
  refine W_skip ?_
  refine W_seq ?_
  refine W_region ?_
  refine L0 (wanted_none rfl) rfl (y_move (v := Value.string ⟨⟨_⟩⟩) rfl rfl) ?_
  refine Lc (wanted_none rfl) (c_call rfl rfl rfl Tryd.func58 (by kernel_rfl) rfl (parse_any (printed l0) (by rw [l0_printed]; decide) w8 (hE.keep hs10 (fr2 hbb5 hbb2))) rfl ?_)
  rintro vp w12 ⟨hps, hc13⟩
  have hsA := (hs10.call0 hc13).drops (fun x hx => .inl (fr2 hbb5 hbb2 x hx))
  have hs14 := St.init w12
  obtain ⟨vl, vcm, rfl, hFm⟩ := parsed0 hps ⟨l0_right, rfl⟩
  refine L0 (wanted_none rfl) rfl (y_move (v := Value.tuple ⟨_⟩) rfl rfl) ?_
  refine L0 (wanted_none rfl) rfl (y_extract rfl rfl rfl) ?_
  refine L0 (wanted_none rfl) rfl (y_extract rfl rfl rfl) ?_
  refine L0 (wanted_none rfl) rfl (y_assign (v := vl) rfl rfl) ?_
  refine L0 (wanted_none rfl) rfl (y_assign (v := _) rfl rfl) ?_
  refine Lnil ?_
  refine W_seq ?_
  refine W_region ?_
  refine L0 (wanted_none rfl) rfl (y_move (v := _) rfl rfl) ?_
  refine L0 (wanted_none rfl) rfl (y_eqNilNil rfl Tryd.underlying32 rfl) ?_
  refine L0 (wanted_none rfl) rfl (y_move (v := Value.bool _) rfl rfl) ?_
  refine L0 (wanted_yesB rfl rfl rfl rfl) rfl (y_move (v := vl) rfl rfl) ?_
  refine L0 (wanted_yesB rfl rfl rfl rfl) rfl (y_slenOps rfl Tryd.underlying87 rfl hFm.shape) ?_
  refine L0 (wanted_yesB rfl rfl rfl rfl) rfl (y_eq rfl rfl rfl) ?_
  refine L0 (wanted_none rfl) rfl (y_pickT rfl rfl (rfl : true = true) rfl) ?_
  refine L0 (wanted_none rfl) rfl (y_move (v := Value.bool _) rfl rfl) ?_
  refine Lkn (t := 32) (b0 := true) rfl (by rfl) (fun h15 => ?_)
  refine L0 (wanted_yesB rfl rfl rfl h15) rfl (y_move (v := vl) rfl rfl) ?_
  refine L0 (wanted_yesB rfl rfl rfl h15) rfl (y_indexOps rfl Tryd.underlying87 sz97 rfl rfl hFm.shape (by decide) (by decide)) ?_
  refine L0 (wanted_yesB rfl rfl rfl h15) rfl (y_fieldAddr rfl Tryd.underlying97 rfl sz23 rfl) ?_
  refine L1 (wanted_yesB rfl rfl rfl h15) rfl hs14 ((y_loadOld rfl Tryd.underlying23 rfl rfl (hFm.cell 0 (by decide) 2 _ rfl) (by simp [keys]))) ?_
  refine Lc (wanted_yesB rfl rfl rfl h15) (c_bs2 (v0 := iv _) (v1 := iv _) hs14 rfl rfl Tryd.underlying23 sz3 zr3 rfl rfl rfl rfl  (fun b16 w17 hbb16 hs18 => ?_))
  refine Lc (wanted_yesB rfl rfl rfl h15) (c_call rfl rfl rfl Tryd.func102 (by kernel_rfl) rfl (equalInts_any [5, 3] [5, 3] _ _ (by decide) w17 ((hFm.cells 0 (by decide)).keep hs18 (by intro x hx; simp [keys] at hx; omega)) (sl_ints2 (hs18.get 0 rfl))) rfl ?_)
  rintro _ w19 ⟨rfl, hc20⟩
  have hs21 := hs18.call0 hc20
  refine L0 (wanted_none rfl) rfl (y_pickT rfl rfl h15 rfl) ?_
  refine L0 (wanted_none rfl) rfl (y_move (v := Value.bool _) rfl rfl) ?_
  refine Lkn (t := 40) (b0 := true) rfl (by exact decide_eq_true rfl) (fun h22 => ?_)
  refine Lc (wanted_yesB rfl rfl rfl h22) (c_call rfl rfl rfl Tryd.func103 (by kernel_rfl) rfl (need_any 80 (by decide) (by decide) w19) rfl ?_)
  rintro _ w23 ⟨rfl, hc24⟩
  have hs25 := hs21.call0 hc24
  refine L0 (wanted_yesB rfl rfl rfl h22) rfl (y_eq rfl rfl rfl) ?_
  refine L0 (wanted_none rfl) rfl (y_pickT rfl rfl h22 rfl) ?_
  refine L0 (wanted_none rfl) rfl (y_assign (v := Value.bool _) rfl rfl) ?_
  refine Lnil ?_
  refine W_ret ?_
  refine fin1 (fn := Tryd.f57) rfl rfl ?_
  exact ⟨rfl, hsA.trans0 (hs25.drop (.inl (by assumption)))⟩
end Go.Proofs.YtkolfgmpmnelmabDoor.Ent
