/-
  Walks: strings.SplitSeq, strings.Split at one byte.
-/
import Derived.Test.YtkolfgmpmnelmabGreatDoorN6
namespace Go.Proofs.YtkolfgmpmnelmabGreatDoor.Ent
open Go Vx Go.Proofs Go.RowKit
set_option linter.unusedVariables false
set_option maxRecDepth 8000
set_option maxHeartbeats 1000000
@[reducible] def seqV (bs bp bz : Nat) : Value := .func (.func 71) #[] ⟨[pv bp 0, pv bs 0, pv bz 0]⟩
def seqB (s : List UInt8) (c : UInt8) (bs bp bz : Nat) : Blocks := [(bz, .cells #[iv 0] 3 (0, 0)), (bp, .cells #[str [c]] 9 (0, 0)), (bs, .cells #[str s] 9 (0, 0))]
theorem splitSeq_any (s : List UInt8) (c : UInt8) (w : World) : C Tryz.prog 52 ⟨[str s, str [c], iv 0]⟩ w fun v w' => ∃ bs bp bz, v = seqV bs bp bz ∧ w.heap.size ≤ bs ∧ w.heap.size ≤ bp ∧ w.heap.size ≤ bz ∧ St w (seqB s c bs bp bz) w' := by
  refine C_enter (n := 8) Tryz.func52 rfl rfl rfl (fun w1 hs1 => ?_)
  refine W_seq ?_
  refine W_region ?_
  refine Lc (wanted_none rfl) (c_box hs1 rfl rfl rfl (fun b2 w3 hbb2 hs4 => ?_))
  have hs4 := hs4.at0E (c' := #[str s]) rfl
  refine Lc (wanted_none rfl) (c_box hs4 rfl rfl rfl (fun b5 w6 hbb5 hs7 => ?_))
  have hs7 := hs7.at0E (c' := #[str [c]]) rfl
  refine Lc (wanted_none rfl) (c_box hs7 rfl rfl rfl (fun b8 w9 hbb8 hs10 => ?_))
  have hs10 := hs10.at0E (c' := #[iv 0]) rfl
  refine L0 (wanted_none rfl) rfl (y_assign (v := Value.nilFunc) rfl rfl) ?_
  refine Lnil ?_
  refine W_seq ?_
  refine W_region ?_
  refine L0 (wanted_none rfl) rfl (y_makeFunc (vs := [pv b5 0, pv b2 0, pv b8 0]) rfl rfl) ?_
  refine L0 (wanted_none rfl) rfl (y_assign (v := Value.func _ _ _) rfl rfl) ?_
  refine Lnil ?_
  refine W_ret ?_
  refine fin1 (fn := Tryz.f52) rfl rfl ?_
  exact ⟨b2, b5, b8, rfl, hbb2, hbb5, hbb8, hs10⟩
theorem SplitSeq_any (s : List UInt8) (c : UInt8) (w : World) : C Tryz.prog 32 ⟨[str s, str [c]]⟩ w fun v w' => ∃ bs bp bz, v = seqV bs bp bz ∧ w.heap.size ≤ bs ∧ w.heap.size ≤ bp ∧ w.heap.size ≤ bz ∧ St w (seqB s c bs bp bz) w' := by
  refine C_enter (n := 8) Tryz.func32 rfl rfl rfl (fun w1 hs1 => ?_)
  refine W_seq ?_
  refine W_region ?_
  refine L0 (wanted_none rfl) rfl (y_assign (v := Value.nilFunc) rfl rfl) ?_
  refine Lnil ?_
  refine W_seq ?_
  refine W_region ?_
  refine L0 (wanted_none rfl) rfl (y_move (v := Value.string ⟨⟨_⟩⟩) rfl rfl) ?_
  refine L0 (wanted_none rfl) rfl (y_move (v := Value.string ⟨⟨_⟩⟩) rfl rfl) ?_
  refine Lc (wanted_none rfl) (c_call rfl rfl rfl Tryz.func52 (by kernel_rfl) rfl (splitSeq_any s c w1) rfl ?_)
  rintro vf w2 ⟨bs, bp, bz, rfl, h1, h2, h3, hq⟩
  have h8 := hs1.size
  have hs4 := hs1.call_new hq (fun b hb => by simp [seqB, keys] at hb; omega)
  refine L0 (wanted_none rfl) rfl (y_assign (v := Value.func _ _ _) rfl rfl) ?_
  refine Lnil ?_
  refine W_ret ?_
  refine fin1 (fn := Tryz.f32) rfl rfl ?_
  exact ⟨bs, bp, bz, rfl, by omega, by omega, by omega, hs4⟩
theorem seq_cell {s : List UInt8} {c : UInt8} {bs bp bz : Nat} {w : World} (hl : s.length ≤ 9223372036854775807) (n1 : bs ≠ bp) (n2 : bs ≠ bz) (n3 : bp ≠ bz) (k1 : w.heap[bs]? = some (.cells #[str s] 9 (0, 0))) (k2 : w.heap[bp]? = some (.cells #[str [c]] 9 (0, 0))) (k3 : w.heap[bz]? = some (.cells #[iv 0] 3 (0, 0))) :
    SeqCell Tryz.prog 71 ⟨[pv bp 0, pv bs 0, pv bz 0]⟩ sEnc bs [bs, bp, bz] (fun ys => ys = spl c s) (fun _ => True) (NextP c s) w := fun l J Jx W hS hJs hY h0 => by
  have h := splitSeq1_in c s bs bp bz n1 n2 n3 hl l J Jx hJs hY W ((hS bs (by simp)).trans k1) ((hS bp (by simp)).trans k2) ((hS bz (by simp)).trans k3) h0
  have e : (#[.func (.yield l) #[] #[]] ++ ⟨[pv bp 0, pv bs 0, pv bz 0]⟩ : Array Value) = ⟨[.func (.yield l) #[] #[], pv bp 0, pv bs 0, pv bz 0]⟩ := rfl
  rw [e]
  refine callsIn_wide.2 (Calls.mono h fun e W' ⟨v, he, hr⟩ => ⟨⟨v, he⟩, ?_⟩)
  rcases hr with ⟨ys, h1, h2⟩ | ⟨pre, h1⟩
  · exact .inl ⟨ys, h1, h2⟩
  · exact .inr ⟨pre, trivial, h1⟩
/-! ### strings.Split -/
@[reducible] def strsE (l : List (List UInt8)) : Nat → Value := fun j => str (l.getD j [])
theorem spl_len (c : UInt8) : ∀ s : List UInt8, (spl c s).length = s.count c + 1
  | [] => rfl
  | x :: r => by
    rw [spl, List.count_cons]
    by_cases e : x = c
    · rw [if_pos e, List.length_cons, spl_len c r]; simp [e]
    · rw [if_neg e]
      have h := spl_len c r
      cases h2 : spl c r with
      | nil => exact absurd h2 (spl_ne c r)
      | cons a b =>
        rw [h2] at h
        simp only [List.length_cons] at h ⊢
        simp [e]; omega
theorem count_one (s : List UInt8) (c : UInt8) (w : World) : C Tryz.prog 64 ⟨[str s, str [c]]⟩ w fun v w' => v = iv (s.count c : Nat) ∧ St w [] w' :=
  Calls.mono (Tryz.strings_Count_one ⟨⟨s⟩⟩ c w) fun e w' ⟨he, hb⟩ => ⟨_, he, rfl, by rw [hb]; exact St.init w⟩
/-- The pieces that stand, and room for n more. -/
def rowL (pre : List (List UInt8)) (n : Nat) : List Value := pre.map str ++ List.replicate n (str [])
theorem rowL_set (pre : List (List UInt8)) (n : Nat) (x : List UInt8) : (⟨rowL pre (n + 1)⟩ : Array Value).setIfInBounds pre.length (str x) = ⟨rowL (pre ++ [x]) n⟩ := by
  apply Array.ext'
  simp only [Array.toList_setIfInBounds, rowL, List.map_append, List.map_cons, List.map_nil, List.replicate_succ]
  rw [List.set_append]
  simp
theorem rowL_len (pre : List (List UInt8)) (n : Nat) : (⟨rowL pre n⟩ : Array Value).size = pre.length + n := by simp [rowL]
theorem spl_zero {c : UInt8} {s : List UInt8} (h : s.count c = 0) : spl c s = [s] := spl_none (List.count_eq_zero.1 h)
theorem row_strs {w : World} {b cap : Nat} {l : List (List UInt8)} {T : TypeId} {fz : Nat × Nat} (h : w.heap[b]? = some (.cells ⟨l.map str⟩ T fz)) : Sl w (.slice (some ⟨b, 0, none⟩) l.length cap) l.length (strsE l) :=
  Sl.of (fun j hj => by
    rw [cell_of_has h]
    rw [Nat.zero_add]
    simp [strsE, List.getD_eq_getElem?_getD, hj])
theorem genSplit_any (s : List UInt8) (c : UInt8) (hl : s.length ≤ 100000) (w : World) : C Tryz.prog 49 ⟨[str s, str [c], iv 0, iv (-1)]⟩ w fun v w' => ∃ b cap, v = .slice (some ⟨b, 0, none⟩) (spl c s).length cap ∧ (spl c s).length ≤ cap ∧ w.heap.size ≤ b ∧ St w [(b, .cells ⟨(spl c s).map str⟩ 9 (0, 0))] w' := by
  have hcl := List.count_le_length (a := c) (l := s)
  have hc1 : ([c] : List UInt8).length = 1 := rfl
  refine C_enter (n := 66) Tryz.func49 rfl rfl rfl (fun w1 hs1 => ?_)
  refine W_seq ?_
  refine W_region ?_
  refine L0 (wanted_none rfl) rfl (y_assign (v := Value.slice _ _ _) rfl rfl) ?_
  refine Lnil ?_
  refine W_seq ?_
  refine W_seq ?_
  refine W_region ?_
  refine L0 (wanted_none rfl) rfl (y_move (v := Value.int _ _) rfl rfl) ?_
  refine L0 (wanted_none rfl) rfl (y_eq rfl rfl rfl) ?_
  refine Lnil ?_
  refine Wkn (t := 13) (b0 := false) rfl (by decide) (fun h2 => ?_)
  refine W_condF rfl h2 ?_
  refine W_skip ?_
  refine W_seq ?_
  refine W_seq ?_
  refine W_region ?_
  refine L0 (wanted_none rfl) rfl (y_move (v := Value.string ⟨⟨_⟩⟩) rfl rfl) ?_
  refine L0 (wanted_none rfl) rfl (y_seq rfl rfl rfl) ?_
  refine Lnil ?_
  refine Wkn (t := 15) (b0 := false) rfl (by exact decide_eq_false (by simp)) (fun h3 => ?_)
  refine W_condF rfl h3 ?_
  refine W_skip ?_
  refine W_seq ?_
  refine W_seq ?_
  refine W_region ?_
  refine L0 (wanted_none rfl) rfl (y_move (v := Value.int _ _) rfl rfl) ?_
  refine L0 (wanted_none rfl) rfl (y_lt rfl rfl rfl) ?_
  refine Lnil ?_
  refine Wkn (t := 20) (b0 := true) rfl (by decide) (fun h4 => ?_)
  refine W_condT rfl h4 ?_
  refine W_region ?_
  refine L0 (wanted_none rfl) rfl (y_move (v := Value.string ⟨⟨_⟩⟩) rfl rfl) ?_
  refine L0 (wanted_none rfl) rfl (y_move (v := Value.string ⟨⟨_⟩⟩) rfl rfl) ?_
  refine Lc (wanted_none rfl) (c_call rfl rfl rfl Tryz.func64 (by kernel_rfl) rfl (count_one s c w1) rfl ?_)
  rintro _ w5 ⟨rfl, hc6⟩
  have hs7 := hs1.call0 hc6
  refine L0 (wanted_none rfl) rfl (y_add64 rfl rfl rfl (by omega)) ?_
  refine L0 (wanted_none rfl) rfl (y_assign (v := Value.int _ _) rfl rfl) ?_
  refine Lnil ?_
  refine W_seq ?_
  refine W_region ?_
  refine L0 (wanted_none rfl) rfl (y_move (v := Value.int _ _) rfl rfl) ?_
  refine L0 (wanted_none rfl) rfl (y_move (v := Value.string ⟨⟨_⟩⟩) rfl rfl) ?_
  refine L0 (wanted_none rfl) rfl (y_len rfl Tryz.underlying9 rfl) ?_
  refine L0 (wanted_none rfl) rfl (y_add64 rfl rfl rfl (by omega)) ?_
  refine L0 (wanted_none rfl) rfl (Y0.cast (y_min rfl rfl rfl) (show _ = ((s.count c + 1 : Nat) : Int) by omega)) ?_
  refine L0 (wanted_none rfl) rfl (y_assign (v := Value.int _ _) rfl rfl) ?_
  refine Lnil ?_
  refine W_seq ?_
  refine W_region ?_
  refine L0 (wanted_none rfl) rfl (y_move (v := Value.int _ _) rfl rfl) ?_
  refine Lc (wanted_none rfl) (c_makeSlice (s.count c + 1) hs7 rfl rfl Tryz.underlying46 sz9 zr9 by9 rfl rfl rfl (by omega) (by omega) (by omega) (fun b8 w9 hbb8 hs10 => ?_))
  have hs10 := hs10.at0E (c' := ⟨rowL [] (s.count c + 1)⟩) rfl
  refine L0 (wanted_none rfl) rfl (y_assign (v := Value.slice _ _ _) rfl rfl) ?_
  refine Lnil ?_
  refine W_seq ?_
  refine W_region ?_
  refine L0 (wanted_none rfl) rfl (y_move (v := Value.int _ _) rfl rfl) ?_
  refine L0 (wanted_none rfl) rfl (Y0.cast (y_sub64 rfl rfl rfl (by omega)) (show _ = ((s.count c : Nat) : Int) by omega)) ?_
  refine L0 (wanted_none rfl) rfl (y_assign (v := Value.int _ _) rfl rfl) ?_
  refine Lnil ?_
  refine W_seq ?_
  refine W_region ?_
  refine L0 (wanted_none rfl) rfl (y_assign (v := Value.int _ _) rfl rfl) ?_
  refine Lnil ?_
  refine W_seq ?_
  refine W_block ?_
  refine W_loop (G := List (List UInt8) × List UInt8) (fun g aL wl => ∃ e, aL = A 66 ((10, iv g.1.length) :: (3, iv (s.count c : Nat)) :: (9, .slice (some ⟨b8, 0, none⟩) (s.count c + 1) (s.count c + 1)) :: (0, str g.2) :: (1, str [c]) :: (2, iv 0) :: e) ∧ g.1 ++ spl c g.2 = spl c s ∧ g.2.length ≤ s.length ∧ St w [(b8, .cells ⟨rowL g.1 (s.count c + 1 - g.1.length)⟩ 9 (0, 0))] wl) (fun g => g.2.length) (([], s)) ?_ ?_
  · exact ⟨_, A_pins _ _ [10, 3, 9, 0, 1, 2], rfl, Nat.le_refl _, hs10⟩
  rintro g _ w11 ⟨ehs12, rfl, hpre, hrl, hs12⟩
  obtain ⟨pre, rest⟩ := g
  dsimp only at *
  have hpl := congrArg List.length hpre
  rw [List.length_append, spl_len, spl_len] at hpl
  refine W_seq ?_
  refine W_seq ?_
  refine W_region ?_
  refine L0 (wanted_none rfl) rfl (y_move (v := Value.int _ _) rfl rfl) ?_
  refine L0 (wanted_none rfl) rfl (y_move (v := Value.int _ _) rfl rfl) ?_
  refine L0 (wanted_none rfl) rfl (y_lt rfl rfl rfl) ?_
  refine Lnil ?_
  refine Wsp (t := 36) rfl (fun h13 => ?_) (fun h13 => ?_)
  · have h13' := h13
    first | replace h13' := of_decide_eq_true h13' | replace h13' := bnT' h13' | skip
    refine W_condT rfl h13 ?_
    refine W_skip ?_
    refine W_block ?_
    refine W_seq ?_
    refine W_region ?_
    refine L0 (wanted_none rfl) rfl (y_move (v := Value.string ⟨⟨_⟩⟩) rfl rfl) ?_
    refine L0 (wanted_none rfl) rfl (y_move (v := Value.string ⟨⟨_⟩⟩) rfl rfl) ?_
    refine Lc (wanted_none rfl) (c_call rfl rfl rfl Tryz.func65 (by kernel_rfl) rfl (index_one rest c w11) rfl ?_)
    rintro _ w14 ⟨rfl, hww⟩
    subst hww
    have hs16 := hs12
    refine L0 (wanted_none rfl) rfl (y_assign (v := Value.int _ _) rfl rfl) ?_
    refine Lnil ?_
    refine W_seq ?_
    refine W_seq ?_
    refine W_region ?_
    refine L0 (wanted_none rfl) rfl (y_move (v := Value.int _ _) rfl rfl) ?_
    refine L0 (wanted_none rfl) rfl (y_lt rfl rfl rfl) ?_
    refine Lnil ?_
    refine Wsp (t := 41) rfl (fun h17 => ?_) (fun h17 => ?_)
    · have h17' := h17
      first | replace h17' := of_decide_eq_true h17' | replace h17' := bnT' h17' | skip
      refine W_condT rfl h17 ?_
      refine W_exit ?_
      refine W_seq ?_
      have hsr : spl c rest = [rest] := by first | exact spl_not (by omega) | exact spl_zero (by omega)
      have hr0 : rest.count c = 0 := by have := spl_len c rest; rw [hsr] at this; simp only [List.length_singleton] at this; omega
      refine W_region ?_
      refine L0 (wanted_none rfl) rfl (y_move (v := Value.slice _ _ _) rfl rfl) ?_
      refine L0 (wanted_none rfl) rfl (y_move (v := Value.int _ _) rfl rfl) ?_
      refine L0 (wanted_none rfl) rfl (y_move (v := Value.string ⟨⟨_⟩⟩) rfl rfl) ?_
      refine L0 (wanted_none rfl) rfl (y_indexSl rfl Tryz.underlying46 sz9 rfl rfl (by omega) (by omega)) ?_
      refine Lc (wanted_none rfl) (c_store (i := 0) (v := str _) hs16 rfl rfl rfl rfl sz9 rfl rfl (by rw [rowL_len]; omega) (Fz.zero _) (fun w18 hs19 => ?_))
      have hs19 := hs19.at0E (c' := ⟨(pre ++ [rest]).map str⟩) (by
        show (⟨rowL pre (s.count c + 1 - pre.length)⟩ : Array Value).setIfInBounds (0 + ((pre.length : Nat) : Int).toNat * 1) (str _) = _
        rw [show 0 + ((pre.length : Nat) : Int).toNat * 1 = pre.length from by omega, show s.count c + 1 - pre.length = 0 + 1 from by omega, rowL_set]
        simp [rowL])
      refine Lnil ?_
      refine W_seq ?_
      refine W_region ?_
      refine L0 (wanted_none rfl) rfl (y_move (v := Value.slice _ _ _) rfl rfl) ?_
      refine L0 (wanted_none rfl) rfl (y_move (v := Value.int _ _) rfl rfl) ?_
      refine L0 (wanted_none rfl) rfl (y_add64 rfl rfl rfl (by omega)) ?_
      refine L0 (wanted_none rfl) rfl (y_slsliceHi rfl Tryz.underlying46 sz9 rfl rfl (by omega)) ?_
      refine L0 (wanted_none rfl) rfl (y_assign (v := Value.slice _ _ _) rfl rfl) ?_
      refine Lnil ?_
      refine W_ret ?_
      refine fin1 (fn := Tryz.f49) rfl rfl ?_
      have hfin : spl c s = pre ++ [rest] := by rw [← hpre, hsr]
      have hln : (spl c s).length = ((pre.length : Int) + 1).toNat := by rw [hfin, List.length_append, List.length_singleton]; omega
      rw [← hln]
      exact ⟨_, _, rfl, by omega, hbb8, hfin ▸ hs19⟩
    · have h17' := h17
      first | replace h17' := of_decide_eq_false h17' | replace h17' := bnF' h17' | skip
      refine W_condF rfl h17 ?_
      refine W_skip ?_
      refine W_seq ?_
      obtain ⟨k, hk, hkl, hsp⟩ := spl_at (by omega : 0 ≤ Lib.indexByte rest c)
      rw [hk]
      refine W_region ?_
      refine L0 (wanted_none rfl) rfl (y_move (v := Value.slice _ _ _) rfl rfl) ?_
      refine L0 (wanted_none rfl) rfl (y_move (v := Value.int _ _) rfl rfl) ?_
      refine L0 (wanted_none rfl) rfl (y_move (v := Value.string ⟨⟨_⟩⟩) rfl rfl) ?_
      refine L0 (wanted_none rfl) rfl (y_move (v := Value.int _ _) rfl rfl) ?_
      refine L0 (wanted_none rfl) rfl (y_move (v := Value.int _ _) rfl rfl) ?_
      refine L0 (wanted_none rfl) rfl (y_add64 rfl rfl rfl (by omega)) ?_
      refine L0 (wanted_none rfl) rfl (y_sslice_hi rfl Tryz.underlying9 rfl rfl (by omega)) ?_
      refine L0 (wanted_none rfl) rfl (y_indexSl rfl Tryz.underlying46 sz9 rfl rfl (by omega) (by omega)) ?_
      refine Lc (wanted_none rfl) (c_store (i := 0) (v := str _) hs16 rfl rfl rfl rfl sz9 rfl rfl (by rw [rowL_len]; omega) (Fz.zero _) (fun w20 hs21 => ?_))
      have hs21 := hs21.at0E (c' := ⟨rowL (pre ++ [rest.take ((k : Int) + 0).toNat]) (s.count c + 1 - (pre ++ [rest.take ((k : Int) + 0).toNat]).length)⟩) (by
        show (⟨rowL pre (s.count c + 1 - pre.length)⟩ : Array Value).setIfInBounds (0 + ((pre.length : Nat) : Int).toNat * 1) (str _) = _
        rw [show 0 + ((pre.length : Nat) : Int).toNat * 1 = pre.length from by omega, show s.count c + 1 - pre.length = (s.count c - pre.length) + 1 from by omega, rowL_set]
        rw [List.length_append, List.length_singleton, show s.count c + 1 - (pre.length + 1) = s.count c - pre.length from by omega])
      refine Lnil ?_
      refine W_seq ?_
      refine W_region ?_
      refine L0 (wanted_none rfl) rfl (y_move (v := Value.string ⟨⟨_⟩⟩) rfl rfl) ?_
      refine L0 (wanted_none rfl) rfl (y_move (v := Value.int _ _) rfl rfl) ?_
      refine L0 (wanted_none rfl) rfl (y_move (v := Value.string ⟨⟨_⟩⟩) rfl rfl) ?_
      refine L0 (wanted_none rfl) rfl (y_len rfl Tryz.underlying9 rfl) ?_
      refine L0 (wanted_none rfl) rfl (y_add64 rfl rfl rfl (by omega)) ?_
      refine L0 (wanted_none rfl) rfl (y_sslice_lo rfl Tryz.underlying9 rfl rfl (by omega)) ?_
      refine L0 (wanted_none rfl) rfl (y_assign (v := Value.string ⟨⟨_⟩⟩) rfl rfl) ?_
      refine Lnil ?_
      refine W_region ?_
      refine L0 (wanted_none rfl) rfl (y_move (v := Value.int _ _) rfl rfl) ?_
      refine L0 (wanted_none rfl) rfl (y_add64 rfl rfl rfl (by omega)) ?_
      refine L0 (wanted_none rfl) rfl (y_assign (v := Value.int _ _) rfl rfl) ?_
      refine Lnil ?_
      exact ⟨(pre ++ [rest.take ((k : Int) + 0).toNat], rest.drop ((k : Int) + ([c].length : Nat)).toNat), by simp only [List.length_drop]; omega, _, A_c (iv_eq (by simp)) (A_c rfl (A_c rfl (A_c rfl (A_c rfl (A_c rfl (rfl)))))), (by rw [List.append_assoc, List.singleton_append, show ((k : Int) + ([c].length : Nat)).toNat = k + 1 from by omega, show ((k : Int) + 0).toNat = k from by omega, ← hsp]; exact hpre), (by simp only [List.length_drop]; omega), hs21⟩
  · have h13' := h13
    first | replace h13' := of_decide_eq_false h13' | replace h13' := bnF' h13' | skip
    refine W_condF rfl h13 ?_
    refine W_exit ?_
    refine W_seq ?_
    have hsr : spl c rest = [rest] := by first | exact spl_not (by omega) | exact spl_zero (by omega)
    have hr0 : rest.count c = 0 := by have := spl_len c rest; rw [hsr] at this; simp only [List.length_singleton] at this; omega
    refine W_region ?_
    refine L0 (wanted_none rfl) rfl (y_move (v := Value.slice _ _ _) rfl rfl) ?_
    refine L0 (wanted_none rfl) rfl (y_move (v := Value.int _ _) rfl rfl) ?_
    refine L0 (wanted_none rfl) rfl (y_move (v := Value.string ⟨⟨_⟩⟩) rfl rfl) ?_
    refine L0 (wanted_none rfl) rfl (y_indexSl rfl Tryz.underlying46 sz9 rfl rfl (by omega) (by omega)) ?_
    refine Lc (wanted_none rfl) (c_store (i := 0) (v := str _) hs12 rfl rfl rfl rfl sz9 rfl rfl (by rw [rowL_len]; omega) (Fz.zero _) (fun w22 hs23 => ?_))
    have hs23 := hs23.at0E (c' := ⟨(pre ++ [rest]).map str⟩) (by
      show (⟨rowL pre (s.count c + 1 - pre.length)⟩ : Array Value).setIfInBounds (0 + ((pre.length : Nat) : Int).toNat * 1) (str _) = _
      rw [show 0 + ((pre.length : Nat) : Int).toNat * 1 = pre.length from by omega, show s.count c + 1 - pre.length = 0 + 1 from by omega, rowL_set]
      simp [rowL])
    refine Lnil ?_
    refine W_seq ?_
    refine W_region ?_
    refine L0 (wanted_none rfl) rfl (y_move (v := Value.slice _ _ _) rfl rfl) ?_
    refine L0 (wanted_none rfl) rfl (y_move (v := Value.int _ _) rfl rfl) ?_
    refine L0 (wanted_none rfl) rfl (y_add64 rfl rfl rfl (by omega)) ?_
    refine L0 (wanted_none rfl) rfl (y_slsliceHi rfl Tryz.underlying46 sz9 rfl rfl (by omega)) ?_
    refine L0 (wanted_none rfl) rfl (y_assign (v := Value.slice _ _ _) rfl rfl) ?_
    refine Lnil ?_
    refine W_ret ?_
    refine fin1 (fn := Tryz.f49) rfl rfl ?_
    have hfin : spl c s = pre ++ [rest] := by rw [← hpre, hsr]
    have hln : (spl c s).length = ((pre.length : Int) + 1).toNat := by rw [hfin, List.length_append, List.length_singleton]; omega
    rw [← hln]
    exact ⟨_, _, rfl, by omega, hbb8, hfin ▸ hs23⟩
theorem split_any (s : List UInt8) (c : UInt8) (hl : s.length ≤ 100000) (w : World) : C Tryz.prog 30 ⟨[str s, str [c]]⟩ w fun v w' => ∃ b cap, v = .slice (some ⟨b, 0, none⟩) (spl c s).length cap ∧ (spl c s).length ≤ cap ∧ w.heap.size ≤ b ∧ St w [(b, .cells ⟨(spl c s).map str⟩ 9 (0, 0))] w' := by
  refine C_enter (n := 8) Tryz.func30 rfl rfl rfl (fun w1 hs1 => ?_)
  refine W_seq ?_
  refine W_region ?_
  refine L0 (wanted_none rfl) rfl (y_assign (v := Value.slice _ _ _) rfl rfl) ?_
  refine Lnil ?_
  refine W_seq ?_
  refine W_region ?_
  refine L0 (wanted_none rfl) rfl (y_move (v := Value.string ⟨⟨_⟩⟩) rfl rfl) ?_
  refine L0 (wanted_none rfl) rfl (y_move (v := Value.string ⟨⟨_⟩⟩) rfl rfl) ?_
  refine Lc (wanted_none rfl) (c_call rfl rfl rfl Tryz.func49 (by kernel_rfl) rfl (genSplit_any s c hl w1) rfl ?_)
  rintro vf w2 ⟨b, cap, rfl, hq1, hq2, hq3⟩
  have h8 := hs1.size
  have hs4 := hs1.call_new hq3 (fun x hx => by simp [keys] at hx; omega)
  refine L0 (wanted_none rfl) rfl (y_assign (v := Value.slice _ _ _) rfl rfl) ?_
  refine Lnil ?_
  refine W_ret ?_
  refine fin1 (fn := Tryz.f30) rfl rfl ?_
  exact ⟨b, cap, rfl, hq1, by omega, hs4⟩
end Go.Proofs.YtkolfgmpmnelmabGreatDoor.Ent
