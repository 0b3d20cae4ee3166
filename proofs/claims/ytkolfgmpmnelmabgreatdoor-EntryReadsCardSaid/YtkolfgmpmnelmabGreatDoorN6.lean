/-
  Walk: strings.SplitSeq at one byte, and what it hands out.
-/
import Derived.Test.YtkolfgmpmnelmabGreatDoorN5
import Derived.Test.YtkolfgmpmnelmabGreatDoorVz
namespace Go.Proofs.YtkolfgmpmnelmabGreatDoor.Ent
open Go Vx Go.Proofs Go.RowKit
set_option linter.unusedVariables false
set_option maxRecDepth 8000
set_option maxHeartbeats 1000000
theorem index_one (s : List UInt8) (c : UInt8) (w : World) : C Tryz.prog 65 ⟨[str s, str [c]]⟩ w fun v w' => v = iv (Lib.indexByte s c) ∧ w' = w :=
  Calls.mono (Tryz.strings_Index_one ⟨⟨s⟩⟩ c w) fun e w' ⟨he, hb⟩ => ⟨_, he, rfl, hb⟩
/-- Where the first c lies, the text is cut. -/
theorem spl_at : ∀ {s : List UInt8} {c : UInt8}, 0 ≤ Lib.indexByte s c → ∃ k : Nat, Lib.indexByte s c = k ∧ k < s.length ∧ spl c s = s.take k :: spl c (s.drop (k + 1))
  | [], c, h => by simp [Lib.indexByte] at h
  | b :: s, c, h => by
    rw [Lib.indexByte] at h ⊢
    by_cases e : b = c
    · subst e
      refine ⟨0, by simp, by simp, ?_⟩
      rw [spl, if_pos rfl]; simp
    · have e1 : (b == c) = false := by simpa using e
      simp only [e1, Bool.false_eq_true, if_false] at h ⊢
      by_cases h2 : Lib.indexByte s c = -1
      · rw [h2] at h; simp at h
      · have h3 : (Lib.indexByte s c == -1) = false := by simpa using h2
        simp only [h3, Bool.false_eq_true, if_false] at h ⊢
        have h4 : 0 ≤ Lib.indexByte s c := by
          have h5 : -1 ≤ Lib.indexByte s c := by
            clear h h2 h3
            induction s with
            | nil => simp [Lib.indexByte]
            | cons x r ih2 => rw [Lib.indexByte]; split; · omega
                              split; · omega
                              omega
          omega
        obtain ⟨k, hk, hl, he⟩ := spl_at h4
        refine ⟨k + 1, by rw [hk]; rfl, by simp; omega, ?_⟩
        rw [spl, if_neg e, he]; simp
theorem spl_not {s : List UInt8} {c : UInt8} (h : Lib.indexByte s c < 0) : spl c s = [s] := by
  refine spl_none fun hm => ?_
  have := (indexByte_ge s c).2 (by simpa using hm)
  omega
/-- What may come next of the pieces. -/
def NextP (c : UInt8) (s : List UInt8) (pre : List (List UInt8)) (x : List UInt8) : Prop := ∃ rest, pre ++ x :: rest = spl c s
def sEnc (x : List UInt8) : Array Value := #[str x]
theorem own3 {W : World} {bs bp bz : Nat} {x y z : Obj} (h1 : bs ≠ bp) (h2 : bs ≠ bz) (h3 : bp ≠ bz) (k1 : W.heap[bs]? = some x) (k2 : W.heap[bp]? = some y) (k3 : W.heap[bz]? = some z) : St W [(bs, x), (bp, y), (bz, z)] W :=
  (((St.init W).borrow k3 (by simp [keys])).borrow k2 (by simp [keys]; omega)).borrow k1 (by simp [keys]; omega)
theorem splitSeq1_in (c : UInt8) (s : List UInt8) (bs bp bz : Nat) (n1 : bs ≠ bp) (n2 : bs ≠ bz) (n3 : bp ≠ bz) (hl : s.length ≤ 9223372036854775807) (l : Nat) (J Jx : List (List UInt8) → World → Prop) (hJs : ∀ pre A v, J pre A → J pre (A.setCell ⟨bs, 0, none⟩ v))
    (hY : ∀ pre x W1, J pre W1 → NextP c s pre x → YieldAt Fence.wide 1 Tryz.prog l (sEnc x) W1 fun e W' => (e = .returned (.bool true) ∧ J (pre ++ [x]) W' ∧ Same [bs, bp, bz] W1 W') ∨ (e = .returned (.bool false) ∧ Jx (pre ++ [x]) W'))
    (w : World) (k1 : w.heap[bs]? = some (.cells #[str s] 9 (0, 0))) (k2 : w.heap[bp]? = some (.cells #[str [c]] 9 (0, 0))) (k3 : w.heap[bz]? = some (.cells #[iv 0] 3 (0, 0))) (h0 : J [] w) :
    C Tryz.prog 71 ⟨[.func (.yield l) #[] #[], pv bp 0, pv bs 0, pv bz 0]⟩ w fun v W' => (∃ ys, ys = spl c s ∧ J ys W') ∨ (∃ pre, Jx pre W') := by
  have hs0 := own3 n1 n2 n3 k1 k2 k3
  have hc1 : ([c] : List UInt8).length = 1 := rfl
  refine C_enterX (n := 52) Tryz.func71 rfl rfl rfl ?_
  refine W_seq ?_
  refine W_seq ?_
  refine W_region ?_
  refine L1 (wanted_none rfl) rfl hs0 (y_load 1 rfl Tryz.underlying9 rfl rfl rfl rfl) ?_
  refine L0 (wanted_none rfl) rfl (y_len rfl Tryz.underlying9 rfl) ?_
  refine L0 (wanted_none rfl) rfl (y_eq rfl rfl rfl) ?_
  refine Lnil ?_
  refine Wkn (t := 11) (b0 := false) rfl (by exact decide_eq_false (by omega)) (fun h2 => ?_)
  refine W_condF rfl h2 ?_
  refine W_skip ?_
  refine W_seq ?_
  refine W_block ?_
  refine W_loop (G := List (List UInt8) × List UInt8) (fun g aL wl => ∃ e, aL = A 52 ((0, .func (.yield l) #[] #[]) :: (1, pv bp 0) :: (2, pv bs 0) :: (3, pv bz 0) :: e) ∧ g.1 ++ spl c g.2 = spl c s ∧ g.2.length ≤ s.length ∧ J g.1 wl ∧ St wl [(bs, .cells #[str g.2] 9 (0, 0)), (bp, .cells #[str [c]] 9 (0, 0)), (bz, .cells #[iv 0] 3 (0, 0))] wl) (fun g => g.2.length) (([], s)) ?_ ?_
  · exact ⟨_, A_pins _ _ [0, 1, 2, 3], rfl, Nat.le_refl _, h0, hs0⟩
  rintro g _ w3 ⟨ehs4, rfl, hpre, hrl, hJ, hs4⟩
  obtain ⟨pre, rest⟩ := g
  dsimp only at *
  refine W_block ?_
  refine W_seq ?_
  refine W_region ?_
  refine L1 (wanted_none rfl) rfl hs4 (y_load 0 rfl Tryz.underlying9 rfl rfl rfl rfl) ?_
  refine L1 (wanted_none rfl) rfl hs4 (y_load 1 rfl Tryz.underlying9 rfl rfl rfl rfl) ?_
  refine Lc (wanted_none rfl) (c_call rfl rfl rfl Tryz.func65 (by kernel_rfl) rfl (index_one rest c w3) rfl ?_)
  rintro _ w5 ⟨rfl, hww⟩
  subst hww
  have hs7 := hs4
  refine L0 (wanted_none rfl) rfl (y_assign (v := Value.int _ _) rfl rfl) ?_
  refine Lnil ?_
  refine W_seq ?_
  refine W_seq ?_
  refine W_region ?_
  refine L0 (wanted_none rfl) rfl (y_move (v := Value.int _ _) rfl rfl) ?_
  refine L0 (wanted_none rfl) rfl (y_lt rfl rfl rfl) ?_
  refine Lnil ?_
  refine Wsp (t := 33) rfl (fun h8 => ?_) (fun h8 => ?_)
  · have h8' := h8
    first | replace h8' := of_decide_eq_true h8' | replace h8' := bnT' h8' | skip
    refine W_condT rfl h8 ?_
    refine W_exit ?_
    have hrn : NextP c s pre rest := ⟨[], by rw [← hpre, spl_not (by omega)]⟩
    refine W_regionY ?_
    refine YL0 (wanted_none rfl) rfl (y_move (v := Value.func _ _ _) rfl rfl) ?_
    refine YL1 (wanted_none rfl) rfl hs7 (y_load 0 rfl Tryz.underlying9 rfl rfl rfl rfl) ?_
    refine YLc (wanted_none rfl) rfl rfl rfl rfl (hY pre rest w5 hJ hrn) (fun w10 hy9 => ?_) (fun w10 hy9 => ?_)
    · skip
      obtain ⟨hJ3, hSm⟩ := hy9
      refine YLnil ?_
      refine fin0 (fn := Tryz.f71) rfl ?_
      first | exact .inr ⟨_, hz⟩ | exact .inl ⟨_, by rw [← hpre, spl_not (by omega)], hJ3⟩
    · skip
      have hz := hy9
      refine YLnil ?_
      refine fin0 (fn := Tryz.f71) rfl ?_
      first | exact .inr ⟨_, hz⟩ | exact .inl ⟨_, by rw [← hpre, spl_not (by omega)], hJ3⟩
  · have h8' := h8
    first | replace h8' := of_decide_eq_false h8' | replace h8' := bnF' h8' | skip
    refine W_condF rfl h8 ?_
    refine W_skip ?_
    refine W_seq ?_
    obtain ⟨k, hk, hkl, hsp⟩ := spl_at (by omega : 0 ≤ Lib.indexByte rest c)
    rw [hk]
    obtain ⟨x, hx⟩ : ∃ x, x = rest.take ((k : Int) + 0).toNat := ⟨_, rfl⟩
    have hx2 : x = rest.take k := by rw [hx, show ((k : Int) + 0).toNat = k from by omega]
    have hkn : NextP c s pre x := ⟨spl c (rest.drop (k + 1)), by rw [hx2, ← hsp]; exact hpre⟩
    refine W_region ?_
    refine L1 (wanted_none rfl) rfl hs7 (y_load 0 rfl Tryz.underlying9 rfl rfl rfl rfl) ?_
    refine L0 (wanted_none rfl) rfl (y_move (v := Value.int _ _) rfl rfl) ?_
    refine L1 (wanted_none rfl) rfl hs7 (y_load 2 rfl Tryz.underlying3 rfl rfl rfl rfl) ?_
    refine L0 (wanted_none rfl) rfl (y_add64 rfl rfl rfl (by omega)) ?_
    refine L0 (wanted_none rfl) rfl (y_sslice_hi rfl Tryz.underlying9 rfl rfl (by omega)) ?_
    refine L0 (wanted_none rfl) rfl (y_assign (v := Value.string ⟨⟨_⟩⟩) rfl rfl) ?_
    refine Lnil ?_
    refine W_seq ?_
    refine W_seq ?_
    refine W_regionY ?_
    refine YL0 (wanted_none rfl) rfl (y_move (v := Value.func _ _ _) rfl rfl) ?_
    refine YL0 (wanted_none rfl) rfl (y_move (v := Value.string ⟨⟨_⟩⟩) rfl rfl) ?_
    refine YLc (wanted_none rfl) rfl rfl rfl rfl (hx ▸ hY pre x w5 hJ hkn) (fun w14 hy13 => ?_) (fun w14 hy13 => ?_)
    · skip
      obtain ⟨hJ2, hSm⟩ := hy13
      rw [← hx] at hJ2
      have hs15 := own3 n1 n2 n3 ((hSm bs (by simp)).trans (hs7.get 0 rfl)) ((hSm bp (by simp)).trans (hs7.get 1 rfl)) ((hSm bz (by simp)).trans (hs7.get 2 rfl))
      refine YL0 (wanted_none rfl) rfl (y_not rfl rfl) ?_
      refine YLkn (t := 42) (b0 := false) rfl (by first | rfl | (rw [rfl]; rfl)) (fun h16 => ?_)
      refine YLnil ?_
      refine W_condF rfl h16 ?_
      refine W_skip ?_
      refine W_region ?_
      refine L1 (wanted_none rfl) rfl hs15 (y_load 0 rfl Tryz.underlying9 rfl rfl rfl rfl) ?_
      refine L0 (wanted_none rfl) rfl (y_move (v := Value.int _ _) rfl rfl) ?_
      refine L1 (wanted_none rfl) rfl hs15 (y_load 1 rfl Tryz.underlying9 rfl rfl rfl rfl) ?_
      refine L0 (wanted_none rfl) rfl (y_len rfl Tryz.underlying9 rfl) ?_
      refine L0 (wanted_none rfl) rfl (y_add64 rfl rfl rfl (by omega)) ?_
      refine L0 (wanted_none rfl) rfl (y_sslice_lo rfl Tryz.underlying9 rfl rfl (by omega)) ?_
      refine Lc (wanted_none rfl) (c_storeX (i := 0) (v := str _) hs15 rfl rfl rfl rfl sz9 rfl rfl (by show 0 < 1; decide) (Fz.zero _) (fun hs18 => ?_))
      refine Lnil ?_
      exact ⟨(pre ++ [x], rest.drop ((k : Int) + ([c].length : Nat)).toNat), by simp only [List.length_drop]; omega, _, A_c rfl (A_c rfl (A_c rfl (A_c rfl (rfl)))), (by rw [List.append_assoc, List.singleton_append, hx2, show ((k : Int) + ([c].length : Nat)).toNat = k + 1 from by omega, ← hsp]; exact hpre), (by simp only [List.length_drop]; omega), hJs _ _ _ hJ2, hs18.self⟩
    · skip
      have hz := hy13
      refine YL0 (wanted_none rfl) rfl (y_not rfl rfl) ?_
      refine YLkn (t := 42) (b0 := true) rfl (by first | rfl | (rw [rfl]; rfl)) (fun h20 => ?_)
      refine YLnil ?_
      refine W_condT rfl h20 ?_
      refine W_ret ?_
      refine fin0 (fn := Tryz.f71) rfl ?_
      first | exact .inr ⟨_, hz⟩ | exact .inl ⟨_, by rw [← hpre, spl_not (by omega)], hJ3⟩
end Go.Proofs.YtkolfgmpmnelmabGreatDoor.Ent
