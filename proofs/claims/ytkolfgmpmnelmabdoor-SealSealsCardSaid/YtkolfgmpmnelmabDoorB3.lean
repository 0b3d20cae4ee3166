/-
  Walks: ref.Xor, law.long, law.StreamBlocks.
-/
import Derived.Test.YtkolfgmpmnelmabDoorB2
import Derived.Test.YtkolfgmpmnelmabDoorT1
import Derived.Test.YtkolfgmpmnelmabDoorL1
namespace Go.Proofs.YtkolfgmpmnelmabDoor
open Go Vx Go.Proofs
set_option linter.unusedVariables false
set_option maxRecDepth 4000
set_option maxHeartbeats 400000

/-- A key's first blocks, one behind the other. -/
def allB (key nonce : List UInt8) : Nat → List UInt8
  | 0 => []
  | q + 1 => allB key nonce q ++ blockOf key ((q : Int) + 1) nonce
theorem allB_len (key nonce : List UInt8) : ∀ q, (allB key nonce q).length = 64 * q
  | 0 => rfl
  | q + 1 => by rw [allB, List.length_append, allB_len key nonce q, blockOf_len]; omega
theorem allB_get (key nonce : List UInt8) : ∀ (q i : Nat), i < 64 * q → (allB key nonce q).getD i 0 = ks key nonce i
  | 0, i, h => absurd h (by omega)
  | q + 1, i, h => by
    have hl := allB_len key nonce q
    rw [allB, List.getD_eq_getElem?_getD, List.getElem?_append]
    by_cases hi : i < 64 * q
    · rw [if_pos (by omega), ← List.getD_eq_getElem?_getD, allB_get key nonce q i hi]
    · rw [if_neg (by omega), hl, ← List.getD_eq_getElem?_getD, ks_eq (q := q) (by omega) (by omega), Int.add_comm]
theorem rxor_err (key nonce s : List UInt8) (hs : s.length ≤ 1000000) (h : ¬ (key.length = 32 ∧ nonce.length = 12)) (w : World) :
    C Tryd.prog 85 ⟨[str key, str nonce, str s]⟩ w fun v w' => v = .tuple #[str [], iv 1] ∧ St w [] w' := by
  refine C_enter (n := 57) Tryd.func85 rfl rfl rfl (fun w1 hs1 => ?_)
  refine W_seq ?_
  refine W_region ?_
  refine L0 (wanted_none rfl) rfl (y_assign (v := Value.string ⟨⟨_⟩⟩) rfl rfl) ?_
  refine L0 (wanted_none rfl) rfl (y_assign (v := Value.int _ _) rfl rfl) ?_
  refine Lnil ?_
  refine W_seq ?_
  refine W_region ?_
  refine L0 (wanted_none rfl) rfl (y_assign (v := Value.string ⟨⟨_⟩⟩) rfl rfl) ?_
  refine Lnil ?_
  refine W_seq ?_
  refine W_seq ?_
  refine W_region ?_
  refine L0 (wanted_none rfl) rfl (y_assign (v := Value.int _ _) rfl rfl) ?_
  refine Lnil ?_
  refine W_block ?_
  refine W_loop (G := Unit) (fun g aL wl => ∃ e, aL = A 57 ((9, iv 1) :: (8, str []) :: (0, str key) :: (1, str nonce) :: (2, str s) :: e) ∧ St w [] wl) (fun _ => 0) (()) ?_ ?_
  · exact ⟨_, A_pins _ _ [9, 8, 0, 1, 2], hs1⟩
  rintro g _ w2 ⟨ehs3, rfl, hs3⟩
  refine W_seq ?_
  refine W_seq ?_
  refine W_region ?_
  refine L0 (wanted_none rfl) rfl (y_move (v := Value.string ⟨⟨_⟩⟩) rfl rfl) ?_
  refine L0 (wanted_none rfl) rfl (y_len rfl Tryd.underlying9 rfl) ?_
  refine L0 (wanted_none rfl) rfl (y_move (v := Value.string ⟨⟨_⟩⟩) rfl rfl) ?_
  refine L0 (wanted_none rfl) rfl (y_len rfl Tryd.underlying9 rfl) ?_
  refine L0 (wanted_none rfl) rfl (y_lt rfl rfl rfl) ?_
  refine L0 (wanted_none rfl) rfl (y_move (v := Value.bool _) rfl rfl) ?_
  refine Lsp (t := 19) rfl (fun h4 => ?_) (fun h4 => ?_)
  · have h4' := h4
    first | replace h4' := of_decide_eq_true h4' | replace h4' := bnT' h4' | skip
    refine Lno (wanted_noB rfl rfl rfl h4 (by decide)) rfl ?_
    refine Lno (wanted_noB rfl rfl rfl h4 (by decide)) rfl ?_
    refine L0 (wanted_none rfl) rfl (y_pickT rfl rfl h4 rfl) ?_
    refine Lnil ?_
    refine W_condT rfl rfl ?_
    refine W_skip ?_
    refine W_seq ?_
    refine W_block ?_
    refine W_seq ?_
    refine W_region ?_
    refine L0 (wanted_none rfl) rfl (y_move (v := Value.string ⟨⟨_⟩⟩) rfl rfl) ?_
    refine L0 (wanted_none rfl) rfl (y_move (v := Value.int _ _) rfl rfl) ?_
    refine L0 (wanted_none rfl) rfl (y_move (v := Value.string ⟨⟨_⟩⟩) rfl rfl) ?_
    refine Lc (wanted_none rfl) (c_call rfl rfl rfl Tryd.func131 (by kernel_rfl) rfl (rblock_err _ _ _ (fun hh => h ⟨hh.1, hh.2.1⟩) w2) rfl ?_)
    rintro _ w5 ⟨rfl, hc6⟩
    have hs7 := hs3.call0 hc6
    refine L0 (wanted_none rfl) rfl (y_move (v := Value.tuple ⟨_⟩) rfl rfl) ?_
    refine L0 (wanted_none rfl) rfl (y_extract rfl rfl rfl) ?_
    refine L0 (wanted_none rfl) rfl (y_extract rfl rfl rfl) ?_
    refine L0 (wanted_none rfl) rfl (y_assign (v := Value.string ⟨⟨_⟩⟩) rfl rfl) ?_
    refine L0 (wanted_none rfl) rfl (y_assign (v := Value.int _ _) rfl rfl) ?_
    refine Lnil ?_
    refine W_seq ?_
    refine W_seq ?_
    refine W_region ?_
    refine L0 (wanted_none rfl) rfl (y_move (v := Value.int _ _) rfl rfl) ?_
    refine L0 (wanted_none rfl) rfl (y_ne rfl rfl rfl) ?_
    refine Lnil ?_
    refine Wkn (t := 33) (b0 := true) rfl (by rfl) (fun h8 => ?_)
    refine W_condT rfl h8 ?_
    refine W_seq ?_
    refine W_region ?_
    refine L0 (wanted_none rfl) rfl (y_move (v := Value.int _ _) rfl rfl) ?_
    refine L0 (wanted_none rfl) rfl (y_assign (v := Value.string ⟨⟨_⟩⟩) rfl rfl) ?_
    refine L0 (wanted_none rfl) rfl (y_assign (v := Value.int _ _) rfl rfl) ?_
    refine Lnil ?_
    refine W_ret ?_
    refine fin2 (fn := Tryd.f85) rfl rfl rfl ?_
    exact ⟨rfl, hs7⟩
  · have h4' := h4
    first | replace h4' := of_decide_eq_false h4' | replace h4' := bnF' h4' | skip
    refine L0 (wanted_yesB rfl rfl rfl h4) rfl (y_move (v := Value.int _ _) rfl rfl) ?_
    refine L0 (wanted_yesB rfl rfl rfl h4) rfl (y_eq rfl rfl rfl) ?_
    refine L0 (wanted_none rfl) rfl (y_pickF rfl rfl h4 rfl) ?_
    refine Lnil ?_
    refine Wkn (t := 22) (b0 := true) rfl (by rfl) (fun h9 => ?_)
    refine W_condT rfl h9 ?_
    refine W_skip ?_
    refine W_seq ?_
    refine W_block ?_
    refine W_seq ?_
    refine W_region ?_
    refine L0 (wanted_none rfl) rfl (y_move (v := Value.string ⟨⟨_⟩⟩) rfl rfl) ?_
    refine L0 (wanted_none rfl) rfl (y_move (v := Value.int _ _) rfl rfl) ?_
    refine L0 (wanted_none rfl) rfl (y_move (v := Value.string ⟨⟨_⟩⟩) rfl rfl) ?_
    refine Lc (wanted_none rfl) (c_call rfl rfl rfl Tryd.func131 (by kernel_rfl) rfl (rblock_err _ _ _ (fun hh => h ⟨hh.1, hh.2.1⟩) w2) rfl ?_)
    rintro _ w10 ⟨rfl, hc11⟩
    have hs12 := hs3.call0 hc11
    refine L0 (wanted_none rfl) rfl (y_move (v := Value.tuple ⟨_⟩) rfl rfl) ?_
    refine L0 (wanted_none rfl) rfl (y_extract rfl rfl rfl) ?_
    refine L0 (wanted_none rfl) rfl (y_extract rfl rfl rfl) ?_
    refine L0 (wanted_none rfl) rfl (y_assign (v := Value.string ⟨⟨_⟩⟩) rfl rfl) ?_
    refine L0 (wanted_none rfl) rfl (y_assign (v := Value.int _ _) rfl rfl) ?_
    refine Lnil ?_
    refine W_seq ?_
    refine W_seq ?_
    refine W_region ?_
    refine L0 (wanted_none rfl) rfl (y_move (v := Value.int _ _) rfl rfl) ?_
    refine L0 (wanted_none rfl) rfl (y_ne rfl rfl rfl) ?_
    refine Lnil ?_
    refine Wkn (t := 33) (b0 := true) rfl (by rfl) (fun h13 => ?_)
    refine W_condT rfl h13 ?_
    refine W_seq ?_
    refine W_region ?_
    refine L0 (wanted_none rfl) rfl (y_move (v := Value.int _ _) rfl rfl) ?_
    refine L0 (wanted_none rfl) rfl (y_assign (v := Value.string ⟨⟨_⟩⟩) rfl rfl) ?_
    refine L0 (wanted_none rfl) rfl (y_assign (v := Value.int _ _) rfl rfl) ?_
    refine Lnil ?_
    refine W_ret ?_
    refine fin2 (fn := Tryd.f85) rfl rfl rfl ?_
    exact ⟨rfl, hs12⟩
theorem rxor_any (key nonce s : List UInt8) (hs : s.length ≤ 1000000) (hk : key.length = 32) (hn : nonce.length = 12) (w : World) :
    C Tryd.prog 85 ⟨[str key, str nonce, str s]⟩ w fun v w' => v = .tuple #[str (xorOf key nonce s), iv 0] ∧ St w [] w' := by
  refine C_enter (n := 57) Tryd.func85 rfl rfl rfl (fun w1 hs1 => ?_)
  refine W_seq ?_
  refine W_region ?_
  refine L0 (wanted_none rfl) rfl (y_assign (v := Value.string ⟨⟨_⟩⟩) rfl rfl) ?_
  refine L0 (wanted_none rfl) rfl (y_assign (v := Value.int _ _) rfl rfl) ?_
  refine Lnil ?_
  refine W_seq ?_
  refine W_region ?_
  refine L0 (wanted_none rfl) rfl (y_assign (v := Value.string ⟨⟨_⟩⟩) rfl rfl) ?_
  refine Lnil ?_
  refine W_seq ?_
  refine W_seq ?_
  refine W_region ?_
  refine L0 (wanted_none rfl) rfl (y_assign (v := Value.int _ _) rfl rfl) ?_
  refine Lnil ?_
  refine W_block ?_
  refine W_loop (G := Nat) (fun q aL wl => ∃ e, aL = A 57 ((9, iv ((q : Int) + 1)) :: (8, str (allB key nonce q)) :: (0, str key) :: (1, str nonce) :: (2, str s) :: e) ∧ 64 * q ≤ s.length + 64 ∧ St w [] wl) (fun q => s.length + 64 - 64 * q) (0) ?_ ?_
  · exact ⟨_, A_pins _ _ [9, 8, 0, 1, 2], by omega, hs1⟩
  rintro q _ w2 ⟨ehs3, rfl, hq, hs3⟩
  have hA := allB_len key nonce q
  have hB := blockOf_len key ((q : Int) + 1) nonce
  refine W_seq ?_
  refine W_seq ?_
  refine W_region ?_
  refine L0 (wanted_none rfl) rfl (y_move (v := Value.string ⟨⟨_⟩⟩) rfl rfl) ?_
  refine L0 (wanted_none rfl) rfl (y_len rfl Tryd.underlying9 rfl) ?_
  refine L0 (wanted_none rfl) rfl (y_move (v := Value.string ⟨⟨_⟩⟩) rfl rfl) ?_
  refine L0 (wanted_none rfl) rfl (y_len rfl Tryd.underlying9 rfl) ?_
  refine L0 (wanted_none rfl) rfl (y_lt rfl rfl rfl) ?_
  refine L0 (wanted_none rfl) rfl (y_move (v := Value.bool _) rfl rfl) ?_
  refine Lsp (t := 19) rfl (fun h4 => ?_) (fun h4 => ?_)
  · have h4' := h4
    first | replace h4' := of_decide_eq_true h4' | replace h4' := bnT' h4' | skip
    refine Lno (wanted_noB rfl rfl rfl h4 (by decide)) rfl ?_
    refine Lno (wanted_noB rfl rfl rfl h4 (by decide)) rfl ?_
    refine L0 (wanted_none rfl) rfl (y_pickT rfl rfl h4 rfl) ?_
    refine Lnil ?_
    refine W_condT rfl rfl ?_
    refine W_skip ?_
    refine W_seq ?_
    refine W_block ?_
    refine W_seq ?_
    refine W_region ?_
    refine L0 (wanted_none rfl) rfl (y_move (v := Value.string ⟨⟨_⟩⟩) rfl rfl) ?_
    refine L0 (wanted_none rfl) rfl (y_move (v := Value.int _ _) rfl rfl) ?_
    refine L0 (wanted_none rfl) rfl (y_move (v := Value.string ⟨⟨_⟩⟩) rfl rfl) ?_
    refine Lc (wanted_none rfl) (c_call rfl rfl rfl Tryd.func131 (by kernel_rfl) rfl (rblock_any key nonce _ hk hn (by omega) (by omega) w2) rfl ?_)
    rintro _ w5 ⟨rfl, hc6⟩
    have hs7 := hs3.call0 hc6
    refine L0 (wanted_none rfl) rfl (y_move (v := Value.tuple ⟨_⟩) rfl rfl) ?_
    refine L0 (wanted_none rfl) rfl (y_extract rfl rfl rfl) ?_
    refine L0 (wanted_none rfl) rfl (y_extract rfl rfl rfl) ?_
    refine L0 (wanted_none rfl) rfl (y_assign (v := Value.string ⟨⟨_⟩⟩) rfl rfl) ?_
    refine L0 (wanted_none rfl) rfl (y_assign (v := Value.int _ _) rfl rfl) ?_
    refine Lnil ?_
    refine W_seq ?_
    refine W_seq ?_
    refine W_region ?_
    refine L0 (wanted_none rfl) rfl (y_move (v := Value.int _ _) rfl rfl) ?_
    refine L0 (wanted_none rfl) rfl (y_ne rfl rfl rfl) ?_
    refine Lnil ?_
    refine Wkn (t := 33) (b0 := false) rfl (by rfl) (fun h8 => ?_)
    refine W_condF rfl h8 ?_
    refine W_skip ?_
    refine W_region ?_
    refine L0 (wanted_none rfl) rfl (y_move (v := Value.string ⟨⟨_⟩⟩) rfl rfl) ?_
    refine L0 (wanted_none rfl) rfl (y_move (v := Value.string ⟨⟨_⟩⟩) rfl rfl) ?_
    refine L0 (wanted_none rfl) rfl (y_scat rfl rfl rfl (by first | omega | (simp; omega) | (simp only [List.length_append, List.length_cons, List.length_nil]; omega))) ?_
    refine L0 (wanted_none rfl) rfl (y_assign (v := Value.string ⟨⟨_⟩⟩) rfl rfl) ?_
    refine Lnil ?_
    refine W_region ?_
    refine L0 (wanted_none rfl) rfl (y_move (v := Value.int _ _) rfl rfl) ?_
    refine L0 (wanted_none rfl) rfl (y_add64 rfl rfl rfl (by omega)) ?_
    refine L0 (wanted_none rfl) rfl (y_assign (v := Value.int _ _) rfl rfl) ?_
    refine Lnil ?_
    exact ⟨q + 1, by (try dsimp only); omega, _, A_c (iv_eq (by (try dsimp only); omega)) (A_c rfl (A_c rfl (A_c rfl (A_c rfl (rfl))))), by omega, hs7⟩
  · have h4' := h4
    first | replace h4' := of_decide_eq_false h4' | replace h4' := bnF' h4' | skip
    refine L0 (wanted_yesB rfl rfl rfl h4) rfl (y_move (v := Value.int _ _) rfl rfl) ?_
    refine L0 (wanted_yesB rfl rfl rfl h4) rfl (y_eq rfl rfl rfl) ?_
    refine L0 (wanted_none rfl) rfl (y_pickF rfl rfl h4 rfl) ?_
    refine Lnil ?_
    refine Wsp (t := 22) rfl (fun h9 => ?_) (fun h9 => ?_)
    · have h9' := h9
      first | replace h9' := of_decide_eq_true h9' | replace h9' := bnT' h9' | skip
      refine W_condT rfl h9 ?_
      refine W_skip ?_
      refine W_seq ?_
      refine W_block ?_
      refine W_seq ?_
      refine W_region ?_
      refine L0 (wanted_none rfl) rfl (y_move (v := Value.string ⟨⟨_⟩⟩) rfl rfl) ?_
      refine L0 (wanted_none rfl) rfl (y_move (v := Value.int _ _) rfl rfl) ?_
      refine L0 (wanted_none rfl) rfl (y_move (v := Value.string ⟨⟨_⟩⟩) rfl rfl) ?_
      refine Lc (wanted_none rfl) (c_call rfl rfl rfl Tryd.func131 (by kernel_rfl) rfl (rblock_any key nonce _ hk hn (by omega) (by omega) w2) rfl ?_)
      rintro _ w10 ⟨rfl, hc11⟩
      have hs12 := hs3.call0 hc11
      refine L0 (wanted_none rfl) rfl (y_move (v := Value.tuple ⟨_⟩) rfl rfl) ?_
      refine L0 (wanted_none rfl) rfl (y_extract rfl rfl rfl) ?_
      refine L0 (wanted_none rfl) rfl (y_extract rfl rfl rfl) ?_
      refine L0 (wanted_none rfl) rfl (y_assign (v := Value.string ⟨⟨_⟩⟩) rfl rfl) ?_
      refine L0 (wanted_none rfl) rfl (y_assign (v := Value.int _ _) rfl rfl) ?_
      refine Lnil ?_
      refine W_seq ?_
      refine W_seq ?_
      refine W_region ?_
      refine L0 (wanted_none rfl) rfl (y_move (v := Value.int _ _) rfl rfl) ?_
      refine L0 (wanted_none rfl) rfl (y_ne rfl rfl rfl) ?_
      refine Lnil ?_
      refine Wkn (t := 33) (b0 := false) rfl (by rfl) (fun h13 => ?_)
      refine W_condF rfl h13 ?_
      refine W_skip ?_
      refine W_region ?_
      refine L0 (wanted_none rfl) rfl (y_move (v := Value.string ⟨⟨_⟩⟩) rfl rfl) ?_
      refine L0 (wanted_none rfl) rfl (y_move (v := Value.string ⟨⟨_⟩⟩) rfl rfl) ?_
      refine L0 (wanted_none rfl) rfl (y_scat rfl rfl rfl (by first | omega | (simp; omega) | (simp only [List.length_append, List.length_cons, List.length_nil]; omega))) ?_
      refine L0 (wanted_none rfl) rfl (y_assign (v := Value.string ⟨⟨_⟩⟩) rfl rfl) ?_
      refine Lnil ?_
      refine W_region ?_
      refine L0 (wanted_none rfl) rfl (y_move (v := Value.int _ _) rfl rfl) ?_
      refine L0 (wanted_none rfl) rfl (y_add64 rfl rfl rfl (by omega)) ?_
      refine L0 (wanted_none rfl) rfl (y_assign (v := Value.int _ _) rfl rfl) ?_
      refine Lnil ?_
      exact ⟨q + 1, by (try dsimp only); omega, _, A_c (iv_eq (by (try dsimp only); omega)) (A_c rfl (A_c rfl (A_c rfl (A_c rfl (rfl))))), by omega, hs12⟩
    · have h9' := h9
      first | replace h9' := of_decide_eq_false h9' | replace h9' := bnF' h9' | skip
      refine W_condF rfl h9 ?_
      refine W_exit ?_
      refine W_seq ?_
      refine W_region ?_
      refine L0 (wanted_none rfl) rfl (y_move (v := Value.string ⟨⟨_⟩⟩) rfl rfl) ?_
      refine Lc (wanted_none rfl) (c_tobytes hs3 rfl rfl Tryd.underlying9 Tryd.underlying113 Tryd.underlying5 rfl (by omega) (fun b14 capb14 curb14 fzb14 w15 hbb14 hs16 => ?_))
      refine L0 (wanted_none rfl) rfl (y_assign (v := Value.slice _ _ _) rfl rfl) ?_
      refine Lnil ?_
      refine W_seq ?_
      refine W_seq ?_
      refine W_region ?_
      refine L0 (wanted_none rfl) rfl (y_move (v := Value.slice _ _ _) rfl rfl) ?_
      refine L0 (wanted_none rfl) rfl (y_slen rfl Tryd.underlying113 rfl) ?_
      refine L0 (wanted_none rfl) rfl (y_move (v := Value.int _ _) rfl rfl) ?_
      refine Lnil ?_
      refine W_block ?_
      refine W_loop (G := Nat × Array Value) (fun g aL wl => ∃ e, aL = A 57 ((42, iv (g.1 : Int)) :: (41, iv s.length) :: (12, .slice (some ⟨b14, 0, none⟩) s.length capb14) :: (8, str (allB key nonce q)) :: e) ∧ g.1 ≤ s.length ∧ Bytes w.heap.size b14 capb14 g.2 fzb14 (xorN s (ks key nonce) g.1) ∧ St w [(b14, .cells g.2 5 fzb14)] wl) (fun g => s.length - g.1) ((0, curb14)) ?_ ?_
      · exact ⟨_, A_pins _ _ [42, 41, 12, 8], Nat.zero_le _, hbb14, hs16⟩
      rintro g _ w17 ⟨ehs18, rfl, hj1, hB2, hs18⟩
      obtain ⟨j, cur2⟩ := g
      dsimp only at *
      refine W_seq ?_
      refine W_region ?_
      refine L0 (wanted_none rfl) rfl (y_lt rfl rfl rfl) ?_
      refine Lnil ?_
      refine W_seq ?_
      refine Wsp (t := 43) rfl (fun h19 => ?_) (fun h19 => ?_)
      · have h19' := h19
        first | replace h19' := of_decide_eq_true h19' | replace h19' := bnT' h19' | skip
        refine W_condT rfl h19 ?_
        refine W_skip ?_
        refine W_seq ?_
        refine W_block ?_
        refine W_seq ?_
        refine W_region ?_
        refine L0 (wanted_none rfl) rfl (y_move (v := Value.int _ _) rfl rfl) ?_
        refine L0 (wanted_none rfl) rfl (y_assign (v := Value.int _ _) rfl rfl) ?_
        refine Lnil ?_
        refine W_drawSt [(0, 0), (0, 1), (0, 4), (0, 5), (0, 2), (0, 6), (1, 3), (0, 7), (0, 8), (2, 9)] hs18 mixed (by kernel_rfl) (fun w20 hs21 => ?_)
        refine E0 (wanted_none rfl) rfl (y_move (v := Value.slice _ _ _) rfl rfl) ?_
        refine E0 (wanted_none rfl) rfl (y_move (v := Value.int _ _) rfl rfl) ?_
        refine E0 (wanted_none rfl) rfl (y_move (v := Value.string ⟨⟨_⟩⟩) rfl rfl) ?_
        refine E0 (wanted_none rfl) rfl (y_move (v := Value.int _ _) rfl rfl) ?_
        refine E0 (wanted_none rfl) rfl (y_indexSl rfl Tryd.underlying113 sz5 rfl rfl (by omega) (by omega)) ?_
        refine E0 (wanted_none rfl) rfl (y_sindex rfl Tryd.underlying9 rfl rfl (by omega) (by omega)) ?_
        refine E1 hs21 (wanted_none rfl) rfl (y_load 0 rfl Tryd.underlying5 rfl rfl rfl (Bytes.get' hB2 (by rw [xorN_len]; omega))) ?_
        refine E0 (wanted_none rfl) rfl (y_xor8 rfl rfl rfl) ?_
        refine E0 (wanted_none rfl) rfl (y_indexSl rfl Tryd.underlying113 sz5 rfl rfl (by omega) (by omega)) ?_
        refine E2 (wanted_none rfl) (c_store (i := 0) (v := bv _) hs21 rfl rfl rfl rfl sz5 rfl rfl (by rw [hB2.size]; have := hB2.room; rw [xorN_len] at this; simp; omega) (hB2.fz) (fun w22 hs23 => ?_))
        have hB4 := hB2.set j ((xorN s (ks key nonce) j).getD j 0 ^^^ ks key nonce j)
        rw [xor_step s _ j (by omega)] at hB4
        rw [List.set_cons_zero, ix, show ((j : Int)).toNat = j from rfl, allB_get key nonce q j (by omega)] at hs23
        refine Enil ?_
        refine W_region ?_
        refine L0 (wanted_none rfl) rfl (y_add64 rfl rfl rfl (by omega)) ?_
        refine L0 (wanted_none rfl) rfl (y_move (v := Value.int _ _) rfl rfl) ?_
        refine Lnil ?_
        exact ⟨(j + 1, _), by (try dsimp only); omega, _, A_c (iv_eq (by (try dsimp only); omega)) (A_c rfl (A_c rfl (A_c rfl (rfl)))), by (dsimp only; omega), hB4, hs23⟩
      · have h19' := h19
        first | replace h19' := of_decide_eq_false h19' | replace h19' := bnF' h19' | skip
        refine W_condF rfl h19 ?_
        refine W_exit ?_
        refine W_seq ?_
        obtain rfl : j = s.length := by omega
        have hrow : Row w.heap.size 5 1 (.slice (some ⟨b14, 0, none⟩) s.length capb14) s.length ((xorOf key nonce s).map bv) [(b14, .cells cur2 5 fzb14)] := by
          have h := hB2.row (E := 5)
          rw [xorN_len] at h; exact h
        refine W_region ?_
        refine L0 (wanted_none rfl) rfl (y_move (v := Value.slice _ _ _) rfl rfl) ?_
        refine L1 (wanted_none rfl) rfl hs18 (y_bstr rfl Tryd.underlying113 Tryd.underlying5 Tryd.underlying9 rfl hrow (fun x hx => by first | exact hx | exact List.mem_cons.2 (.inl (List.mem_singleton.1 hx)) | simp [hx])) ?_
        refine L0 (wanted_none rfl) rfl (y_assign (v := Value.string ⟨⟨_⟩⟩) rfl rfl) ?_
        refine L0 (wanted_none rfl) rfl (y_assign (v := Value.int _ _) rfl rfl) ?_
        refine Lnil ?_
        refine W_ret ?_
        refine fin2 (fn := Tryd.f85) rfl rfl rfl ?_
        exact ⟨rfl, hs18.drop (.inl hbb14.new)⟩
end Go.Proofs.YtkolfgmpmnelmabDoor
