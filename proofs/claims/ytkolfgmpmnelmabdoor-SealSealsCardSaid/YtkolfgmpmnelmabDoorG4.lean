/-
  Walks: ref.R.Seal, ref.R.Unseal, law.SealSeals.
-/
import Derived.Test.YtkolfgmpmnelmabDoorG2
import Derived.Test.YtkolfgmpmnelmabDoorR5
import Derived.Test.YtkolfgmpmnelmabDoorB3
namespace Go.Proofs.YtkolfgmpmnelmabDoor
open Go Vx Go.Proofs
set_option linter.unusedVariables false
set_option maxRecDepth 4000
set_option maxHeartbeats 400000

def fillTo (s : List UInt8) (n : Nat) : List UInt8 := (s ++ List.replicate (n - s.length) 0).take n
theorem fillTo_len (s : List UInt8) (n : Nat) : (fillTo s n).length = n := by
  simp only [fillTo, List.length_take, List.length_append, List.length_replicate]; omega
theorem fillTo_short {s : List UInt8} {n : Nat} (h : s.length ≤ n) : fillTo s n = s ++ List.replicate (n - s.length) 0 := by
  rw [fillTo, List.take_of_length_le]; simp; omega
theorem fillTo_long {s : List UInt8} {n : Nat} (h : n ≤ s.length) : fillTo s n = s.take n := by
  rw [fillTo, List.take_append_of_le_length h]
theorem zeros_any (c : Int) (m : Nat) (hc : c = m) (h : m ≤ 100000) (w : World) : C Tryd.prog 88 ⟨[iv c]⟩ w fun v w' => v = str (List.replicate m 0) ∧ St w [] w' := by
  refine C_enter (n := 5) Tryd.func88 rfl rfl rfl (fun w1 hs1 => ?_)
  refine W_seq ?_
  refine W_region ?_
  refine L0 (wanted_none rfl) rfl (y_assign (v := Value.string ⟨⟨_⟩⟩) rfl rfl) ?_
  refine Lnil ?_
  refine W_seq ?_
  refine W_region ?_
  refine L0 (wanted_none rfl) rfl (y_move (v := Value.int _ _) rfl rfl) ?_
  refine Lc (wanted_none rfl) (c_call rfl rfl rfl Tryd.func17 (by kernel_rfl) rfl (repeat_int 0 c m hc h w1) rfl ?_)
  rintro _ w2 ⟨rfl, hc3⟩
  have hs4 := hs1.call0 hc3
  refine L0 (wanted_none rfl) rfl (y_assign (v := Value.string ⟨⟨_⟩⟩) rfl rfl) ?_
  refine Lnil ?_
  refine W_ret ?_
  refine fin1 (fn := Tryd.f88) rfl rfl ?_
  exact ⟨rfl, hs4⟩
theorem rlong_any (s : List UInt8) (n : Nat) (hs : s.length ≤ 100000) (hn : n ≤ 100000) (w : World) :
    C Tryd.prog 86 ⟨[str s, iv n]⟩ w fun v w' => v = str (fillTo s n) ∧ St w [] w' := by
  refine C_enter (n := 19) Tryd.func86 rfl rfl rfl (fun w1 hs1 => ?_)
  refine W_seq ?_
  refine W_region ?_
  refine L0 (wanted_none rfl) rfl (y_assign (v := Value.string ⟨⟨_⟩⟩) rfl rfl) ?_
  refine Lnil ?_
  refine W_seq ?_
  refine W_seq ?_
  refine W_region ?_
  refine L0 (wanted_none rfl) rfl (y_move (v := Value.string ⟨⟨_⟩⟩) rfl rfl) ?_
  refine L0 (wanted_none rfl) rfl (y_len rfl Tryd.underlying9 rfl) ?_
  refine L0 (wanted_none rfl) rfl (y_move (v := Value.int _ _) rfl rfl) ?_
  refine L0 (wanted_none rfl) rfl (y_lt rfl rfl rfl) ?_
  refine Lnil ?_
  refine Wsp (t := 8) rfl (fun h2 => ?_) (fun h2 => ?_)
  · have h2' := h2
    first | replace h2' := of_decide_eq_true h2' | replace h2' := bnT' h2' | skip
    refine W_condT rfl h2 ?_
    refine W_region ?_
    refine L0 (wanted_none rfl) rfl (y_move (v := Value.string ⟨⟨_⟩⟩) rfl rfl) ?_
    refine L0 (wanted_none rfl) rfl (y_move (v := Value.int _ _) rfl rfl) ?_
    refine L0 (wanted_none rfl) rfl (y_move (v := Value.string ⟨⟨_⟩⟩) rfl rfl) ?_
    refine L0 (wanted_none rfl) rfl (y_len rfl Tryd.underlying9 rfl) ?_
    refine L0 (wanted_none rfl) rfl (y_sub64 rfl rfl rfl (by omega)) ?_
    refine Lc (wanted_none rfl) (c_call rfl rfl rfl Tryd.func88 (by kernel_rfl) rfl (zeros_any _ (n - s.length) (by omega) (by omega) w1) rfl ?_)
    rintro _ w3 ⟨rfl, hc4⟩
    have hs5 := hs1.call0 hc4
    refine L0 (wanted_none rfl) rfl (y_scat rfl rfl rfl (by rw [List.length_replicate]; omega)) ?_
    refine L0 (wanted_none rfl) rfl (y_assign (v := Value.string ⟨⟨_⟩⟩) rfl rfl) ?_
    refine Lnil ?_
    refine W_seq ?_
    refine W_region ?_
    refine L0 (wanted_none rfl) rfl (y_move (v := Value.string ⟨⟨_⟩⟩) rfl rfl) ?_
    refine L0 (wanted_none rfl) rfl (y_move (v := Value.int _ _) rfl rfl) ?_
    refine L0 (wanted_none rfl) rfl (y_sslice_hi rfl Tryd.underlying9 rfl rfl (by first | (rw [List.length_append, List.length_replicate]; omega) | omega)) ?_
    refine L0 (wanted_none rfl) rfl (y_assign (v := Value.string ⟨⟨_⟩⟩) rfl rfl) ?_
    refine Lnil ?_
    refine W_ret ?_
    refine fin1 (fn := Tryd.f86) rfl rfl ?_
    first | exact ⟨rfl, hs5⟩ | (rw [fillTo_long (by omega)]; exact ⟨rfl, hs5⟩)
  · have h2' := h2
    first | replace h2' := of_decide_eq_false h2' | replace h2' := bnF' h2' | skip
    refine W_condF rfl h2 ?_
    refine W_skip ?_
    refine W_seq ?_
    refine W_region ?_
    refine L0 (wanted_none rfl) rfl (y_move (v := Value.string ⟨⟨_⟩⟩) rfl rfl) ?_
    refine L0 (wanted_none rfl) rfl (y_move (v := Value.int _ _) rfl rfl) ?_
    refine L0 (wanted_none rfl) rfl (y_sslice_hi rfl Tryd.underlying9 rfl rfl (by first | (rw [List.length_append, List.length_replicate]; omega) | omega)) ?_
    refine L0 (wanted_none rfl) rfl (y_assign (v := Value.string ⟨⟨_⟩⟩) rfl rfl) ?_
    refine Lnil ?_
    refine W_ret ?_
    refine fin1 (fn := Tryd.f86) rfl rfl ?_
    first | exact ⟨rfl, hs1⟩ | (rw [fillTo_long (by omega)]; exact ⟨rfl, hs1⟩)
/-! what is sealed, and opened, as the document has it -/
open Classical in
noncomputable def sealRes (key : List UInt8) (cell : Int) (text : List UInt8) : List UInt8 × Int :=
  if key.length = 32 ∧ 0 ≤ cell ∧ cell < 24 then if text.length ≤ 80 then (sealOf key cell text, 0) else ([], 4) else ([], 1)
open Classical in
noncomputable def openRes (key : List UInt8) (cell : Int) (s : List UInt8) : (List UInt8 × List UInt8) × Int :=
  if key.length = 32 then if Sealed key cell s then ((s.take 16, openText key s), 0) else (([], []), 15) else (([], []), 1)
theorem seal_res (key text : List UInt8) (cell : Int) (w : World) (hr : RoundsAt w) :
    C Tryd.prog 21 ⟨[str key, iv cell, str text]⟩ w fun v w' => (∃ e, v = .tuple #[str (sealRes key cell text).1, e] ∧ BareE e (sealRes key cell text).2) ∧ St w [] w' := by
  by_cases h1 : key.length = 32 ∧ 0 ≤ cell ∧ cell < 24
  · by_cases h2 : text.length ≤ 80
    · refine (seal_any key text cell h1.1 h1.2.1 h1.2.2 h2 w hr).mono fun v w' h => ⟨⟨.nilIface, ?_, .inl ⟨rfl, ?_⟩⟩, h.2⟩
      · rw [h.1, sealRes, if_pos h1, if_pos h2]
      · rw [sealRes, if_pos h1, if_pos h2]
    · refine (seal_err4 key text cell h1.1 h1.2.1 h1.2.2 (by omega) w).mono fun v w' h => ⟨⟨errno 4, ?_, .inr ?_⟩, h.2⟩
      · rw [h.1, sealRes, if_pos h1, if_neg h2]
      · rw [sealRes, if_pos h1, if_neg h2]
  · refine (seal_err1 key text cell h1 w).mono fun v w' h => ⟨⟨errno 1, ?_, .inr ?_⟩, h.2⟩
    · rw [h.1, sealRes, if_neg h1]
    · rw [sealRes, if_neg h1]
theorem open_res (key s : List UInt8) (cell : Int) (hl : s.length ≤ 1000000) (w : World) (hr : RoundsAt w) :
    C Tryd.prog 22 ⟨[str key, iv cell, str s]⟩ w fun v w' => (∃ e, v = .tuple #[str (openRes key cell s).1.1, str (openRes key cell s).1.2, e] ∧ BareE e (openRes key cell s).2) ∧ St w [] w' := by
  by_cases h1 : key.length = 32
  · by_cases h2 : Sealed key cell s
    · refine (open_any key s cell h1 hl h2 w hr).mono fun v w' h => ⟨⟨.nilIface, ?_, .inl ⟨rfl, ?_⟩⟩, h.2⟩
      · rw [h.1, openRes, if_pos h1, if_pos h2]
      · rw [openRes, if_pos h1, if_pos h2]
    · refine (open_spoilt key s cell h1 hl h2 w hr).mono fun v w' h => ⟨⟨errno 15, ?_, .inr ?_⟩, h.2⟩
      · rw [h.1, openRes, if_pos h1, if_neg h2]
      · rw [openRes, if_pos h1, if_neg h2]
  · refine (open_arg key s cell h1 w).mono fun v w' h => ⟨⟨errno 1, ?_, .inr ?_⟩, h.2⟩
    · rw [h.1, openRes, if_neg h1]
    · rw [openRes, if_neg h1]
theorem rseal_err1 (key text : List UInt8) (cell : Int) (h : ¬ (key.length = 32 ∧ 0 ≤ cell ∧ cell < 24)) (rb : Nat) (w : World) :
    C Tryd.prog 28 ⟨[pv rb 0, str key, iv cell, str text]⟩ w fun v w' => v = .tuple #[str [], iv 1] ∧ St w [] w' := by
  refine C_enter (n := 59) Tryd.func28 rfl rfl rfl (fun w1 hs1 => ?_)
  refine W_seq ?_
  refine W_region ?_
  refine L0 (wanted_none rfl) rfl (y_assign (v := Value.string ⟨⟨_⟩⟩) rfl rfl) ?_
  refine L0 (wanted_none rfl) rfl (y_assign (v := Value.int _ _) rfl rfl) ?_
  refine Lnil ?_
  refine W_seq ?_
  refine W_seq ?_
  refine W_region ?_
  refine L0 (wanted_none rfl) rfl (y_move (v := Value.string ⟨⟨_⟩⟩) rfl rfl) ?_
  refine L0 (wanted_none rfl) rfl (y_len rfl Tryd.underlying9 rfl) ?_
  refine L0 (wanted_none rfl) rfl (y_ne rfl rfl rfl) ?_
  refine L0 (wanted_none rfl) rfl (y_move (v := Value.bool _) rfl rfl) ?_
  refine Lsp (t := 16) rfl (fun h2 => ?_) (fun h2 => ?_)
  · have h2' := h2
    first | replace h2' := of_decide_eq_true h2' | replace h2' := bnT' h2' | skip
    refine Lno (wanted_noB rfl rfl rfl h2 (by decide)) rfl ?_
    refine Lno (wanted_noB rfl rfl rfl h2 (by decide)) rfl ?_
    refine Lno (wanted_noB rfl rfl rfl h2 (by decide)) rfl ?_
    refine L0 (wanted_none rfl) rfl (y_pickT rfl rfl h2 rfl) ?_
    refine Lnil ?_
    refine W_condT rfl rfl ?_
    refine W_seq ?_
    refine W_region ?_
    refine L0 (wanted_none rfl) rfl (y_assign (v := Value.string ⟨⟨_⟩⟩) rfl rfl) ?_
    refine L0 (wanted_none rfl) rfl (y_assign (v := Value.int _ _) rfl rfl) ?_
    refine Lnil ?_
    refine W_ret ?_
    refine fin2 (fn := Tryd.f28) rfl rfl rfl ?_
    exact ⟨rfl, hs1⟩
  · have h2' := h2
    first | replace h2' := of_decide_eq_false h2' | replace h2' := bnF' h2' | skip
    refine L0 (wanted_yesB rfl rfl rfl h2) rfl (y_move (v := Value.int _ _) rfl rfl) ?_
    refine Lc (wanted_yesB rfl rfl rfl h2) (c_call rfl rfl rfl Tryd.func82 (by kernel_rfl) rfl (in_any cell 0 23 w1) rfl ?_)
    rintro _ w3 ⟨rfl, hc4⟩
    have hs5 := hs1.call0 hc4
    refine L0 (wanted_yesB rfl rfl rfl h2) rfl (y_not rfl rfl) ?_
    refine L0 (wanted_none rfl) rfl (y_pickF rfl rfl h2 rfl) ?_
    refine Lnil ?_
    refine Wkn (t := 20) (b0 := true) rfl (by exact bnT (by omega)) (fun h6 => ?_)
    refine W_condT rfl h6 ?_
    refine W_seq ?_
    refine W_region ?_
    refine L0 (wanted_none rfl) rfl (y_assign (v := Value.string ⟨⟨_⟩⟩) rfl rfl) ?_
    refine L0 (wanted_none rfl) rfl (y_assign (v := Value.int _ _) rfl rfl) ?_
    refine Lnil ?_
    refine W_ret ?_
    refine fin2 (fn := Tryd.f28) rfl rfl rfl ?_
    exact ⟨rfl, hs5⟩
theorem rseal_err4 (key text : List UInt8) (cell : Int) (hk : key.length = 32) (h0 : 0 ≤ cell) (h1 : cell < 24) (ht : 80 < text.length) (rb : Nat) (w : World) :
    C Tryd.prog 28 ⟨[pv rb 0, str key, iv cell, str text]⟩ w fun v w' => v = .tuple #[str [], iv 4] ∧ St w [] w' := by
  refine C_enter (n := 59) Tryd.func28 rfl rfl rfl (fun w1 hs1 => ?_)
  refine W_seq ?_
  refine W_region ?_
  refine L0 (wanted_none rfl) rfl (y_assign (v := Value.string ⟨⟨_⟩⟩) rfl rfl) ?_
  refine L0 (wanted_none rfl) rfl (y_assign (v := Value.int _ _) rfl rfl) ?_
  refine Lnil ?_
  refine W_seq ?_
  refine W_seq ?_
  refine W_region ?_
  refine L0 (wanted_none rfl) rfl (y_move (v := Value.string ⟨⟨_⟩⟩) rfl rfl) ?_
  refine L0 (wanted_none rfl) rfl (y_len rfl Tryd.underlying9 rfl) ?_
  refine L0 (wanted_none rfl) rfl (y_ne rfl rfl rfl) ?_
  refine L0 (wanted_none rfl) rfl (y_move (v := Value.bool _) rfl rfl) ?_
  refine Lkn (t := 16) (b0 := false) rfl (by first | exact decide_eq_false (by omega) | exact bnF (by omega) | (simp; omega)) (fun h2 => ?_)
  refine L0 (wanted_yesB rfl rfl rfl h2) rfl (y_move (v := Value.int _ _) rfl rfl) ?_
  refine Lc (wanted_yesB rfl rfl rfl h2) (c_call rfl rfl rfl Tryd.func82 (by kernel_rfl) rfl (in_any cell 0 23 w1) rfl ?_)
  rintro _ w3 ⟨rfl, hc4⟩
  have hs5 := hs1.call0 hc4
  refine L0 (wanted_yesB rfl rfl rfl h2) rfl (y_not rfl rfl) ?_
  refine L0 (wanted_none rfl) rfl (y_pickF rfl rfl h2 rfl) ?_
  refine Lnil ?_
  refine Wkn (t := 20) (b0 := false) rfl (by exact bnF (by omega)) (fun h6 => ?_)
  refine W_condF rfl h6 ?_
  refine W_skip ?_
  refine W_seq ?_
  refine W_seq ?_
  refine W_region ?_
  refine L0 (wanted_none rfl) rfl (y_move (v := Value.string ⟨⟨_⟩⟩) rfl rfl) ?_
  refine L0 (wanted_none rfl) rfl (y_len rfl Tryd.underlying9 rfl) ?_
  refine L0 (wanted_none rfl) rfl (y_gt rfl rfl rfl) ?_
  refine Lnil ?_
  refine Wkn (t := 23) (b0 := true) rfl (by first | exact decide_eq_true (by omega) | exact bnT (by omega) | (simp; omega)) (fun h7 => ?_)
  refine W_condT rfl h7 ?_
  refine W_seq ?_
  refine W_region ?_
  refine L0 (wanted_none rfl) rfl (y_assign (v := Value.string ⟨⟨_⟩⟩) rfl rfl) ?_
  refine L0 (wanted_none rfl) rfl (y_assign (v := Value.int _ _) rfl rfl) ?_
  refine Lnil ?_
  refine W_ret ?_
  refine fin2 (fn := Tryd.f28) rfl rfl rfl ?_
  exact ⟨rfl, hs5⟩
theorem rpad (text : List UInt8) (h : text.length ≤ 80) : [u8of text.length] ++ fillTo text 80 = padText text := by rw [fillTo_short h, padText, List.append_assoc]
theorem rxor_pad (key n text : List UInt8) (h : text.length ≤ 80) (hk : key.length = 32) (hn : n.length = 12) (w : World) :
    C Tryd.prog 85 ⟨[str key, str n, str ([u8of text.length] ++ fillTo text 80)]⟩ w fun v w' => v = .tuple #[str (xorOf key n (padText text)), iv 0] ∧ St w [] w' := by
  rw [rpad text h]; exact rxor_any key n (padText text) (by rw [padText_len h]; decide) hk hn w
theorem rseal_any (key text : List UInt8) (cell : Int) (hk : key.length = 32) (h0 : 0 ≤ cell) (h1 : cell < 24) (ht : text.length ≤ 80) (rb : Nat) (w : World) (hR : RefAt rb w) :
    C Tryd.prog 28 ⟨[pv rb 0, str key, iv cell, str text]⟩ w fun v w' => v = .tuple #[str (sealOf key cell text), iv 0] ∧ St w [] w' := by
  have hrl := hR.lt
  have hn := numOf_len cell
  refine C_enter (n := 59) Tryd.func28 rfl rfl rfl (fun w1 hs1 => ?_)
  refine W_seq ?_
  refine W_region ?_
  refine L0 (wanted_none rfl) rfl (y_assign (v := Value.string ⟨⟨_⟩⟩) rfl rfl) ?_
  refine L0 (wanted_none rfl) rfl (y_assign (v := Value.int _ _) rfl rfl) ?_
  refine Lnil ?_
  refine W_seq ?_
  refine W_seq ?_
  refine W_region ?_
  refine L0 (wanted_none rfl) rfl (y_move (v := Value.string ⟨⟨_⟩⟩) rfl rfl) ?_
  refine L0 (wanted_none rfl) rfl (y_len rfl Tryd.underlying9 rfl) ?_
  refine L0 (wanted_none rfl) rfl (y_ne rfl rfl rfl) ?_
  refine L0 (wanted_none rfl) rfl (y_move (v := Value.bool _) rfl rfl) ?_
  refine Lkn (t := 16) (b0 := false) rfl (by first | exact decide_eq_false (by omega) | exact bnF (by omega) | (simp; omega)) (fun h2 => ?_)
  refine L0 (wanted_yesB rfl rfl rfl h2) rfl (y_move (v := Value.int _ _) rfl rfl) ?_
  refine Lc (wanted_yesB rfl rfl rfl h2) (c_call rfl rfl rfl Tryd.func82 (by kernel_rfl) rfl (in_any cell 0 23 w1) rfl ?_)
  rintro _ w3 ⟨rfl, hc4⟩
  have hs5 := hs1.call0 hc4
  refine L0 (wanted_yesB rfl rfl rfl h2) rfl (y_not rfl rfl) ?_
  refine L0 (wanted_none rfl) rfl (y_pickF rfl rfl h2 rfl) ?_
  refine Lnil ?_
  refine Wkn (t := 20) (b0 := false) rfl (by exact bnF (by omega)) (fun h6 => ?_)
  refine W_condF rfl h6 ?_
  refine W_skip ?_
  refine W_seq ?_
  refine W_seq ?_
  refine W_region ?_
  refine L0 (wanted_none rfl) rfl (y_move (v := Value.string ⟨⟨_⟩⟩) rfl rfl) ?_
  refine L0 (wanted_none rfl) rfl (y_len rfl Tryd.underlying9 rfl) ?_
  refine L0 (wanted_none rfl) rfl (y_gt rfl rfl rfl) ?_
  refine Lnil ?_
  refine Wkn (t := 23) (b0 := false) rfl (by first | exact decide_eq_false (by omega) | exact bnF (by omega) | (simp; omega)) (fun h7 => ?_)
  refine W_condF rfl h7 ?_
  refine W_skip ?_
  refine W_seq ?_
  refine W_region ?_
  refine L0 (wanted_none rfl) rfl (y_move (v := Value.pointer _) rfl rfl) ?_
  refine L0 (wanted_none rfl) rfl (y_move (v := Value.string ⟨⟨_⟩⟩) rfl rfl) ?_
  refine L0 (wanted_none rfl) rfl (y_move (v := Value.int _ _) rfl rfl) ?_
  refine Lc (wanted_none rfl) (c_call rfl rfl rfl Tryd.func84 (by kernel_rfl) rfl (rnum_any cell w3) rfl ?_)
  rintro _ w8 ⟨rfl, hc9⟩
  have hs10 := hs5.call0 hc9
  refine L0 (wanted_none rfl) rfl (y_move (v := Value.string ⟨⟨_⟩⟩) rfl rfl) ?_
  refine Lc (wanted_none rfl) (c_bs3 (v0 := str _) (v1 := str _) (v2 := str _) hs10 rfl rfl Tryd.underlying22 sz9 zr9 rfl rfl rfl rfl rfl rfl (fun b11 w12 hbb11 hs13 => ?_))
  refine Lc (wanted_none rfl) (c_call rfl rfl rfl Tryd.func83 (by kernel_rfl) rfl (rmark_any 110 [key, numOf cell, text] _ (by rw [mark3_len]; omega) (by simp) rb w12 (hR.keep hs13 (by have := hbb11; simp [keys]; omega)) (sl_three (hs13.get 0 rfl) rfl)) rfl ?_)
  rintro _ w14 ⟨rfl, hc15⟩
  have hs16 := hs13.call0 hc15
  refine L0 (wanted_none rfl) rfl (y_sslice_hi rfl Tryd.underlying9 rfl rfl (by rw [markOf_len16]; decide)) ?_
  refine L0 (wanted_none rfl) rfl (y_assign (v := Value.string ⟨⟨_⟩⟩) rfl rfl) ?_
  refine Lnil ?_
  refine W_seq ?_
  refine W_drawT (fun _ => True) [(0, 0), (0, 1), (0, 2), (0, 3), (0, 4), (3, 5), (3, 6), (0, 7), (3, 8), (0, 9), (3, 10), (0, 11), (0, 12), (0, 13), (0, 14), (0, 15)] (.one 0 0 (.one 0 1 (.one 0 2 (.one 0 7 (.one 0 3 (.one 0 4 (.fork (.one 3 5 (.fork (.one 3 6 (.one 3 8 (.one 0 9 (.one 3 10 (.one 0 11 (.one 0 12 (.one 0 13 (.one 0 14 (.one 0 15 (.nil)))))))))) (.one 3 8 (.one 3 6 (.one 0 9 (.one 3 10 (.one 0 11 (.one 0 12 (.one 0 13 (.one 0 14 (.one 0 15 (.nil)))))))))))) (.one 3 8 (.one 3 5 (.one 3 6 (.one 0 9 (.one 3 10 (.one 0 11 (.one 0 12 (.one 0 13 (.one 0 14 (.one 0 15 (.nil)))))))))))))))))) hs16 mixed (by kernel_rfl) (fun w17 hs18 => ?_)
  refine T0 (wanted_none rfl) rfl (y_move (v := Value.string ⟨⟨_⟩⟩) rfl rfl) ?_
  refine T0 (wanted_none rfl) rfl (y_move (v := Value.string ⟨⟨_⟩⟩) rfl rfl) ?_
  refine T0 (wanted_none rfl) rfl (y_move (v := Value.string ⟨⟨_⟩⟩) rfl rfl) ?_
  refine T0 (wanted_none rfl) rfl (y_move (v := Value.string ⟨⟨_⟩⟩) rfl rfl) ?_
  refine T0 (wanted_none rfl) rfl (y_len rfl Tryd.underlying9 rfl) ?_
  refine T0 (wanted_none rfl) rfl (y_cito8 rfl Tryd.underlying3 Tryd.underlying5 rfl) ?_
  refine Tfork ?_ ?_
  · skip
    refine T3 (wanted_none rfl) (c_bs1 (v0 := bv _) hs18 rfl rfl Tryd.underlying113 sz5 zr5 rfl rfl (fun b19 w20 hbb19 hs21 => ?_))
    refine ⟨fun _ => trivial, ?_⟩
    refine Tfork ?_ ?_
    · skip
      refine T3 (wanted_none rfl) (c_ofY rfl hs21 (y_bstr rfl Tryd.underlying113 Tryd.underlying5 Tryd.underlying9 rfl (Row.of_block (E := 5) (xs := bs [u8of text.length]) hbb19 (by simp)) (fun x hx => by first | exact hx | exact List.mem_cons.2 (.inl (List.mem_singleton.1 hx)) | simp [hx])) ?_)
      refine ⟨fun _ => trivial, ?_⟩
      refine T3 (wanted_none rfl) (c_call rfl rfl rfl Tryd.func86 (by kernel_rfl) rfl (rlong_any text 80 (by omega) (by omega) w20) rfl ?_)
      rintro _ w22 ⟨rfl, hc23⟩
      have hs24 := hs21.call0 hc23
      refine ⟨fun _ => trivial, ?_⟩
      refine T0 (wanted_none rfl) rfl (y_scat rfl rfl rfl (by rw [fillTo_len]; show 1 + 80 ≤ _; omega)) ?_
      refine T3 (wanted_none rfl) (c_call rfl rfl rfl Tryd.func85 (by kernel_rfl) rfl (rxor_pad key (nonceOf key cell text) text ht hk (nonceOf_len _ _ _) w22) rfl ?_)
      rintro _ w25 ⟨rfl, hc26⟩
      have hs27 := hs24.call0 hc26
      refine ⟨fun _ => trivial, ?_⟩
      refine T0 (wanted_none rfl) rfl (y_move (v := Value.tuple ⟨_⟩) rfl rfl) ?_
      refine T0 (wanted_none rfl) rfl (y_extract rfl rfl rfl) ?_
      refine T0 (wanted_none rfl) rfl (y_extract rfl rfl rfl) ?_
      refine T0 (wanted_none rfl) rfl (y_assign (v := Value.string ⟨⟨_⟩⟩) rfl rfl) ?_
      refine T0 (wanted_none rfl) rfl (y_assign (v := Value.int _ _) rfl rfl) ?_
      refine Tnil ?_
      refine W_seq ?_
      refine W_region ?_
      refine L0 (wanted_none rfl) rfl (y_move (v := Value.pointer _) rfl rfl) ?_
      refine L0 (wanted_none rfl) rfl (y_move (v := Value.string ⟨⟨_⟩⟩) rfl rfl) ?_
      refine L0 (wanted_none rfl) rfl (y_move (v := Value.int _ _) rfl rfl) ?_
      refine Lc (wanted_none rfl) (c_call rfl rfl rfl Tryd.func84 (by kernel_rfl) rfl (rnum_any cell w25) rfl ?_)
      rintro _ w28 ⟨rfl, hc29⟩
      have hs30 := hs27.call0 hc29
      refine L0 (wanted_none rfl) rfl (y_move (v := Value.string ⟨⟨_⟩⟩) rfl rfl) ?_
      refine L0 (wanted_none rfl) rfl (y_move (v := Value.string ⟨⟨_⟩⟩) rfl rfl) ?_
      refine L0 (wanted_none rfl) rfl (y_scat rfl rfl rfl (by show (nonceOf key cell text).length + (cryptOf key cell text).length ≤ _; rw [nonceOf_len, cryptOf_len ht]; decide)) ?_
      refine Lc (wanted_none rfl) (c_bs3 (v0 := str _) (v1 := str _) (v2 := str _) hs30 rfl rfl Tryd.underlying22 sz9 zr9 rfl rfl rfl rfl rfl rfl (fun b31 w32 hbb31 hs33 => ?_))
      refine Lc (wanted_none rfl) (c_call rfl rfl rfl Tryd.func83 (by kernel_rfl) rfl (rmark_any 103 [key, numOf cell, nonceOf key cell text ++ cryptOf key cell text] _ (by rw [mark3_len, List.length_append, nonceOf_len, cryptOf_len ht]; omega) (by simp) rb w32 (hR.keep hs33 (by simp [keys]; omega)) (sl_three (hs33.get 0 rfl) rfl)) rfl ?_)
      rintro _ w34 ⟨rfl, hc35⟩
      have hs36 := hs33.call0 hc35
      refine L0 (wanted_none rfl) rfl (y_move (v := Value.string ⟨⟨_⟩⟩) rfl rfl) ?_
      refine L0 (wanted_none rfl) rfl (y_scat rfl rfl rfl (by show (tagOf key cell (nonceOf key cell text ++ cryptOf key cell text)).length + (nonceOf key cell text).length ≤ _; rw [nonceOf_len, tagOf_len]; decide)) ?_
      refine L0 (wanted_none rfl) rfl (y_move (v := Value.string ⟨⟨_⟩⟩) rfl rfl) ?_
      refine L0 (wanted_none rfl) rfl (y_scat rfl rfl rfl (by show (tagOf key cell (nonceOf key cell text ++ cryptOf key cell text) ++ nonceOf key cell text).length + (cryptOf key cell text).length ≤ _; rw [List.length_append, nonceOf_len, tagOf_len, cryptOf_len ht]; decide)) ?_
      refine L0 (wanted_none rfl) rfl (y_assign (v := Value.string ⟨⟨_⟩⟩) rfl rfl) ?_
      refine L0 (wanted_none rfl) rfl (y_assign (v := Value.int _ _) rfl rfl) ?_
      refine Lnil ?_
      refine W_ret ?_
      refine fin2 (fn := Tryd.f28) rfl rfl rfl ?_
      exact ⟨rfl, hs36.dropL (M := [_, _, _]) (by simp; omega)⟩
    · skip
      refine T3 (wanted_none rfl) (c_call rfl rfl rfl Tryd.func86 (by kernel_rfl) rfl (rlong_any text 80 (by omega) (by omega) w20) rfl ?_)
      rintro _ w37 ⟨rfl, hc38⟩
      have hs39 := hs21.call0 hc38
      refine ⟨fun _ => trivial, ?_⟩
      refine T3 (wanted_none rfl) (c_ofY rfl hs39 (y_bstr rfl Tryd.underlying113 Tryd.underlying5 Tryd.underlying9 rfl (Row.of_block (E := 5) (xs := bs [u8of text.length]) hbb19 (by simp)) (fun x hx => by first | exact hx | exact List.mem_cons.2 (.inl (List.mem_singleton.1 hx)) | simp [hx])) ?_)
      refine ⟨fun _ => trivial, ?_⟩
      refine T0 (wanted_none rfl) rfl (y_scat rfl rfl rfl (by rw [fillTo_len]; show 1 + 80 ≤ _; omega)) ?_
      refine T3 (wanted_none rfl) (c_call rfl rfl rfl Tryd.func85 (by kernel_rfl) rfl (rxor_pad key (nonceOf key cell text) text ht hk (nonceOf_len _ _ _) w37) rfl ?_)
      rintro _ w40 ⟨rfl, hc41⟩
      have hs42 := hs39.call0 hc41
      refine ⟨fun _ => trivial, ?_⟩
      refine T0 (wanted_none rfl) rfl (y_move (v := Value.tuple ⟨_⟩) rfl rfl) ?_
      refine T0 (wanted_none rfl) rfl (y_extract rfl rfl rfl) ?_
      refine T0 (wanted_none rfl) rfl (y_extract rfl rfl rfl) ?_
      refine T0 (wanted_none rfl) rfl (y_assign (v := Value.string ⟨⟨_⟩⟩) rfl rfl) ?_
      refine T0 (wanted_none rfl) rfl (y_assign (v := Value.int _ _) rfl rfl) ?_
      refine Tnil ?_
      refine W_seq ?_
      refine W_region ?_
      refine L0 (wanted_none rfl) rfl (y_move (v := Value.pointer _) rfl rfl) ?_
      refine L0 (wanted_none rfl) rfl (y_move (v := Value.string ⟨⟨_⟩⟩) rfl rfl) ?_
      refine L0 (wanted_none rfl) rfl (y_move (v := Value.int _ _) rfl rfl) ?_
      refine Lc (wanted_none rfl) (c_call rfl rfl rfl Tryd.func84 (by kernel_rfl) rfl (rnum_any cell w40) rfl ?_)
      rintro _ w43 ⟨rfl, hc44⟩
      have hs45 := hs42.call0 hc44
      refine L0 (wanted_none rfl) rfl (y_move (v := Value.string ⟨⟨_⟩⟩) rfl rfl) ?_
      refine L0 (wanted_none rfl) rfl (y_move (v := Value.string ⟨⟨_⟩⟩) rfl rfl) ?_
      refine L0 (wanted_none rfl) rfl (y_scat rfl rfl rfl (by show (nonceOf key cell text).length + (cryptOf key cell text).length ≤ _; rw [nonceOf_len, cryptOf_len ht]; decide)) ?_
      refine Lc (wanted_none rfl) (c_bs3 (v0 := str _) (v1 := str _) (v2 := str _) hs45 rfl rfl Tryd.underlying22 sz9 zr9 rfl rfl rfl rfl rfl rfl (fun b46 w47 hbb46 hs48 => ?_))
      refine Lc (wanted_none rfl) (c_call rfl rfl rfl Tryd.func83 (by kernel_rfl) rfl (rmark_any 103 [key, numOf cell, nonceOf key cell text ++ cryptOf key cell text] _ (by rw [mark3_len, List.length_append, nonceOf_len, cryptOf_len ht]; omega) (by simp) rb w47 (hR.keep hs48 (by simp [keys]; omega)) (sl_three (hs48.get 0 rfl) rfl)) rfl ?_)
      rintro _ w49 ⟨rfl, hc50⟩
      have hs51 := hs48.call0 hc50
      refine L0 (wanted_none rfl) rfl (y_move (v := Value.string ⟨⟨_⟩⟩) rfl rfl) ?_
      refine L0 (wanted_none rfl) rfl (y_scat rfl rfl rfl (by show (tagOf key cell (nonceOf key cell text ++ cryptOf key cell text)).length + (nonceOf key cell text).length ≤ _; rw [nonceOf_len, tagOf_len]; decide)) ?_
      refine L0 (wanted_none rfl) rfl (y_move (v := Value.string ⟨⟨_⟩⟩) rfl rfl) ?_
      refine L0 (wanted_none rfl) rfl (y_scat rfl rfl rfl (by show (tagOf key cell (nonceOf key cell text ++ cryptOf key cell text) ++ nonceOf key cell text).length + (cryptOf key cell text).length ≤ _; rw [List.length_append, nonceOf_len, tagOf_len, cryptOf_len ht]; decide)) ?_
      refine L0 (wanted_none rfl) rfl (y_assign (v := Value.string ⟨⟨_⟩⟩) rfl rfl) ?_
      refine L0 (wanted_none rfl) rfl (y_assign (v := Value.int _ _) rfl rfl) ?_
      refine Lnil ?_
      refine W_ret ?_
      refine fin2 (fn := Tryd.f28) rfl rfl rfl ?_
      exact ⟨rfl, hs51.dropL (M := [_, _, _]) (by simp; omega)⟩
  · skip
    refine T3 (wanted_none rfl) (c_call rfl rfl rfl Tryd.func86 (by kernel_rfl) rfl (rlong_any text 80 (by omega) (by omega) w17) rfl ?_)
    rintro _ w52 ⟨rfl, hc53⟩
    have hs54 := hs18.call0 hc53
    refine ⟨fun _ => trivial, ?_⟩
    refine T3 (wanted_none rfl) (c_bs1 (v0 := bv _) hs54 rfl rfl Tryd.underlying113 sz5 zr5 rfl rfl (fun b55 w56 hbb55 hs57 => ?_))
    refine ⟨fun _ => trivial, ?_⟩
    refine T3 (wanted_none rfl) (c_ofY rfl hs57 (y_bstr rfl Tryd.underlying113 Tryd.underlying5 Tryd.underlying9 rfl (Row.of_block (E := 5) (xs := bs [u8of text.length]) hbb55 (by simp)) (fun x hx => by first | exact hx | exact List.mem_cons.2 (.inl (List.mem_singleton.1 hx)) | simp [hx])) ?_)
    refine ⟨fun _ => trivial, ?_⟩
    refine T0 (wanted_none rfl) rfl (y_scat rfl rfl rfl (by rw [fillTo_len]; show 1 + 80 ≤ _; omega)) ?_
    refine T3 (wanted_none rfl) (c_call rfl rfl rfl Tryd.func85 (by kernel_rfl) rfl (rxor_pad key (nonceOf key cell text) text ht hk (nonceOf_len _ _ _) w56) rfl ?_)
    rintro _ w58 ⟨rfl, hc59⟩
    have hs60 := hs57.call0 hc59
    refine ⟨fun _ => trivial, ?_⟩
    refine T0 (wanted_none rfl) rfl (y_move (v := Value.tuple ⟨_⟩) rfl rfl) ?_
    refine T0 (wanted_none rfl) rfl (y_extract rfl rfl rfl) ?_
    refine T0 (wanted_none rfl) rfl (y_extract rfl rfl rfl) ?_
    refine T0 (wanted_none rfl) rfl (y_assign (v := Value.string ⟨⟨_⟩⟩) rfl rfl) ?_
    refine T0 (wanted_none rfl) rfl (y_assign (v := Value.int _ _) rfl rfl) ?_
    refine Tnil ?_
    refine W_seq ?_
    refine W_region ?_
    refine L0 (wanted_none rfl) rfl (y_move (v := Value.pointer _) rfl rfl) ?_
    refine L0 (wanted_none rfl) rfl (y_move (v := Value.string ⟨⟨_⟩⟩) rfl rfl) ?_
    refine L0 (wanted_none rfl) rfl (y_move (v := Value.int _ _) rfl rfl) ?_
    refine Lc (wanted_none rfl) (c_call rfl rfl rfl Tryd.func84 (by kernel_rfl) rfl (rnum_any cell w58) rfl ?_)
    rintro _ w61 ⟨rfl, hc62⟩
    have hs63 := hs60.call0 hc62
    refine L0 (wanted_none rfl) rfl (y_move (v := Value.string ⟨⟨_⟩⟩) rfl rfl) ?_
    refine L0 (wanted_none rfl) rfl (y_move (v := Value.string ⟨⟨_⟩⟩) rfl rfl) ?_
    refine L0 (wanted_none rfl) rfl (y_scat rfl rfl rfl (by show (nonceOf key cell text).length + (cryptOf key cell text).length ≤ _; rw [nonceOf_len, cryptOf_len ht]; decide)) ?_
    refine Lc (wanted_none rfl) (c_bs3 (v0 := str _) (v1 := str _) (v2 := str _) hs63 rfl rfl Tryd.underlying22 sz9 zr9 rfl rfl rfl rfl rfl rfl (fun b64 w65 hbb64 hs66 => ?_))
    refine Lc (wanted_none rfl) (c_call rfl rfl rfl Tryd.func83 (by kernel_rfl) rfl (rmark_any 103 [key, numOf cell, nonceOf key cell text ++ cryptOf key cell text] _ (by rw [mark3_len, List.length_append, nonceOf_len, cryptOf_len ht]; omega) (by simp) rb w65 (hR.keep hs66 (by simp [keys]; omega)) (sl_three (hs66.get 0 rfl) rfl)) rfl ?_)
    rintro _ w67 ⟨rfl, hc68⟩
    have hs69 := hs66.call0 hc68
    refine L0 (wanted_none rfl) rfl (y_move (v := Value.string ⟨⟨_⟩⟩) rfl rfl) ?_
    refine L0 (wanted_none rfl) rfl (y_scat rfl rfl rfl (by show (tagOf key cell (nonceOf key cell text ++ cryptOf key cell text)).length + (nonceOf key cell text).length ≤ _; rw [nonceOf_len, tagOf_len]; decide)) ?_
    refine L0 (wanted_none rfl) rfl (y_move (v := Value.string ⟨⟨_⟩⟩) rfl rfl) ?_
    refine L0 (wanted_none rfl) rfl (y_scat rfl rfl rfl (by show (tagOf key cell (nonceOf key cell text ++ cryptOf key cell text) ++ nonceOf key cell text).length + (cryptOf key cell text).length ≤ _; rw [List.length_append, nonceOf_len, tagOf_len, cryptOf_len ht]; decide)) ?_
    refine L0 (wanted_none rfl) rfl (y_assign (v := Value.string ⟨⟨_⟩⟩) rfl rfl) ?_
    refine L0 (wanted_none rfl) rfl (y_assign (v := Value.int _ _) rfl rfl) ?_
    refine Lnil ?_
    refine W_ret ?_
    refine fin2 (fn := Tryd.f28) rfl rfl rfl ?_
    exact ⟨rfl, hs69.dropL (M := [_, _, _]) (by simp; omega)⟩
theorem rseal_res (key text : List UInt8) (cell : Int) (rb : Nat) (w : World) (hR : RefAt rb w) :
    C Tryd.prog 28 ⟨[pv rb 0, str key, iv cell, str text]⟩ w fun v w' => v = .tuple #[str (sealRes key cell text).1, iv (sealRes key cell text).2] ∧ St w [] w' := by
  by_cases h1 : key.length = 32 ∧ 0 ≤ cell ∧ cell < 24
  · by_cases h2 : text.length ≤ 80
    · have e : sealRes key cell text = (sealOf key cell text, 0) := by rw [sealRes, if_pos h1, if_pos h2]
      rw [e]; exact rseal_any key text cell h1.1 h1.2.1 h1.2.2 h2 rb w hR
    · have e : sealRes key cell text = ([], 4) := by rw [sealRes, if_pos h1, if_neg h2]
      rw [e]; exact rseal_err4 key text cell h1.1 h1.2.1 h1.2.2 (by omega) rb w
  · have e : sealRes key cell text = ([], 1) := by rw [sealRes, if_neg h1]
    rw [e]; exact rseal_err1 key text cell h1 rb w
theorem runseal_arg (key s : List UInt8) (cell : Int) (h : key.length ≠ 32) (rb : Nat) (w : World) :
    C Tryd.prog 30 ⟨[pv rb 0, str key, iv cell, str s]⟩ w fun v w' => v = .tuple #[str [], str [], iv 1] ∧ St w [] w' := by
  refine C_enter (n := 53) Tryd.func30 rfl rfl rfl (fun w1 hs1 => ?_)
  refine W_seq ?_
  refine W_region ?_
  refine L0 (wanted_none rfl) rfl (y_assign (v := Value.string ⟨⟨_⟩⟩) rfl rfl) ?_
  refine L0 (wanted_none rfl) rfl (y_assign (v := Value.string ⟨⟨_⟩⟩) rfl rfl) ?_
  refine L0 (wanted_none rfl) rfl (y_assign (v := Value.int _ _) rfl rfl) ?_
  refine Lnil ?_
  refine W_seq ?_
  refine W_seq ?_
  refine W_region ?_
  refine L0 (wanted_none rfl) rfl (y_move (v := Value.string ⟨⟨_⟩⟩) rfl rfl) ?_
  refine L0 (wanted_none rfl) rfl (y_len rfl Tryd.underlying9 rfl) ?_
  refine L0 (wanted_none rfl) rfl (y_ne rfl rfl rfl) ?_
  refine Lnil ?_
  refine Wkn (t := 16) (b0 := true) rfl (by first | exact decide_eq_true (by omega) | exact bnT (by omega) | (simp; omega)) (fun h2 => ?_)
  refine W_condT rfl h2 ?_
  refine W_seq ?_
  refine W_region ?_
  refine L0 (wanted_none rfl) rfl (y_assign (v := Value.string ⟨⟨_⟩⟩) rfl rfl) ?_
  refine L0 (wanted_none rfl) rfl (y_assign (v := Value.string ⟨⟨_⟩⟩) rfl rfl) ?_
  refine L0 (wanted_none rfl) rfl (y_assign (v := Value.int _ _) rfl rfl) ?_
  refine Lnil ?_
  refine W_ret ?_
  refine fin3 (fn := Tryd.f30) rfl rfl rfl rfl ?_
  exact ⟨rfl, hs1⟩
theorem runseal_spoilt (key s : List UInt8) (cell : Int) (hk : key.length = 32) (hl : s.length ≤ 1000000) (h : ¬ Sealed key cell s) (rb : Nat) (w : World) (hR : RefAt rb w) :
    C Tryd.prog 30 ⟨[pv rb 0, str key, iv cell, str s]⟩ w fun v w' => v = .tuple #[str [], str [], iv 15] ∧ St w [] w' := by
  have hrl := hR.lt
  have hn := numOf_len cell
  refine C_enter (n := 53) Tryd.func30 rfl rfl rfl (fun w1 hs1 => ?_)
  refine W_seq ?_
  refine W_region ?_
  refine L0 (wanted_none rfl) rfl (y_assign (v := Value.string ⟨⟨_⟩⟩) rfl rfl) ?_
  refine L0 (wanted_none rfl) rfl (y_assign (v := Value.string ⟨⟨_⟩⟩) rfl rfl) ?_
  refine L0 (wanted_none rfl) rfl (y_assign (v := Value.int _ _) rfl rfl) ?_
  refine Lnil ?_
  refine W_seq ?_
  refine W_seq ?_
  refine W_region ?_
  refine L0 (wanted_none rfl) rfl (y_move (v := Value.string ⟨⟨_⟩⟩) rfl rfl) ?_
  refine L0 (wanted_none rfl) rfl (y_len rfl Tryd.underlying9 rfl) ?_
  refine L0 (wanted_none rfl) rfl (y_ne rfl rfl rfl) ?_
  refine Lnil ?_
  refine Wkn (t := 16) (b0 := false) rfl (by first | exact decide_eq_false (by omega) | exact bnF (by omega) | (simp; omega)) (fun h2 => ?_)
  refine W_condF rfl h2 ?_
  refine W_skip ?_
  refine W_seq ?_
  refine W_seq ?_
  refine W_drawSt [(0, 0), (0, 1), (0, 2), (0, 3), (0, 4), (0, 5), (0, 6), (0, 8), (0, 12), (0, 9), (0, 13), (2, 7), (2, 10), (2, 11), (0, 14), (0, 15)] hs1 mixed (by kernel_rfl) (fun w3 hs4 => ?_)
  refine E0 (wanted_none rfl) rfl (y_move (v := Value.string ⟨⟨_⟩⟩) rfl rfl) ?_
  refine E0 (wanted_none rfl) rfl (y_len rfl Tryd.underlying9 rfl) ?_
  refine E0 (wanted_none rfl) rfl (y_lt rfl rfl rfl) ?_
  refine E0 (wanted_none rfl) rfl (y_move (v := Value.bool _) rfl rfl) ?_
  refine Esp (t := 20) rfl (fun h5 => ?_) (fun h5 => ?_)
  · have h5' := h5
    first | replace h5' := of_decide_eq_true h5' | replace h5' := bnT' h5' | skip
    refine Eno (wanted_noB rfl rfl rfl h5 (by decide)) rfl ?_
    refine Eno (wanted_noB rfl rfl rfl h5 (by decide)) rfl ?_
    refine Eno (wanted_noB rfl rfl rfl h5 (by decide)) rfl ?_
    refine Eno (wanted_noB rfl rfl rfl h5 (by decide)) rfl ?_
    refine Eno (wanted_noB rfl rfl rfl h5 (by decide)) rfl ?_
    refine Eno (wanted_noB rfl rfl rfl h5 (by decide)) rfl ?_
    refine Eno (wanted_noB rfl rfl rfl h5 (by decide)) rfl ?_
    refine E2no (wanted_noB rfl rfl rfl h5 (by decide)) rfl ?_
    refine E2no (wanted_noB rfl rfl rfl h5 (by decide)) rfl ?_
    refine E2no (wanted_noB rfl rfl rfl h5 (by decide)) rfl ?_
    refine Eno (wanted_noB rfl rfl rfl h5 (by decide)) rfl ?_
    refine E0 (wanted_none rfl) rfl (y_pickT rfl rfl h5 rfl) ?_
    refine Enil ?_
    refine W_condT rfl rfl ?_
    refine W_seq ?_
    refine W_region ?_
    refine L0 (wanted_none rfl) rfl (y_assign (v := Value.string ⟨⟨_⟩⟩) rfl rfl) ?_
    refine L0 (wanted_none rfl) rfl (y_assign (v := Value.string ⟨⟨_⟩⟩) rfl rfl) ?_
    refine L0 (wanted_none rfl) rfl (y_assign (v := Value.int _ _) rfl rfl) ?_
    refine Lnil ?_
    refine W_ret ?_
    refine fin3 (fn := Tryd.f30) rfl rfl rfl rfl ?_
    first | exact ⟨rfl, hs4⟩ | exact ⟨rfl, hs4.dropL (M := [_]) (by simp; omega)⟩
  · have h5' := h5
    first | replace h5' := of_decide_eq_false h5' | replace h5' := bnF' h5' | skip
    refine E0 (wanted_yesB rfl rfl rfl h5) rfl (y_move (v := Value.pointer _) rfl rfl) ?_
    refine E0 (wanted_yesB rfl rfl rfl h5) rfl (y_move (v := Value.string ⟨⟨_⟩⟩) rfl rfl) ?_
    refine E0 (wanted_yesB rfl rfl rfl h5) rfl (y_move (v := Value.int _ _) rfl rfl) ?_
    refine E0 (wanted_yesB rfl rfl rfl h5) rfl (y_move (v := Value.string ⟨⟨_⟩⟩) rfl rfl) ?_
    refine E0 (wanted_yesB rfl rfl rfl h5) rfl (y_move (v := Value.string ⟨⟨_⟩⟩) rfl rfl) ?_
    refine E0 (wanted_yesB rfl rfl rfl h5) rfl (y_sslice rfl Tryd.underlying9 rfl rfl rfl (by omega)) ?_
    refine E0 (wanted_yesB rfl rfl rfl h5) rfl (y_sslice_hi rfl Tryd.underlying9 rfl rfl (by omega)) ?_
    refine E2 (wanted_yesB rfl rfl rfl h5) (c_call rfl rfl rfl Tryd.func84 (by kernel_rfl) rfl (rnum_any cell w3) rfl ?_)
    rintro _ w6 ⟨rfl, hc7⟩
    have hs8 := hs4.call0 hc7
    refine E2 (wanted_yesB rfl rfl rfl h5) (c_bs3 (v0 := str _) (v1 := str _) (v2 := str _) hs8 rfl rfl Tryd.underlying22 sz9 zr9 rfl rfl rfl rfl rfl rfl (fun b9 w10 hbb9 hs11 => ?_))
    refine E2 (wanted_yesB rfl rfl rfl h5) (c_call rfl rfl rfl Tryd.func83 (by kernel_rfl) rfl (rmark_any 103 [key, numOf cell, (s.drop 16).take 93] _ (by rw [mark3_len, List.length_take, List.length_drop]; omega) (by simp) rb w10 (hR.keep hs11 (by simp [keys]; omega)) (sl_three (hs11.get 0 rfl) rfl)) rfl ?_)
    rintro _ w12 ⟨rfl, hc13⟩
    have hs14 := hs11.call0 hc13
    refine E0 (wanted_yesB rfl rfl rfl h5) rfl (y_sne rfl rfl rfl) ?_
    refine E0 (wanted_none rfl) rfl (y_pickF rfl rfl h5 rfl) ?_
    refine Enil ?_
    refine Wkn (t := 32) (b0 := true) rfl (by exact bnT (fun hh => h ⟨by omega, hh⟩)) (fun h15 => ?_)
    refine W_condT rfl h15 ?_
    refine W_seq ?_
    refine W_region ?_
    refine L0 (wanted_none rfl) rfl (y_assign (v := Value.string ⟨⟨_⟩⟩) rfl rfl) ?_
    refine L0 (wanted_none rfl) rfl (y_assign (v := Value.string ⟨⟨_⟩⟩) rfl rfl) ?_
    refine L0 (wanted_none rfl) rfl (y_assign (v := Value.int _ _) rfl rfl) ?_
    refine Lnil ?_
    refine W_ret ?_
    refine fin3 (fn := Tryd.f30) rfl rfl rfl rfl ?_
    first | exact ⟨rfl, hs14⟩ | exact ⟨rfl, hs14.dropL (M := [_]) (by simp; omega)⟩
theorem runseal_any (key s : List UInt8) (cell : Int) (hk : key.length = 32) (hl : s.length ≤ 1000000) (h : Sealed key cell s) (rb : Nat) (w : World) (hR : RefAt rb w) :
    C Tryd.prog 30 ⟨[pv rb 0, str key, iv cell, str s]⟩ w fun v w' => v = .tuple #[str (s.take 16), str (openText key s), iv 0] ∧ St w [] w' := by
  have hrl := hR.lt
  have hn := numOf_len cell
  have h109 := h.1
  have lc : (cryptIn s).length = 81 := by rw [cryptIn, List.length_take, List.length_drop]; omega
  have ln : (nonceIn s).length = 12 := by rw [nonceIn, List.length_take, List.length_drop]; omega
  have lx := xorOf_length key (nonceIn s) (cryptIn s)
  have hb := ((xorOf key (nonceIn s) (cryptIn s)).getD (0 : Int).toNat 0).toNat_lt
  refine C_enter (n := 53) Tryd.func30 rfl rfl rfl (fun w1 hs1 => ?_)
  refine W_seq ?_
  refine W_region ?_
  refine L0 (wanted_none rfl) rfl (y_assign (v := Value.string ⟨⟨_⟩⟩) rfl rfl) ?_
  refine L0 (wanted_none rfl) rfl (y_assign (v := Value.string ⟨⟨_⟩⟩) rfl rfl) ?_
  refine L0 (wanted_none rfl) rfl (y_assign (v := Value.int _ _) rfl rfl) ?_
  refine Lnil ?_
  refine W_seq ?_
  refine W_seq ?_
  refine W_region ?_
  refine L0 (wanted_none rfl) rfl (y_move (v := Value.string ⟨⟨_⟩⟩) rfl rfl) ?_
  refine L0 (wanted_none rfl) rfl (y_len rfl Tryd.underlying9 rfl) ?_
  refine L0 (wanted_none rfl) rfl (y_ne rfl rfl rfl) ?_
  refine Lnil ?_
  refine Wkn (t := 16) (b0 := false) rfl (by first | exact decide_eq_false (by omega) | exact bnF (by omega) | (simp; omega)) (fun h2 => ?_)
  refine W_condF rfl h2 ?_
  refine W_skip ?_
  refine W_seq ?_
  refine W_seq ?_
  refine W_drawSt [(0, 0), (0, 1), (0, 2), (0, 3), (0, 4), (0, 5), (0, 6), (0, 8), (0, 12), (0, 9), (0, 13), (2, 7), (2, 10), (2, 11), (0, 14), (0, 15)] hs1 mixed (by kernel_rfl) (fun w3 hs4 => ?_)
  refine E0 (wanted_none rfl) rfl (y_move (v := Value.string ⟨⟨_⟩⟩) rfl rfl) ?_
  refine E0 (wanted_none rfl) rfl (y_len rfl Tryd.underlying9 rfl) ?_
  refine E0 (wanted_none rfl) rfl (y_lt rfl rfl rfl) ?_
  refine E0 (wanted_none rfl) rfl (y_move (v := Value.bool _) rfl rfl) ?_
  refine Ekn (t := 20) (b0 := false) rfl (by first | exact decide_eq_false (by omega) | exact bnF (by omega) | (simp; omega)) (fun h5 => ?_)
  refine E0 (wanted_yesB rfl rfl rfl h5) rfl (y_move (v := Value.pointer _) rfl rfl) ?_
  refine E0 (wanted_yesB rfl rfl rfl h5) rfl (y_move (v := Value.string ⟨⟨_⟩⟩) rfl rfl) ?_
  refine E0 (wanted_yesB rfl rfl rfl h5) rfl (y_move (v := Value.int _ _) rfl rfl) ?_
  refine E0 (wanted_yesB rfl rfl rfl h5) rfl (y_move (v := Value.string ⟨⟨_⟩⟩) rfl rfl) ?_
  refine E0 (wanted_yesB rfl rfl rfl h5) rfl (y_move (v := Value.string ⟨⟨_⟩⟩) rfl rfl) ?_
  refine E0 (wanted_yesB rfl rfl rfl h5) rfl (y_sslice rfl Tryd.underlying9 rfl rfl rfl (by omega)) ?_
  refine E0 (wanted_yesB rfl rfl rfl h5) rfl (y_sslice_hi rfl Tryd.underlying9 rfl rfl (by omega)) ?_
  refine E2 (wanted_yesB rfl rfl rfl h5) (c_call rfl rfl rfl Tryd.func84 (by kernel_rfl) rfl (rnum_any cell w3) rfl ?_)
  rintro _ w6 ⟨rfl, hc7⟩
  have hs8 := hs4.call0 hc7
  refine E2 (wanted_yesB rfl rfl rfl h5) (c_bs3 (v0 := str _) (v1 := str _) (v2 := str _) hs8 rfl rfl Tryd.underlying22 sz9 zr9 rfl rfl rfl rfl rfl rfl (fun b9 w10 hbb9 hs11 => ?_))
  refine E2 (wanted_yesB rfl rfl rfl h5) (c_call rfl rfl rfl Tryd.func83 (by kernel_rfl) rfl (rmark_any 103 [key, numOf cell, (s.drop 16).take 93] _ (by rw [mark3_len, List.length_take, List.length_drop]; omega) (by simp) rb w10 (hR.keep hs11 (by simp [keys]; omega)) (sl_three (hs11.get 0 rfl) rfl)) rfl ?_)
  rintro _ w12 ⟨rfl, hc13⟩
  have hs14 := hs11.call0 hc13
  refine E0 (wanted_yesB rfl rfl rfl h5) rfl (y_sne rfl rfl rfl) ?_
  refine E0 (wanted_none rfl) rfl (y_pickF rfl rfl h5 rfl) ?_
  refine Enil ?_
  refine Wkn (t := 32) (b0 := false) rfl (by exact bnF h.2) (fun h15 => ?_)
  refine W_condF rfl h15 ?_
  refine W_skip ?_
  refine W_seq ?_
  refine W_drawSt [(0, 0), (0, 1), (0, 3), (0, 2), (0, 4), (2, 5), (0, 6), (0, 7), (0, 8), (0, 9), (0, 10)] hs14 mixed (by kernel_rfl) (fun w16 hs17 => ?_)
  refine E0 (wanted_none rfl) rfl (y_move (v := Value.string ⟨⟨_⟩⟩) rfl rfl) ?_
  refine E0 (wanted_none rfl) rfl (y_move (v := Value.string ⟨⟨_⟩⟩) rfl rfl) ?_
  refine E0 (wanted_none rfl) rfl (y_move (v := Value.string ⟨⟨_⟩⟩) rfl rfl) ?_
  refine E0 (wanted_none rfl) rfl (y_sslice rfl Tryd.underlying9 rfl rfl rfl (by omega)) ?_
  refine E0 (wanted_none rfl) rfl (y_sslice rfl Tryd.underlying9 rfl rfl rfl (by omega)) ?_
  refine E2 (wanted_none rfl) (c_call rfl rfl rfl Tryd.func85 (by kernel_rfl) rfl (rxor_any key (nonceIn s) (cryptIn s) (by omega) hk ln w16) rfl ?_)
  rintro _ w18 ⟨rfl, hc19⟩
  have hs20 := hs17.call0 hc19
  refine E0 (wanted_none rfl) rfl (y_move (v := Value.tuple ⟨_⟩) rfl rfl) ?_
  refine E0 (wanted_none rfl) rfl (y_extract rfl rfl rfl) ?_
  refine E0 (wanted_none rfl) rfl (y_extract rfl rfl rfl) ?_
  refine E0 (wanted_none rfl) rfl (y_assign (v := Value.string ⟨⟨_⟩⟩) rfl rfl) ?_
  refine E0 (wanted_none rfl) rfl (y_assign (v := Value.int _ _) rfl rfl) ?_
  refine Enil ?_
  refine W_seq ?_
  refine W_region ?_
  refine L0 (wanted_none rfl) rfl (y_move (v := Value.string ⟨⟨_⟩⟩) rfl rfl) ?_
  refine L0 (wanted_none rfl) rfl (y_sindex rfl Tryd.underlying9 rfl rfl (by omega) (by omega)) ?_
  refine L0 (wanted_none rfl) rfl (y_c8toi rfl Tryd.underlying5 Tryd.underlying3 rfl) ?_
  refine L0 (wanted_none rfl) rfl (y_assign (v := Value.int _ _) rfl rfl) ?_
  refine Lnil ?_
  refine W_seq ?_
  refine W_seq ?_
  refine W_region ?_
  refine L0 (wanted_none rfl) rfl (y_move (v := Value.int _ _) rfl rfl) ?_
  refine L0 (wanted_none rfl) rfl (y_gt rfl rfl rfl) ?_
  refine Lnil ?_
  refine Wsp (t := 46) rfl (fun h21 => ?_) (fun h21 => ?_)
  · have h21' := h21
    first | replace h21' := of_decide_eq_true h21' | replace h21' := bnT' h21' | skip
    refine W_condT rfl h21 ?_
    refine W_region ?_
    refine L0 (wanted_none rfl) rfl (y_assign (v := Value.int _ _) rfl rfl) ?_
    refine Lnil ?_
    refine W_seq ?_
    refine W_drawSt [(0, 0), (0, 2), (0, 3), (0, 1), (0, 4), (0, 5), (0, 6), (0, 7), (0, 8)] hs20 mixed (by kernel_rfl) (fun w22 hs23 => ?_)
    refine E0 (wanted_none rfl) rfl (y_move (v := Value.string ⟨⟨_⟩⟩) rfl rfl) ?_
    refine E0 (wanted_none rfl) rfl (y_move (v := Value.string ⟨⟨_⟩⟩) rfl rfl) ?_
    refine E0 (wanted_none rfl) rfl (y_move (v := Value.int _ _) rfl rfl) ?_
    refine E0 (wanted_none rfl) rfl (y_sslice_hi rfl Tryd.underlying9 rfl rfl (by omega)) ?_
    refine E0 (wanted_none rfl) rfl (y_add64 rfl rfl rfl (by omega)) ?_
    refine E0 (wanted_none rfl) rfl (y_sslice rfl Tryd.underlying9 rfl rfl rfl (by omega)) ?_
    refine E0 (wanted_none rfl) rfl (y_assign (v := Value.string ⟨⟨_⟩⟩) rfl rfl) ?_
    refine E0 (wanted_none rfl) rfl (y_assign (v := Value.string ⟨⟨_⟩⟩) rfl rfl) ?_
    refine E0 (wanted_none rfl) rfl (y_assign (v := Value.int _ _) rfl rfl) ?_
    refine Enil ?_
    refine W_ret ?_
    refine fin3 (fn := Tryd.f30) rfl rfl rfl rfl ?_
    refine ⟨?_, hs23.dropL (M := [_]) (by simp; omega)⟩
    have eo : openText key s = ((xorOf key (nonceIn s) (cryptIn s)).drop 1).take (min ((xorOf key (nonceIn s) (cryptIn s)).getD 0 0).toNat 80) := rfl
    first
      | (have h46 : (80 : Int) < (((xorOf key (nonceIn s) (cryptIn s)).getD 0 0).toNat : Int) := by assumption
         rw [eo, Nat.min_eq_right (by omega)]; rfl)
      | (have h46 : ¬ (80 : Int) < (((xorOf key (nonceIn s) (cryptIn s)).getD 0 0).toNat : Int) := by assumption
         have e2 : ((1 : Int) + (((xorOf key (nonceIn s) (cryptIn s)).getD (0 : Int).toNat 0).toNat : Int)).toNat - (1 : Int).toNat = ((xorOf key (nonceIn s) (cryptIn s)).getD 0 0).toNat := by
           show ((1 : Int) + (((xorOf key (nonceIn s) (cryptIn s)).getD 0 0).toNat : Int)).toNat - (1 : Int).toNat = _
           omega
         rw [eo, Nat.min_eq_left (by omega), e2]; rfl)
  · have h21' := h21
    first | replace h21' := of_decide_eq_false h21' | replace h21' := bnF' h21' | skip
    refine W_condF rfl h21 ?_
    refine W_skip ?_
    refine W_seq ?_
    refine W_drawSt [(0, 0), (0, 2), (0, 3), (0, 1), (0, 4), (0, 5), (0, 6), (0, 7), (0, 8)] hs20 mixed (by kernel_rfl) (fun w24 hs25 => ?_)
    refine E0 (wanted_none rfl) rfl (y_move (v := Value.string ⟨⟨_⟩⟩) rfl rfl) ?_
    refine E0 (wanted_none rfl) rfl (y_move (v := Value.string ⟨⟨_⟩⟩) rfl rfl) ?_
    refine E0 (wanted_none rfl) rfl (y_move (v := Value.int _ _) rfl rfl) ?_
    refine E0 (wanted_none rfl) rfl (y_sslice_hi rfl Tryd.underlying9 rfl rfl (by omega)) ?_
    refine E0 (wanted_none rfl) rfl (y_add64 rfl rfl rfl (by omega)) ?_
    refine E0 (wanted_none rfl) rfl (y_sslice rfl Tryd.underlying9 rfl rfl rfl (by omega)) ?_
    refine E0 (wanted_none rfl) rfl (y_assign (v := Value.string ⟨⟨_⟩⟩) rfl rfl) ?_
    refine E0 (wanted_none rfl) rfl (y_assign (v := Value.string ⟨⟨_⟩⟩) rfl rfl) ?_
    refine E0 (wanted_none rfl) rfl (y_assign (v := Value.int _ _) rfl rfl) ?_
    refine Enil ?_
    refine W_ret ?_
    refine fin3 (fn := Tryd.f30) rfl rfl rfl rfl ?_
    refine ⟨?_, hs25.dropL (M := [_]) (by simp; omega)⟩
    have eo : openText key s = ((xorOf key (nonceIn s) (cryptIn s)).drop 1).take (min ((xorOf key (nonceIn s) (cryptIn s)).getD 0 0).toNat 80) := rfl
    first
      | (have h46 : (80 : Int) < (((xorOf key (nonceIn s) (cryptIn s)).getD 0 0).toNat : Int) := by assumption
         rw [eo, Nat.min_eq_right (by omega)]; rfl)
      | (have h46 : ¬ (80 : Int) < (((xorOf key (nonceIn s) (cryptIn s)).getD 0 0).toNat : Int) := by assumption
         have e2 : ((1 : Int) + (((xorOf key (nonceIn s) (cryptIn s)).getD (0 : Int).toNat 0).toNat : Int)).toNat - (1 : Int).toNat = ((xorOf key (nonceIn s) (cryptIn s)).getD 0 0).toNat := by
           show ((1 : Int) + (((xorOf key (nonceIn s) (cryptIn s)).getD 0 0).toNat : Int)).toNat - (1 : Int).toNat = _
           omega
         rw [eo, Nat.min_eq_left (by omega), e2]; rfl)
theorem runseal_res (key s : List UInt8) (cell : Int) (hl : s.length ≤ 1000000) (rb : Nat) (w : World) (hR : RefAt rb w) :
    C Tryd.prog 30 ⟨[pv rb 0, str key, iv cell, str s]⟩ w fun v w' => v = .tuple #[str (openRes key cell s).1.1, str (openRes key cell s).1.2, iv (openRes key cell s).2] ∧ St w [] w' := by
  by_cases h1 : key.length = 32
  · by_cases h2 : Sealed key cell s
    · have e : openRes key cell s = ((s.take 16, openText key s), 0) := by rw [openRes, if_pos h1, if_pos h2]
      rw [e]; exact runseal_any key s cell h1 hl h2 rb w hR
    · have e : openRes key cell s = (([], []), 15) := by rw [openRes, if_pos h1, if_neg h2]
      rw [e]; exact runseal_spoilt key s cell h1 hl h2 rb w hR
  · have e : openRes key cell s = (([], []), 1) := by rw [openRes, if_neg h1]
    rw [e]; exact runseal_arg key s cell h1 rb w
theorem three_at {a b c : List UInt8} {i : Nat} (h : i < 3) : (⟨[str a, str b, str c]⟩ : Array Value)[0 + (i : Int).toNat * 1]? = some (str ([a, b, c].getD i [])) := by
  rw [ix1]
  match i, h with
  | 0, _ => rfl
  | 1, _ => rfl
  | 2, _ => rfl
theorem sealRes_len (key : List UInt8) (cell : Int) (text : List UInt8) : (sealRes key cell text).1.length ≤ 109 := by
  unfold sealRes
  split
  · split
    · rename_i h; exact Nat.le_of_eq (sealOf_len h)
    · exact Nat.zero_le _
  · exact Nat.zero_le _
theorem seals_long (key text s : List UInt8) (cell : Int) (h : 60 < key.length ∨ 120 < text.length ∨ 200 < s.length) (w : World) :
    C Tryd.prog 5 ⟨[str key, iv cell, str text, str s]⟩ w fun v w' => v = .bool true ∧ St w [] w' := by
  refine C_enter (n := 101) Tryd.func5 rfl rfl rfl (fun w1 hs1 => ?_)
  refine W_seq ?_
  refine W_region ?_
  refine L0 (wanted_none rfl) rfl (y_assign (v := Value.bool _) rfl rfl) ?_
  refine Lnil ?_
  refine W_seq ?_
  refine W_seq ?_
  refine W_region ?_
  refine L0 (wanted_none rfl) rfl (y_move (v := Value.string ⟨⟨_⟩⟩) rfl rfl) ?_
  refine Lc (wanted_none rfl) (c_call rfl rfl rfl Tryd.func26 (by kernel_rfl) rfl (long_any key w1) rfl ?_)
  rintro _ w2 ⟨rfl, hc3⟩
  have hs4 := hs1.call0 hc3
  refine L0 (wanted_none rfl) rfl (y_move (v := Value.bool _) rfl rfl) ?_
  refine Lsp (t := 24) rfl (fun h5 => ?_) (fun h5 => ?_)
  · have h5' := h5
    first | replace h5' := of_decide_eq_true h5' | replace h5' := bnT' h5' | skip
    refine Lno (wanted_noB rfl rfl rfl h5 (by decide)) rfl ?_
    refine Lno (wanted_noB rfl rfl rfl h5 (by decide)) rfl ?_
    refine Lno (wanted_noB rfl rfl rfl h5 (by decide)) rfl ?_
    refine L0 (wanted_none rfl) rfl (y_pickT rfl rfl h5 rfl) ?_
    refine L0 (wanted_none rfl) rfl (y_move (v := Value.bool _) rfl rfl) ?_
    refine Lno (wanted_noB rfl rfl rfl rfl (by decide)) rfl ?_
    refine Lno (wanted_noB rfl rfl rfl rfl (by decide)) rfl ?_
    refine Lno (wanted_noB rfl rfl rfl rfl (by decide)) rfl ?_
    refine L0 (wanted_none rfl) rfl (y_pickT rfl rfl (rfl : true = true) rfl) ?_
    refine Lnil ?_
    refine W_condT rfl rfl ?_
    refine W_seq ?_
    refine W_region ?_
    refine L0 (wanted_none rfl) rfl (y_assign (v := Value.bool _) rfl rfl) ?_
    refine Lnil ?_
    refine W_ret ?_
    refine fin1 (fn := Tryd.f5) rfl rfl ?_
    exact ⟨rfl, hs4⟩
  · have h5' := h5
    first | replace h5' := of_decide_eq_false h5' | replace h5' := bnF' h5' | skip
    refine L0 (wanted_yesB rfl rfl rfl h5) rfl (y_move (v := Value.string ⟨⟨_⟩⟩) rfl rfl) ?_
    refine L0 (wanted_yesB rfl rfl rfl h5) rfl (y_len rfl Tryd.underlying9 rfl) ?_
    refine L0 (wanted_yesB rfl rfl rfl h5) rfl (y_gt rfl rfl rfl) ?_
    refine L0 (wanted_none rfl) rfl (y_pickF rfl rfl h5 rfl) ?_
    refine L0 (wanted_none rfl) rfl (y_move (v := Value.bool _) rfl rfl) ?_
    refine Lsp (t := 29) rfl (fun h6 => ?_) (fun h6 => ?_)
    · have h6' := h6
      first | replace h6' := of_decide_eq_true h6' | replace h6' := bnT' h6' | skip
      refine Lno (wanted_noB rfl rfl rfl h6 (by decide)) rfl ?_
      refine Lno (wanted_noB rfl rfl rfl h6 (by decide)) rfl ?_
      refine Lno (wanted_noB rfl rfl rfl h6 (by decide)) rfl ?_
      refine L0 (wanted_none rfl) rfl (y_pickT rfl rfl h6 rfl) ?_
      refine Lnil ?_
      refine W_condT rfl rfl ?_
      refine W_seq ?_
      refine W_region ?_
      refine L0 (wanted_none rfl) rfl (y_assign (v := Value.bool _) rfl rfl) ?_
      refine Lnil ?_
      refine W_ret ?_
      refine fin1 (fn := Tryd.f5) rfl rfl ?_
      exact ⟨rfl, hs4⟩
    · have h6' := h6
      first | replace h6' := of_decide_eq_false h6' | replace h6' := bnF' h6' | skip
      refine L0 (wanted_yesB rfl rfl rfl h6) rfl (y_move (v := Value.string ⟨⟨_⟩⟩) rfl rfl) ?_
      refine L0 (wanted_yesB rfl rfl rfl h6) rfl (y_len rfl Tryd.underlying9 rfl) ?_
      refine L0 (wanted_yesB rfl rfl rfl h6) rfl (y_gt rfl rfl rfl) ?_
      refine L0 (wanted_none rfl) rfl (y_pickF rfl rfl h6 rfl) ?_
      refine Lnil ?_
      refine Wkn (t := 33) (b0 := true) rfl (by first | exact decide_eq_true (by omega) | exact bnT (by omega) | (simp; omega)) (fun h7 => ?_)
      refine W_condT rfl h7 ?_
      refine W_seq ?_
      refine W_region ?_
      refine L0 (wanted_none rfl) rfl (y_assign (v := Value.bool _) rfl rfl) ?_
      refine Lnil ?_
      refine W_ret ?_
      refine fin1 (fn := Tryd.f5) rfl rfl ?_
      exact ⟨rfl, hs4⟩
theorem seals_any (key text s : List UInt8) (cell : Int) (l1 : key.length ≤ 60) (l2 : text.length ≤ 120) (l3 : s.length ≤ 200) (w : World) (hr : RoundsAt w) (he : ErrAt w) :
    C Tryd.prog 5 ⟨[str key, iv cell, str text, str s]⟩ w fun v w' => v = .bool true ∧ St w [] w' := by
  have hrl := hr.1
  have hel := he.lt
  have hsl := sealRes_len key cell text
  refine C_enter (n := 101) Tryd.func5 rfl rfl rfl (fun w1 hs1 => ?_)
  refine W_seq ?_
  refine W_region ?_
  refine L0 (wanted_none rfl) rfl (y_assign (v := Value.bool _) rfl rfl) ?_
  refine Lnil ?_
  refine W_seq ?_
  refine W_seq ?_
  refine W_region ?_
  refine L0 (wanted_none rfl) rfl (y_move (v := Value.string ⟨⟨_⟩⟩) rfl rfl) ?_
  refine Lc (wanted_none rfl) (c_call rfl rfl rfl Tryd.func26 (by kernel_rfl) rfl (long_any key w1) rfl ?_)
  rintro _ w2 ⟨rfl, hc3⟩
  have hs4 := hs1.call0 hc3
  refine L0 (wanted_none rfl) rfl (y_move (v := Value.bool _) rfl rfl) ?_
  refine Lkn (t := 24) (b0 := false) rfl (by first | exact decide_eq_false (by omega) | exact bnF (by omega) | (simp; omega)) (fun h5 => ?_)
  refine L0 (wanted_yesB rfl rfl rfl h5) rfl (y_move (v := Value.string ⟨⟨_⟩⟩) rfl rfl) ?_
  refine L0 (wanted_yesB rfl rfl rfl h5) rfl (y_len rfl Tryd.underlying9 rfl) ?_
  refine L0 (wanted_yesB rfl rfl rfl h5) rfl (y_gt rfl rfl rfl) ?_
  refine L0 (wanted_none rfl) rfl (y_pickF rfl rfl h5 rfl) ?_
  refine L0 (wanted_none rfl) rfl (y_move (v := Value.bool _) rfl rfl) ?_
  refine Lkn (t := 29) (b0 := false) rfl (by first | exact decide_eq_false (by omega) | exact bnF (by omega) | (simp; omega)) (fun h6 => ?_)
  refine L0 (wanted_yesB rfl rfl rfl h6) rfl (y_move (v := Value.string ⟨⟨_⟩⟩) rfl rfl) ?_
  refine L0 (wanted_yesB rfl rfl rfl h6) rfl (y_len rfl Tryd.underlying9 rfl) ?_
  refine L0 (wanted_yesB rfl rfl rfl h6) rfl (y_gt rfl rfl rfl) ?_
  refine L0 (wanted_none rfl) rfl (y_pickF rfl rfl h6 rfl) ?_
  refine Lnil ?_
  refine Wkn (t := 33) (b0 := false) rfl (by first | exact decide_eq_false (by omega) | exact bnF (by omega) | (simp; omega)) (fun h7 => ?_)
  refine W_condF rfl h7 ?_
  refine W_skip ?_
  refine W_seq ?_
  refine W_region ?_
  refine Lc (wanted_none rfl) (c_call rfl rfl rfl Tryd.func27 (by kernel_rfl) rfl (new_any w2) rfl ?_)
  rintro _ w8 ⟨rb, rfl, hrb, hc9⟩
  have hrbw : w.heap.size ≤ rb := Nat.le_trans hs4.size hrb
  have hs10 := hs4.call_new hc9 (fun k hk => by simp [keys] at hk; omega)
  refine L0 (wanted_none rfl) rfl (y_assign (v := Value.pointer _) rfl rfl) ?_
  refine Lnil ?_
  refine W_seq ?_
  refine W_region ?_
  refine L0 (wanted_none rfl) rfl (y_move (v := Value.pointer _) rfl rfl) ?_
  refine L0 (wanted_none rfl) rfl (y_move (v := Value.string ⟨⟨_⟩⟩) rfl rfl) ?_
  refine L0 (wanted_none rfl) rfl (y_move (v := Value.int _ _) rfl rfl) ?_
  refine L0 (wanted_none rfl) rfl (y_move (v := Value.string ⟨⟨_⟩⟩) rfl rfl) ?_
  refine Lc (wanted_none rfl) (c_call rfl rfl rfl Tryd.func28 (by kernel_rfl) rfl (rseal_res key text cell rb w8 (hs10.get 0 rfl)) rfl ?_)
  rintro _ w11 ⟨rfl, hc12⟩
  have hs13 := hs10.call0 hc12
  refine L0 (wanted_none rfl) rfl (y_move (v := Value.tuple ⟨_⟩) rfl rfl) ?_
  refine L0 (wanted_none rfl) rfl (y_extract rfl rfl rfl) ?_
  refine L0 (wanted_none rfl) rfl (y_extract rfl rfl rfl) ?_
  refine L0 (wanted_none rfl) rfl (y_assign (v := Value.string ⟨⟨_⟩⟩) rfl rfl) ?_
  refine L0 (wanted_none rfl) rfl (y_assign (v := Value.int _ _) rfl rfl) ?_
  refine Lnil ?_
  refine W_seq ?_
  refine W_region ?_
  refine L0 (wanted_none rfl) rfl (y_move (v := Value.string ⟨⟨_⟩⟩) rfl rfl) ?_
  refine L0 (wanted_none rfl) rfl (y_move (v := Value.int _ _) rfl rfl) ?_
  refine L0 (wanted_none rfl) rfl (y_move (v := Value.string ⟨⟨_⟩⟩) rfl rfl) ?_
  refine Lc (wanted_none rfl) (c_call rfl rfl rfl Tryd.func21 (by kernel_rfl) rfl (seal_res key text cell w11 (hr.keep hs13 (by simp [keys]; omega))) rfl ?_)
  rintro _ w14 ⟨⟨eK, rfl, hK⟩, hc15⟩
  have hs16 := hs13.call0 hc15
  refine L0 (wanted_none rfl) rfl (y_move (v := Value.tuple ⟨_⟩) rfl rfl) ?_
  refine L0 (wanted_none rfl) rfl (y_extract rfl rfl rfl) ?_
  refine L0 (wanted_none rfl) rfl (y_extract rfl rfl rfl) ?_
  refine L0 (wanted_none rfl) rfl (y_assign (v := Value.string ⟨⟨_⟩⟩) rfl rfl) ?_
  refine L0 (wanted_none rfl) rfl (y_assign (v := _) rfl rfl) ?_
  refine Lnil ?_
  refine W_seq ?_
  refine W_seq ?_
  refine W_region ?_
  refine L0 (wanted_none rfl) rfl (y_move (v := _) rfl rfl) ?_
  refine L0 (wanted_none rfl) rfl (y_move (v := Value.int _ _) rfl rfl) ?_
  refine Lc (wanted_none rfl) (c_call rfl rfl rfl Tryd.func29 (by kernel_rfl) rfl (bare_of hK w14 (he.keep hs16 (by simp [keys]; omega))) rfl ?_)
  rintro _ w17 ⟨rfl, hc18⟩
  have hs19 := hs16.call0 hc18
  refine L0 (wanted_none rfl) rfl (y_not rfl rfl) ?_
  refine L0 (wanted_none rfl) rfl (y_move (v := Value.bool _) rfl rfl) ?_
  refine Lkn (t := 54) (b0 := false) rfl (by rfl) (fun h20 => ?_)
  refine L0 (wanted_yesB rfl rfl rfl h20) rfl (y_move (v := Value.string ⟨⟨_⟩⟩) rfl rfl) ?_
  refine L0 (wanted_yesB rfl rfl rfl h20) rfl (y_move (v := Value.string ⟨⟨_⟩⟩) rfl rfl) ?_
  refine L0 (wanted_yesB rfl rfl rfl h20) rfl (y_sne rfl rfl rfl) ?_
  refine L0 (wanted_none rfl) rfl (y_pickF rfl rfl h20 rfl) ?_
  refine Lnil ?_
  refine Wkn (t := 58) (b0 := false) rfl (by exact bnF rfl) (fun h21 => ?_)
  refine W_condF rfl h21 ?_
  refine W_skip ?_
  refine W_seq ?_
  refine W_seq ?_
  refine W_region ?_
  refine L0 (wanted_none rfl) rfl (y_move (v := Value.string ⟨⟨_⟩⟩) rfl rfl) ?_
  refine L0 (wanted_none rfl) rfl (y_move (v := Value.string ⟨⟨_⟩⟩) rfl rfl) ?_
  refine L0 (wanted_none rfl) rfl (y_move (v := Value.string ⟨⟨_⟩⟩) rfl rfl) ?_
  refine L0 (wanted_none rfl) rfl (y_scat rfl rfl rfl (by show _ + 1 ≤ _; omega)) ?_
  refine Lc (wanted_none rfl) (c_bs3 (v0 := str _) (v1 := str _) (v2 := str _) hs19 rfl rfl Tryd.underlying22 sz9 zr9 rfl rfl rfl rfl rfl rfl (fun b22 w23 hbb22 hs24 => ?_))
  refine L0 (wanted_none rfl) rfl (y_slen rfl Tryd.underlying22 rfl) ?_
  refine L0 (wanted_none rfl) rfl (y_move (v := Value.int _ _) rfl rfl) ?_
  refine Lnil ?_
  refine W_block ?_
  refine W_loop (G := Nat) (fun i aL wl => ∃ e, aL = A 101 ((65, iv i) :: (64, iv 3) :: (63, .slice (some ⟨b22, 0, none⟩) 3 3) :: (9, pv rb 0) :: (0, str key) :: (1, iv cell) :: e) ∧ i ≤ 3 ∧ St w [(b22, .cells ⟨[str s, str (sealRes key cell text).1, str ((sealRes key cell text).1 ++ [120])]⟩ 9 (0, 0)), (rb, .cells (us (h0T ++ kT)) 127 (0, 0))] wl) (fun i => 3 - i) (0) ?_ ?_
  · exact ⟨_, A_pins _ _ [65, 64, 63, 9, 0, 1], Nat.zero_le _, hs24⟩
  rintro i _ w25 ⟨ehs26, rfl, hi, hs26⟩
  refine W_seq ?_
  refine W_region ?_
  refine L0 (wanted_none rfl) rfl (y_lt rfl rfl rfl) ?_
  refine Lnil ?_
  refine W_seq ?_
  refine Wsp (t := 66) rfl (fun h27 => ?_) (fun h27 => ?_)
  · have h27' := h27
    first | replace h27' := of_decide_eq_true h27' | replace h27' := bnT' h27' | skip
    refine W_condT rfl h27 ?_
    refine W_skip ?_
    refine W_seq ?_
    refine W_block ?_
    refine W_seq ?_
    refine W_region ?_
    refine L0 (wanted_none rfl) rfl (y_indexSl rfl Tryd.underlying22 sz9 rfl rfl (by omega) (by omega)) ?_
    refine L1 (wanted_none rfl) rfl hs26 (y_load 0 rfl Tryd.underlying9 rfl rfl rfl (three_at (by omega))) ?_
    refine L0 (wanted_none rfl) rfl (y_assign (v := Value.string ⟨⟨_⟩⟩) rfl rfl) ?_
    refine Lnil ?_
    refine W_seq ?_
    obtain ⟨x, ex⟩ : ∃ x, x = [s, (sealRes key cell text).1, (sealRes key cell text).1 ++ [120]].getD i [] := ⟨_, rfl⟩
    rw [← ex]
    have hxl : x.length ≤ 1000000 := by
      have h3 : i = 0 ∨ i = 1 ∨ i = 2 := by omega
      rw [ex]
      rcases h3 with rfl | rfl | rfl
      · show s.length ≤ _; omega
      · show (sealRes key cell text).1.length ≤ _; omega
      · show ((sealRes key cell text).1 ++ [120]).length ≤ _; rw [List.length_append]; show _ + 1 ≤ _; omega
    refine W_region ?_
    refine L0 (wanted_none rfl) rfl (y_move (v := Value.pointer _) rfl rfl) ?_
    refine L0 (wanted_none rfl) rfl (y_move (v := Value.string ⟨⟨_⟩⟩) rfl rfl) ?_
    refine L0 (wanted_none rfl) rfl (y_move (v := Value.int _ _) rfl rfl) ?_
    refine L0 (wanted_none rfl) rfl (y_move (v := Value.string ⟨⟨_⟩⟩) rfl rfl) ?_
    refine Lc (wanted_none rfl) (c_call rfl rfl rfl Tryd.func30 (by kernel_rfl) rfl (runseal_res key x cell hxl rb w25 (hs26.get 1 rfl)) rfl ?_)
    rintro _ w28 ⟨rfl, hc29⟩
    have hs30 := hs26.call0 hc29
    refine L0 (wanted_none rfl) rfl (y_move (v := Value.tuple ⟨_⟩) rfl rfl) ?_
    refine L0 (wanted_none rfl) rfl (y_extract rfl rfl rfl) ?_
    refine L0 (wanted_none rfl) rfl (y_extract rfl rfl rfl) ?_
    refine L0 (wanted_none rfl) rfl (y_extract rfl rfl rfl) ?_
    refine L0 (wanted_none rfl) rfl (y_assign (v := Value.string ⟨⟨_⟩⟩) rfl rfl) ?_
    refine L0 (wanted_none rfl) rfl (y_assign (v := Value.string ⟨⟨_⟩⟩) rfl rfl) ?_
    refine L0 (wanted_none rfl) rfl (y_assign (v := Value.int _ _) rfl rfl) ?_
    refine Lnil ?_
    refine W_seq ?_
    refine W_region ?_
    refine L0 (wanted_none rfl) rfl (y_move (v := Value.string ⟨⟨_⟩⟩) rfl rfl) ?_
    refine L0 (wanted_none rfl) rfl (y_move (v := Value.int _ _) rfl rfl) ?_
    refine L0 (wanted_none rfl) rfl (y_move (v := Value.string ⟨⟨_⟩⟩) rfl rfl) ?_
    refine Lc (wanted_none rfl) (c_call rfl rfl rfl Tryd.func22 (by kernel_rfl) rfl (open_res key x cell hxl w28 (hr.keep hs30 (by simp [keys]; omega))) rfl ?_)
    rintro _ w31 ⟨⟨eO, rfl, hO⟩, hc32⟩
    have hs33 := hs30.call0 hc32
    refine L0 (wanted_none rfl) rfl (y_move (v := Value.tuple ⟨_⟩) rfl rfl) ?_
    refine L0 (wanted_none rfl) rfl (y_extract rfl rfl rfl) ?_
    refine L0 (wanted_none rfl) rfl (y_extract rfl rfl rfl) ?_
    refine L0 (wanted_none rfl) rfl (y_extract rfl rfl rfl) ?_
    refine L0 (wanted_none rfl) rfl (y_assign (v := Value.string ⟨⟨_⟩⟩) rfl rfl) ?_
    refine L0 (wanted_none rfl) rfl (y_assign (v := Value.string ⟨⟨_⟩⟩) rfl rfl) ?_
    refine L0 (wanted_none rfl) rfl (y_assign (v := _) rfl rfl) ?_
    refine Lnil ?_
    refine W_seq ?_
    refine W_region ?_
    refine L0 (wanted_none rfl) rfl (y_move (v := _) rfl rfl) ?_
    refine L0 (wanted_none rfl) rfl (y_move (v := Value.int _ _) rfl rfl) ?_
    refine Lc (wanted_none rfl) (c_call rfl rfl rfl Tryd.func29 (by kernel_rfl) rfl (bare_of hO w31 (he.keep hs33 (by simp [keys]; omega))) rfl ?_)
    rintro _ w34 ⟨rfl, hc35⟩
    have hs36 := hs33.call0 hc35
    refine L0 (wanted_none rfl) rfl (y_not rfl rfl) ?_
    refine L0 (wanted_none rfl) rfl (y_move (v := Value.bool _) rfl rfl) ?_
    refine Lkn (t := 90) (b0 := false) rfl (by rfl) (fun h37 => ?_)
    refine L0 (wanted_yesB rfl rfl rfl h37) rfl (y_move (v := Value.string ⟨⟨_⟩⟩) rfl rfl) ?_
    refine L0 (wanted_yesB rfl rfl rfl h37) rfl (y_move (v := Value.string ⟨⟨_⟩⟩) rfl rfl) ?_
    refine L0 (wanted_yesB rfl rfl rfl h37) rfl (y_sne rfl rfl rfl) ?_
    refine L0 (wanted_none rfl) rfl (y_pickF rfl rfl h37 rfl) ?_
    refine L0 (wanted_none rfl) rfl (y_move (v := Value.bool _) rfl rfl) ?_
    refine Lkn (t := 95) (b0 := false) rfl (by exact bnF rfl) (fun h38 => ?_)
    refine L0 (wanted_yesB rfl rfl rfl h38) rfl (y_move (v := Value.string ⟨⟨_⟩⟩) rfl rfl) ?_
    refine L0 (wanted_yesB rfl rfl rfl h38) rfl (y_move (v := Value.string ⟨⟨_⟩⟩) rfl rfl) ?_
    refine L0 (wanted_yesB rfl rfl rfl h38) rfl (y_sne rfl rfl rfl) ?_
    refine L0 (wanted_none rfl) rfl (y_pickF rfl rfl h38 rfl) ?_
    refine Lnil ?_
    refine Wkn (t := 99) (b0 := false) rfl (by exact bnF rfl) (fun h39 => ?_)
    refine W_condF rfl h39 ?_
    refine W_skip ?_
    refine W_region ?_
    refine L0 (wanted_none rfl) rfl (y_add64 rfl rfl rfl (by omega)) ?_
    refine L0 (wanted_none rfl) rfl (y_move (v := Value.int _ _) rfl rfl) ?_
    refine Lnil ?_
    exact ⟨i + 1, by (try dsimp only); omega, _, A_c (iv_eq (by (try dsimp only); omega)) (A_c rfl (A_c rfl (A_c rfl (A_c rfl (A_c rfl (rfl)))))), by omega, hs36⟩
  · have h27' := h27
    first | replace h27' := of_decide_eq_false h27' | replace h27' := bnF' h27' | skip
    refine W_condF rfl h27 ?_
    refine W_exit ?_
    refine W_seq ?_
    refine W_region ?_
    refine L0 (wanted_none rfl) rfl (y_assign (v := Value.bool _) rfl rfl) ?_
    refine Lnil ?_
    refine W_ret ?_
    refine fin1 (fn := Tryd.f5) rfl rfl ?_
    exact ⟨rfl, hs26.dropL (M := [_, _]) (by have := hbb22; simp; omega)⟩
end Go.Proofs.YtkolfgmpmnelmabDoor
