/-
  Walks: seal.Open, keep.sealed; what is sealed is opened.
-/
import Derived.Test.YtkolfgmpmnelmabDoorG1
import Derived.Test.YtkolfgmpmnelmabDoorT2
namespace Go.Proofs.YtkolfgmpmnelmabDoor
open Go Vx Go.Proofs
set_option linter.unusedVariables false
set_option maxRecDepth 4000
set_option maxHeartbeats 400000

def cryptIn (s : List UInt8) : List UInt8 := (s.drop 28).take 81
def nonceIn (s : List UInt8) : List UInt8 := (s.drop 16).take 12
def openText (key s : List UInt8) : List UInt8 := ((xorOf key (nonceIn s) (cryptIn s)).drop 1).take (min ((xorOf key (nonceIn s) (cryptIn s)).getD 0 0).toNat 80)
def Sealed (key : List UInt8) (cell : Int) (s : List UInt8) : Prop := 109 ≤ s.length ∧ tagOf key cell ((s.drop 16).take 93) = s.take 16
theorem open_arg (key s : List UInt8) (cell : Int) (h : key.length ≠ 32) (w : World) :
    C Tryd.prog 22 ⟨[str key, iv cell, str s]⟩ w fun v w' => v = .tuple #[str [], str [], .iface 35 (iv 1)] ∧ St w [] w' := by
  refine C_enter (n := 50) Tryd.func22 rfl rfl rfl (fun w1 hs1 => ?_)
  refine W_seq ?_
  refine W_region ?_
  refine L0 (wanted_none rfl) rfl (y_assign (v := Value.string ⟨⟨_⟩⟩) rfl rfl) ?_
  refine L0 (wanted_none rfl) rfl (y_assign (v := Value.string ⟨⟨_⟩⟩) rfl rfl) ?_
  refine L0 (wanted_none rfl) rfl (y_assign (v := Value.nilIface) rfl rfl) ?_
  refine Lnil ?_
  refine W_seq ?_
  refine W_seq ?_
  refine W_region ?_
  refine L0 (wanted_none rfl) rfl (y_move (v := Value.string ⟨⟨_⟩⟩) rfl rfl) ?_
  refine L0 (wanted_none rfl) rfl (y_len rfl Tryd.underlying9 rfl) ?_
  refine L0 (wanted_none rfl) rfl (y_ne rfl rfl rfl) ?_
  refine Lnil ?_
  refine Wkn (t := 13) (b0 := true) rfl (by first | exact decide_eq_true (by omega) | exact bnT (by omega) | (simp; omega)) (fun h2 => ?_)
  refine W_condT rfl h2 ?_
  refine W_seq ?_
  refine W_region ?_
  refine L0 (wanted_none rfl) rfl (y_mkif rfl Tryd.underlying35 rfl rfl) ?_
  refine L0 (wanted_none rfl) rfl (y_assign (v := Value.string ⟨⟨_⟩⟩) rfl rfl) ?_
  refine L0 (wanted_none rfl) rfl (y_assign (v := Value.string ⟨⟨_⟩⟩) rfl rfl) ?_
  refine L0 (wanted_none rfl) rfl (y_assign (v := Value.iface _ _) rfl rfl) ?_
  refine Lnil ?_
  refine W_ret ?_
  refine fin3 (fn := Tryd.f22) rfl rfl rfl rfl ?_
  exact ⟨rfl, hs1⟩
theorem open_spoilt (key s : List UInt8) (cell : Int) (hk : key.length = 32) (hl : s.length ≤ 1000000) (h : ¬ Sealed key cell s) (w : World) (hr : RoundsAt w) :
    C Tryd.prog 22 ⟨[str key, iv cell, str s]⟩ w fun v w' => v = .tuple #[str [], str [], .iface 35 (iv 15)] ∧ St w [] w' := by
  refine C_enter (n := 50) Tryd.func22 rfl rfl rfl (fun w1 hs1 => ?_)
  refine W_seq ?_
  refine W_region ?_
  refine L0 (wanted_none rfl) rfl (y_assign (v := Value.string ⟨⟨_⟩⟩) rfl rfl) ?_
  refine L0 (wanted_none rfl) rfl (y_assign (v := Value.string ⟨⟨_⟩⟩) rfl rfl) ?_
  refine L0 (wanted_none rfl) rfl (y_assign (v := Value.nilIface) rfl rfl) ?_
  refine Lnil ?_
  refine W_seq ?_
  refine W_seq ?_
  refine W_region ?_
  refine L0 (wanted_none rfl) rfl (y_move (v := Value.string ⟨⟨_⟩⟩) rfl rfl) ?_
  refine L0 (wanted_none rfl) rfl (y_len rfl Tryd.underlying9 rfl) ?_
  refine L0 (wanted_none rfl) rfl (y_ne rfl rfl rfl) ?_
  refine Lnil ?_
  refine Wkn (t := 13) (b0 := false) rfl (by first | exact decide_eq_false (by omega) | exact bnF (by omega) | (simp; omega)) (fun h2 => ?_)
  refine W_condF rfl h2 ?_
  refine W_skip ?_
  refine W_seq ?_
  refine W_seq ?_
  refine W_drawSt [(0, 0), (0, 1), (0, 2), (0, 3), (0, 4), (0, 5), (0, 6), (0, 9), (0, 7), (0, 10), (2, 8), (0, 11), (0, 12)] hs1 mixed (by kernel_rfl) (fun w3 hs4 => ?_)
  refine E0 (wanted_none rfl) rfl (y_move (v := Value.string ⟨⟨_⟩⟩) rfl rfl) ?_
  refine E0 (wanted_none rfl) rfl (y_len rfl Tryd.underlying9 rfl) ?_
  refine E0 (wanted_none rfl) rfl (y_lt rfl rfl rfl) ?_
  refine E0 (wanted_none rfl) rfl (y_move (v := Value.bool _) rfl rfl) ?_
  refine Esp (t := 18) rfl (fun h5 => ?_) (fun h5 => ?_)
  · have h5' := h5
    first | replace h5' := of_decide_eq_true h5' | replace h5' := bnT' h5' | skip
    refine Eno (wanted_noB rfl rfl rfl h5 (by decide)) rfl ?_
    refine Eno (wanted_noB rfl rfl rfl h5 (by decide)) rfl ?_
    refine Eno (wanted_noB rfl rfl rfl h5 (by decide)) rfl ?_
    refine Eno (wanted_noB rfl rfl rfl h5 (by decide)) rfl ?_
    refine Eno (wanted_noB rfl rfl rfl h5 (by decide)) rfl ?_
    refine Eno (wanted_noB rfl rfl rfl h5 (by decide)) rfl ?_
    refine E2no (wanted_noB rfl rfl rfl h5 (by decide)) rfl ?_
    refine Eno (wanted_noB rfl rfl rfl h5 (by decide)) rfl ?_
    refine E0 (wanted_none rfl) rfl (y_pickT rfl rfl h5 rfl) ?_
    refine Enil ?_
    refine W_condT rfl rfl ?_
    refine W_seq ?_
    refine W_region ?_
    refine L0 (wanted_none rfl) rfl (y_mkif rfl Tryd.underlying35 rfl rfl) ?_
    refine L0 (wanted_none rfl) rfl (y_assign (v := Value.string ⟨⟨_⟩⟩) rfl rfl) ?_
    refine L0 (wanted_none rfl) rfl (y_assign (v := Value.string ⟨⟨_⟩⟩) rfl rfl) ?_
    refine L0 (wanted_none rfl) rfl (y_assign (v := Value.iface _ _) rfl rfl) ?_
    refine Lnil ?_
    refine W_ret ?_
    refine fin3 (fn := Tryd.f22) rfl rfl rfl rfl ?_
    exact ⟨rfl, hs4⟩
  · have h5' := h5
    first | replace h5' := of_decide_eq_false h5' | replace h5' := bnF' h5' | skip
    refine E0 (wanted_yesB rfl rfl rfl h5) rfl (y_move (v := Value.string ⟨⟨_⟩⟩) rfl rfl) ?_
    refine E0 (wanted_yesB rfl rfl rfl h5) rfl (y_move (v := Value.int _ _) rfl rfl) ?_
    refine E0 (wanted_yesB rfl rfl rfl h5) rfl (y_move (v := Value.string ⟨⟨_⟩⟩) rfl rfl) ?_
    refine E0 (wanted_yesB rfl rfl rfl h5) rfl (y_move (v := Value.string ⟨⟨_⟩⟩) rfl rfl) ?_
    refine E0 (wanted_yesB rfl rfl rfl h5) rfl (y_sslice rfl Tryd.underlying9 rfl rfl rfl (by omega)) ?_
    refine E0 (wanted_yesB rfl rfl rfl h5) rfl (y_sslice_hi rfl Tryd.underlying9 rfl rfl (by omega)) ?_
    refine E2 (wanted_yesB rfl rfl rfl h5) (c_call rfl rfl rfl Tryd.func78 (by kernel_rfl) rfl (tag_any key cell ((s.drop 16).take 93) (by omega) (by rw [List.length_take, List.length_drop]; omega) w3 (hr.keep hs4 (by simp [keys]))) rfl ?_)
    rintro _ w6 ⟨rfl, hc7⟩
    have hs8 := hs4.call0 hc7
    refine E0 (wanted_yesB rfl rfl rfl h5) rfl (y_sne rfl rfl rfl) ?_
    refine E0 (wanted_none rfl) rfl (y_pickF rfl rfl h5 rfl) ?_
    refine Enil ?_
    refine Wkn (t := 27) (b0 := true) rfl (by exact bnT (fun hh => h ⟨by omega, hh⟩)) (fun h9 => ?_)
    refine W_condT rfl h9 ?_
    refine W_seq ?_
    refine W_region ?_
    refine L0 (wanted_none rfl) rfl (y_mkif rfl Tryd.underlying35 rfl rfl) ?_
    refine L0 (wanted_none rfl) rfl (y_assign (v := Value.string ⟨⟨_⟩⟩) rfl rfl) ?_
    refine L0 (wanted_none rfl) rfl (y_assign (v := Value.string ⟨⟨_⟩⟩) rfl rfl) ?_
    refine L0 (wanted_none rfl) rfl (y_assign (v := Value.iface _ _) rfl rfl) ?_
    refine Lnil ?_
    refine W_ret ?_
    refine fin3 (fn := Tryd.f22) rfl rfl rfl rfl ?_
    exact ⟨rfl, hs8⟩
theorem open_any (key s : List UInt8) (cell : Int) (hk : key.length = 32) (hl : s.length ≤ 1000000) (h : Sealed key cell s) (w : World) (hr : RoundsAt w) :
    C Tryd.prog 22 ⟨[str key, iv cell, str s]⟩ w fun v w' => v = .tuple #[str (s.take 16), str (openText key s), .nilIface] ∧ St w [] w' := by
  have h109 := h.1
  have lc : (cryptIn s).length = 81 := by rw [cryptIn, List.length_take, List.length_drop]; omega
  have ln : (nonceIn s).length = 12 := by rw [nonceIn, List.length_take, List.length_drop]; omega
  have lx := xorOf_length key (nonceIn s) (cryptIn s)
  have hb := ((xorOf key (nonceIn s) (cryptIn s)).getD (0 : Int).toNat 0).toNat_lt
  refine C_enter (n := 50) Tryd.func22 rfl rfl rfl (fun w1 hs1 => ?_)
  refine W_seq ?_
  refine W_region ?_
  refine L0 (wanted_none rfl) rfl (y_assign (v := Value.string ⟨⟨_⟩⟩) rfl rfl) ?_
  refine L0 (wanted_none rfl) rfl (y_assign (v := Value.string ⟨⟨_⟩⟩) rfl rfl) ?_
  refine L0 (wanted_none rfl) rfl (y_assign (v := Value.nilIface) rfl rfl) ?_
  refine Lnil ?_
  refine W_seq ?_
  refine W_seq ?_
  refine W_region ?_
  refine L0 (wanted_none rfl) rfl (y_move (v := Value.string ⟨⟨_⟩⟩) rfl rfl) ?_
  refine L0 (wanted_none rfl) rfl (y_len rfl Tryd.underlying9 rfl) ?_
  refine L0 (wanted_none rfl) rfl (y_ne rfl rfl rfl) ?_
  refine Lnil ?_
  refine Wkn (t := 13) (b0 := false) rfl (by first | exact decide_eq_false (by omega) | exact bnF (by omega) | (simp; omega)) (fun h2 => ?_)
  refine W_condF rfl h2 ?_
  refine W_skip ?_
  refine W_seq ?_
  refine W_seq ?_
  refine W_drawSt [(0, 0), (0, 1), (0, 2), (0, 3), (0, 4), (0, 5), (0, 6), (0, 9), (0, 7), (0, 10), (2, 8), (0, 11), (0, 12)] hs1 mixed (by kernel_rfl) (fun w3 hs4 => ?_)
  refine E0 (wanted_none rfl) rfl (y_move (v := Value.string ⟨⟨_⟩⟩) rfl rfl) ?_
  refine E0 (wanted_none rfl) rfl (y_len rfl Tryd.underlying9 rfl) ?_
  refine E0 (wanted_none rfl) rfl (y_lt rfl rfl rfl) ?_
  refine E0 (wanted_none rfl) rfl (y_move (v := Value.bool _) rfl rfl) ?_
  refine Ekn (t := 18) (b0 := false) rfl (by first | exact decide_eq_false (by omega) | exact bnF (by omega) | (simp; omega)) (fun h5 => ?_)
  refine E0 (wanted_yesB rfl rfl rfl h5) rfl (y_move (v := Value.string ⟨⟨_⟩⟩) rfl rfl) ?_
  refine E0 (wanted_yesB rfl rfl rfl h5) rfl (y_move (v := Value.int _ _) rfl rfl) ?_
  refine E0 (wanted_yesB rfl rfl rfl h5) rfl (y_move (v := Value.string ⟨⟨_⟩⟩) rfl rfl) ?_
  refine E0 (wanted_yesB rfl rfl rfl h5) rfl (y_move (v := Value.string ⟨⟨_⟩⟩) rfl rfl) ?_
  refine E0 (wanted_yesB rfl rfl rfl h5) rfl (y_sslice rfl Tryd.underlying9 rfl rfl rfl (by omega)) ?_
  refine E0 (wanted_yesB rfl rfl rfl h5) rfl (y_sslice_hi rfl Tryd.underlying9 rfl rfl (by omega)) ?_
  refine E2 (wanted_yesB rfl rfl rfl h5) (c_call rfl rfl rfl Tryd.func78 (by kernel_rfl) rfl (tag_any key cell ((s.drop 16).take 93) (by omega) (by rw [List.length_take, List.length_drop]; omega) w3 (hr.keep hs4 (by simp [keys]))) rfl ?_)
  rintro _ w6 ⟨rfl, hc7⟩
  have hs8 := hs4.call0 hc7
  refine E0 (wanted_yesB rfl rfl rfl h5) rfl (y_sne rfl rfl rfl) ?_
  refine E0 (wanted_none rfl) rfl (y_pickF rfl rfl h5 rfl) ?_
  refine Enil ?_
  refine Wkn (t := 27) (b0 := false) rfl (by exact bnF h.2) (fun h9 => ?_)
  refine W_condF rfl h9 ?_
  refine W_skip ?_
  refine W_seq ?_
  refine W_drawSt [(0, 0), (0, 1), (0, 3), (0, 2), (0, 4), (2, 5), (0, 6), (0, 7), (0, 8), (0, 9), (0, 10)] hs8 mixed (by kernel_rfl) (fun w10 hs11 => ?_)
  refine E0 (wanted_none rfl) rfl (y_move (v := Value.string ⟨⟨_⟩⟩) rfl rfl) ?_
  refine E0 (wanted_none rfl) rfl (y_move (v := Value.string ⟨⟨_⟩⟩) rfl rfl) ?_
  refine E0 (wanted_none rfl) rfl (y_move (v := Value.string ⟨⟨_⟩⟩) rfl rfl) ?_
  refine E0 (wanted_none rfl) rfl (y_sslice rfl Tryd.underlying9 rfl rfl rfl (by omega)) ?_
  refine E0 (wanted_none rfl) rfl (y_sslice rfl Tryd.underlying9 rfl rfl rfl (by omega)) ?_
  refine E2 (wanted_none rfl) (c_call rfl rfl rfl Tryd.func77 (by kernel_rfl) rfl (xor_any key (nonceIn s) (cryptIn s) (by omega) hk ln w10) rfl ?_)
  rintro _ w12 ⟨rfl, hc13⟩
  have hs14 := hs11.call0 hc13
  refine E0 (wanted_none rfl) rfl (y_move (v := Value.tuple ⟨_⟩) rfl rfl) ?_
  refine E0 (wanted_none rfl) rfl (y_extract rfl rfl rfl) ?_
  refine E0 (wanted_none rfl) rfl (y_extract rfl rfl rfl) ?_
  refine E0 (wanted_none rfl) rfl (y_assign (v := Value.string ⟨⟨_⟩⟩) rfl rfl) ?_
  refine E0 (wanted_none rfl) rfl (y_assign (v := _) rfl rfl) ?_
  refine Enil ?_
  refine W_seq ?_
  refine W_seq ?_
  refine W_region ?_
  refine L0 (wanted_none rfl) rfl (y_move (v := _) rfl rfl) ?_
  refine L0 (wanted_none rfl) rfl (y_neNilNil rfl Tryd.underlying32 rfl) ?_
  refine Lnil ?_
  refine W_condF rfl rfl ?_
  refine W_skip ?_
  refine W_seq ?_
  refine W_drawSt [(0, 0), (0, 2), (0, 3), (0, 1), (0, 4), (0, 5), (0, 9), (0, 6), (0, 7), (0, 8), (0, 10), (0, 11)] hs14 mixed (by kernel_rfl) (fun w15 hs16 => ?_)
  refine E0 (wanted_none rfl) rfl (y_move (v := Value.string ⟨⟨_⟩⟩) rfl rfl) ?_
  refine E0 (wanted_none rfl) rfl (y_move (v := Value.string ⟨⟨_⟩⟩) rfl rfl) ?_
  refine E0 (wanted_none rfl) rfl (y_move (v := Value.string ⟨⟨_⟩⟩) rfl rfl) ?_
  refine E0 (wanted_none rfl) rfl (y_sslice_hi rfl Tryd.underlying9 rfl rfl (by omega)) ?_
  refine E0 (wanted_none rfl) rfl (y_sindex rfl Tryd.underlying9 rfl rfl (by omega) (by omega)) ?_
  refine E0 (wanted_none rfl) rfl (y_c8toi rfl Tryd.underlying5 Tryd.underlying3 rfl) ?_
  refine E0 (wanted_none rfl) rfl (y_assign (v := Value.string ⟨⟨_⟩⟩) rfl rfl) ?_
  refine E0 (wanted_none rfl) rfl (y_min rfl rfl rfl) ?_
  refine E0 (wanted_none rfl) rfl (y_add64 rfl rfl rfl (by omega)) ?_
  refine E0 (wanted_none rfl) rfl (y_sslice rfl Tryd.underlying9 rfl rfl rfl (by omega)) ?_
  refine E0 (wanted_none rfl) rfl (y_assign (v := Value.string ⟨⟨_⟩⟩) rfl rfl) ?_
  refine E0 (wanted_none rfl) rfl (y_assign (v := Value.nilIface) rfl rfl) ?_
  refine Enil ?_
  refine W_ret ?_
  refine fin3 (fn := Tryd.f22) rfl rfl rfl rfl ?_
  refine ⟨?_, hs16⟩
  have e : ((1 : Int) + min (((xorOf key (nonceIn s) (cryptIn s)).getD (0 : Int).toNat 0).toNat : Int) 80).toNat - (1 : Int).toNat = min ((xorOf key (nonceIn s) (cryptIn s)).getD 0 0).toNat 80 := by
    show ((1 : Int) + min (((xorOf key (nonceIn s) (cryptIn s)).getD 0 0).toNat : Int) 80).toNat - (1 : Int).toNat = _
    generalize ((xorOf key (nonceIn s) (cryptIn s)).getD 0 0).toNat = z
    omega
  rw [e]; rfl
/-! what is sealed -/
theorem take_len {a b : List UInt8} : (a ++ b).take a.length = a := List.take_left
theorem seal_tag (key : List UInt8) (cell : Int) (text more : List UInt8) (ht : text.length ≤ 80) : (sealOf key cell text ++ more).take 16 = tagOf key cell (nonceOf key cell text ++ cryptOf key cell text) := by
  have l := tagOf_len key cell (nonceOf key cell text ++ cryptOf key cell text)
  rw [sealOf, List.append_assoc, List.append_assoc, List.take_append_of_le_length (by omega), List.take_of_length_le (by omega)]
theorem seal_drop (key : List UInt8) (cell : Int) (text more : List UInt8) (ht : text.length ≤ 80) : (sealOf key cell text ++ more).drop 16 = nonceOf key cell text ++ cryptOf key cell text ++ more := by
  have l := tagOf_len key cell (nonceOf key cell text ++ cryptOf key cell text)
  have e : sealOf key cell text ++ more = tagOf key cell (nonceOf key cell text ++ cryptOf key cell text) ++ (nonceOf key cell text ++ cryptOf key cell text ++ more) := by
    simp only [sealOf, List.append_assoc]
  rw [e, ← l, List.drop_left]
theorem seal_nonce (key : List UInt8) (cell : Int) (text more : List UInt8) (ht : text.length ≤ 80) : nonceIn (sealOf key cell text ++ more) = nonceOf key cell text := by
  have ln := nonceOf_len key cell text
  rw [nonceIn, seal_drop _ _ _ _ ht, List.append_assoc, ← ln, List.take_left]
theorem seal_crypt (key : List UInt8) (cell : Int) (text more : List UInt8) (ht : text.length ≤ 80) : cryptIn (sealOf key cell text ++ more) = cryptOf key cell text := by
  have ln := nonceOf_len key cell text
  have lc := cryptOf_len (key := key) (cell := cell) ht
  have e : (sealOf key cell text ++ more).drop 28 = ((sealOf key cell text ++ more).drop 16).drop 12 := by rw [List.drop_drop]
  rw [cryptIn, e, seal_drop _ _ _ _ ht, List.append_assoc, ← ln, List.drop_left, ← lc, List.take_left]
theorem seal_sealed (key : List UInt8) (cell : Int) (text more : List UInt8) (ht : text.length ≤ 80) : Sealed key cell (sealOf key cell text ++ more) := by
  have ln := nonceOf_len key cell text
  have lc := cryptOf_len (key := key) (cell := cell) ht
  refine ⟨by rw [List.length_append, sealOf_len ht]; omega, ?_⟩
  rw [seal_tag _ _ _ _ ht, seal_drop _ _ _ _ ht]
  have l93 : (nonceOf key cell text ++ cryptOf key cell text).length = 93 := by rw [List.length_append, ln, lc]
  rw [← l93, List.take_left]
theorem u8of_small {n : Nat} (h : n ≤ 80) : (u8of (n : Int)).toNat = n := by simp [u8of]; omega
theorem seal_text (key : List UInt8) (cell : Int) (text more : List UInt8) (ht : text.length ≤ 80) : openText key (sealOf key cell text ++ more) = text := by
  rw [openText, seal_nonce _ _ _ _ ht, seal_crypt _ _ _ _ ht, cryptOf, xor_xor]
  have e : padText text = u8of text.length :: (text ++ List.replicate (80 - text.length) 0) := by simp [padText]
  rw [e, List.getD_cons_zero, u8of_small ht, Nat.min_eq_left ht]
  show List.take text.length (text ++ _) = text
  exact List.take_left
theorem seal_inj {key : List UInt8} {cell : Int} {a b : List UInt8} (ha : a.length ≤ 80) (hb : b.length ≤ 80) (h : sealOf key cell a = sealOf key cell b) : a = b := by
  have h1 := seal_text key cell a [] ha
  have h2 := seal_text key cell b [] hb
  rw [h] at h1
  rw [← h1, h2]
def kKey : List UInt8 := List.replicate 32 107
def textW : List UInt8 := [116, 101, 120, 116]
theorem sealed_any (w : World) (hr : RoundsAt w) : C Tryd.prog 20 ⟨[]⟩ w fun v w' => v = .bool true ∧ St w [] w' := by
  have lt : textW.length ≤ 80 := by decide
  have hso := seal_sealed kKey 3 textW [] lt
  have hto := seal_text kKey 3 textW [] lt
  rw [List.append_nil] at hso hto
  have lso := sealOf_len (key := kKey) (cell := 3) lt
  refine C_enter (n := 38) Tryd.func20 rfl rfl rfl (fun w1 hs1 => ?_)
  refine W_seq ?_
  refine W_region ?_
  refine L0 (wanted_none rfl) rfl (y_assign (v := Value.bool _) rfl rfl) ?_
  refine Lnil ?_
  refine W_seq ?_
  refine W_region ?_
  refine Lc (wanted_none rfl) (c_call rfl rfl rfl Tryd.func17 (by kernel_rfl) rfl (repeat_int 107 32 32 rfl (by decide) w1) rfl ?_)
  rintro _ w2 ⟨rfl, hc3⟩
  have hs4 := hs1.call0 hc3
  refine L0 (wanted_none rfl) rfl (y_assign (v := Value.string ⟨⟨_⟩⟩) rfl rfl) ?_
  refine Lnil ?_
  refine W_seq ?_
  refine W_region ?_
  refine L0 (wanted_none rfl) rfl (y_move (v := Value.string ⟨⟨_⟩⟩) rfl rfl) ?_
  refine Lc (wanted_none rfl) (c_call rfl rfl rfl Tryd.func21 (by kernel_rfl) rfl (seal_any kKey textW 3 (by decide) (by decide) (by decide) lt w2 (hr.keep hs4 (by simp [keys]))) rfl ?_)
  rintro _ w5 ⟨rfl, hc6⟩
  have hs7 := hs4.call0 hc6
  refine L0 (wanted_none rfl) rfl (y_move (v := Value.tuple ⟨_⟩) rfl rfl) ?_
  refine L0 (wanted_none rfl) rfl (y_extract rfl rfl rfl) ?_
  refine L0 (wanted_none rfl) rfl (y_extract rfl rfl rfl) ?_
  refine L0 (wanted_none rfl) rfl (y_assign (v := Value.string ⟨⟨_⟩⟩) rfl rfl) ?_
  refine L0 (wanted_none rfl) rfl (y_assign (v := _) rfl rfl) ?_
  refine Lnil ?_
  refine W_seq ?_
  refine W_seq ?_
  refine W_region ?_
  refine L0 (wanted_none rfl) rfl (y_move (v := _) rfl rfl) ?_
  refine L0 (wanted_none rfl) rfl (y_neNilNil rfl Tryd.underlying32 rfl) ?_
  refine L0 (wanted_none rfl) rfl (y_move (v := Value.bool _) rfl rfl) ?_
  refine L0 (wanted_yesB rfl rfl rfl rfl) rfl (y_move (v := Value.string ⟨⟨_⟩⟩) rfl rfl) ?_
  refine L0 (wanted_yesB rfl rfl rfl rfl) rfl (y_len rfl Tryd.underlying9 rfl) ?_
  refine L0 (wanted_yesB rfl rfl rfl rfl) rfl (y_ne rfl rfl rfl) ?_
  refine L0 (wanted_none rfl) rfl (y_pickF rfl rfl (rfl : false = false) rfl) ?_
  refine Lnil ?_
  refine Wkn (t := 18) (b0 := false) rfl (by exact bnF (by omega)) (fun h8 => ?_)
  refine W_condF rfl h8 ?_
  refine W_skip ?_
  refine W_seq ?_
  refine W_region ?_
  refine L0 (wanted_none rfl) rfl (y_move (v := Value.string ⟨⟨_⟩⟩) rfl rfl) ?_
  refine L0 (wanted_none rfl) rfl (y_move (v := Value.string ⟨⟨_⟩⟩) rfl rfl) ?_
  refine Lc (wanted_none rfl) (c_call rfl rfl rfl Tryd.func22 (by kernel_rfl) rfl (open_any kKey (sealOf kKey 3 textW) 3 (by decide) (by omega) hso w5 (hr.keep hs7 (by simp [keys]))) rfl ?_)
  rintro _ w9 ⟨rfl, hc10⟩
  have hs11 := hs7.call0 hc10
  refine L0 (wanted_none rfl) rfl (y_move (v := Value.tuple ⟨_⟩) rfl rfl) ?_
  refine L0 (wanted_none rfl) rfl (y_extract rfl rfl rfl) ?_
  refine L0 (wanted_none rfl) rfl (y_extract rfl rfl rfl) ?_
  refine L0 (wanted_none rfl) rfl (y_extract rfl rfl rfl) ?_
  refine L0 (wanted_none rfl) rfl (y_assign (v := Value.string ⟨⟨_⟩⟩) rfl rfl) ?_
  refine L0 (wanted_none rfl) rfl (y_assign (v := Value.string ⟨⟨_⟩⟩) rfl rfl) ?_
  refine L0 (wanted_none rfl) rfl (y_assign (v := _) rfl rfl) ?_
  refine Lnil ?_
  refine W_seq ?_
  refine W_region ?_
  refine L0 (wanted_none rfl) rfl (y_move (v := _) rfl rfl) ?_
  refine L0 (wanted_none rfl) rfl (y_eqNilNil rfl Tryd.underlying32 rfl) ?_
  refine L0 (wanted_none rfl) rfl (y_move (v := Value.bool _) rfl rfl) ?_
  refine L0 (wanted_yesB rfl rfl rfl rfl) rfl (y_move (v := Value.string ⟨⟨_⟩⟩) rfl rfl) ?_
  refine L0 (wanted_yesB rfl rfl rfl rfl) rfl (y_move (v := Value.string ⟨⟨_⟩⟩) rfl rfl) ?_
  refine L0 (wanted_yesB rfl rfl rfl rfl) rfl (y_sslice_hi rfl Tryd.underlying9 rfl rfl (by omega)) ?_
  refine L0 (wanted_yesB rfl rfl rfl rfl) rfl (y_seq rfl rfl rfl) ?_
  refine L0 (wanted_none rfl) rfl (y_pickT rfl rfl (rfl : true = true) rfl) ?_
  refine L0 (wanted_none rfl) rfl (y_move (v := Value.bool _) rfl rfl) ?_
  refine Lkn (t := 34) (b0 := true) rfl (by exact decide_eq_true rfl) (fun h12 => ?_)
  refine L0 (wanted_yesB rfl rfl rfl h12) rfl (y_move (v := Value.string ⟨⟨_⟩⟩) rfl rfl) ?_
  refine L0 (wanted_yesB rfl rfl rfl h12) rfl (y_seq rfl rfl rfl) ?_
  refine L0 (wanted_none rfl) rfl (y_pickT rfl rfl h12 rfl) ?_
  refine L0 (wanted_none rfl) rfl (y_assign (v := Value.bool _) rfl rfl) ?_
  refine Lnil ?_
  refine W_ret ?_
  refine fin1 (fn := Tryd.f20) rfl rfl ?_
  exact ⟨congrArg Value.bool (decide_eq_true hto), hs11⟩
end Go.Proofs.YtkolfgmpmnelmabDoor
