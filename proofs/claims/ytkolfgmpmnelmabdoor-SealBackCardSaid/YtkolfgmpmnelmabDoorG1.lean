/-
  Walks: seal.tag, seal.Seal, seal.Open.
-/
import Derived.Test.YtkolfgmpmnelmabDoorH5
import Derived.Test.YtkolfgmpmnelmabDoorT1
import Derived.Test.YtkolfgmpmnelmabDoorVs
import Derived.Test.YtkolfgmpmnelmabDoorSh
namespace Go.Proofs.YtkolfgmpmnelmabDoor
open Go Vx Go.Proofs
set_option linter.unusedVariables false
set_option maxRecDepth 4000
set_option maxHeartbeats 400000

theorem repeatL_one (x : UInt8) : ∀ c, Lib.repeatL [x] c = List.replicate c x
  | 0 => rfl
  | c + 1 => by rw [Lib.repeatL, repeatL_one x c, List.replicate_succ]; rfl
theorem St.ofBelow {w w' : World} (h : Go.RowKit.Below w.heap.size w w') : St w [] w' :=
  ⟨h.os, h.tape, h.output, h.size, fun _ h => (by cases h), List.nodup_nil, fun b hb _ => h.block b hb⟩
theorem repeat_any (x : UInt8) (c : Nat) (h : c ≤ 100000) (w : World) : C Tryd.prog 17 ⟨[str [x], iv c]⟩ w fun v w' => v = str (List.replicate c x) ∧ St w [] w' := by
  have h1 := Tryd.strings_Repeat ⟨⟨[x]⟩⟩ c w (by omega) (by show 1 * c ≤ _; omega)
  refine Calls.mono h1 fun e w' ⟨he, hb⟩ => ⟨_, he, ?_, St.ofBelow hb⟩
  rw [repeatL_one]
theorem repeat_int (x : UInt8) (c : Int) (m : Nat) (hc : c = m) (h : m ≤ 100000) (w : World) : C Tryd.prog 17 ⟨[str [x], iv c]⟩ w fun v w' => v = str (List.replicate m x) ∧ St w [] w' := by
  subst hc; exact repeat_any x m h w
theorem sl_three {w : World} {b : Nat} {p q r : List UInt8} {T : TypeId} {fz : Nat × Nat} {cur : Array Value} (h : w.heap[b]? = some (.cells cur T fz)) (hc : cur = ⟨[str p, str q, str r]⟩) : Sl w (.slice (some ⟨b, 0, none⟩) 3 3) [p, q, r].length (strs [p, q, r]) :=
  Sl.of (fun j hj => by
    subst hc
    have hj' : j = 0 ∨ j = 1 ∨ j = 2 := by have h2 : j < 3 := hj; omega
    rw [cell_of_has h]
    rcases hj' with rfl | rfl | rfl <;> rfl)
theorem mark3_len (k : UInt8) (a b c : List UInt8) : (markS [k] [a, b, c]).length = 25 + a.length + b.length + c.length := by
  simp only [markS, List.foldl_cons, List.foldl_nil, List.length_append, numOf_len, List.length_cons, List.length_nil]; omega
def tagOf (key : List UInt8) (cell : Int) (s : List UInt8) : List UInt8 := markOf 103 [key, numOf cell, s]
theorem markOf_len16 (k : UInt8) (l : List (List UInt8)) : (markOf k l).length = 16 := by rw [markOf, List.length_take, shaOf_len]; rfl
theorem tagOf_len (key : List UInt8) (cell : Int) (s : List UInt8) : (tagOf key cell s).length = 16 := markOf_len16 _ _
theorem tag_any (key : List UInt8) (cell : Int) (s : List UInt8) (hk : key.length ≤ 1000) (hs : s.length ≤ 1000000) (w : World) (hr : RoundsAt w) :
    C Tryd.prog 78 ⟨[str key, iv cell, str s]⟩ w fun v w' => v = str (tagOf key cell s) ∧ St w [] w' := by
  have hrl := hr.1
  have hn := numOf_len cell
  refine C_enter (n := 15) Tryd.func78 rfl rfl rfl (fun w1 hs1 => ?_)
  refine W_seq ?_
  refine W_region ?_
  refine L0 (wanted_none rfl) rfl (y_assign (v := Value.string ⟨⟨_⟩⟩) rfl rfl) ?_
  refine Lnil ?_
  refine W_seq ?_
  refine W_region ?_
  refine L0 (wanted_none rfl) rfl (y_move (v := Value.string ⟨⟨_⟩⟩) rfl rfl) ?_
  refine L0 (wanted_none rfl) rfl (y_move (v := Value.int _ _) rfl rfl) ?_
  refine Lc (wanted_none rfl) (c_call rfl rfl rfl Tryd.func25 (by kernel_rfl) rfl (num_any cell w1) rfl ?_)
  rintro _ w2 ⟨rfl, hc3⟩
  have hs4 := hs1.call0 hc3
  refine L0 (wanted_none rfl) rfl (y_move (v := Value.string ⟨⟨_⟩⟩) rfl rfl) ?_
  refine L0 (wanted_none rfl) rfl (y_buildA3 (v0 := str _) (v1 := str _) (v2 := str _) rfl Tryd.underlying177 zr177 sz9 rfl rfl rfl rfl rfl rfl ) ?_
  refine Lc (wanted_none rfl) (c_alloc hs4 rfl rfl zr177 (fun b5 w6 hbb5 hs7 => ?_))
  refine Lc (wanted_none rfl) (c_storeN (i := 0) hs7 rfl rfl rfl rfl sz177 (by rfl) (by simp [Value.oneCell']) rfl (by decide) (Fz.zero _) (fun w8 hs9 => ?_))
  refine Lnil ?_
  refine W_seq ?_
  refine W_region ?_
  refine L0 (wanted_none rfl) rfl (y_slArr rfl Tryd.underlying177 sz9 rfl ) ?_
  refine Lc (wanted_none rfl) (c_call rfl rfl rfl Tryd.func24 (by kernel_rfl) rfl (mark_any 103 [key, numOf cell, s] _ (by rw [mark3_len]; omega) (by simp) w8 (hr.keep hs9 (by have := hbb5; simp [keys]; omega)) (sl_three (hs9.get 0 rfl) rfl)) rfl ?_)
  rintro _ w10 ⟨rfl, hc11⟩
  have hs12 := hs9.call0 hc11
  refine L0 (wanted_none rfl) rfl (y_assign (v := Value.string ⟨⟨_⟩⟩) rfl rfl) ?_
  refine Lnil ?_
  refine W_ret ?_
  refine fin1 (fn := Tryd.f78) rfl rfl ?_
  exact ⟨rfl, hs12.drop (.inl hbb5)⟩
def nonceOf (key : List UInt8) (cell : Int) (text : List UInt8) : List UInt8 := (markOf 110 [key, numOf cell, text]).take 12
def padText (text : List UInt8) : List UInt8 := [u8of text.length] ++ text ++ List.replicate (80 - text.length) 0
def cryptOf (key : List UInt8) (cell : Int) (text : List UInt8) : List UInt8 := xorOf key (nonceOf key cell text) (padText text)
def sealOf (key : List UInt8) (cell : Int) (text : List UInt8) : List UInt8 :=
  tagOf key cell (nonceOf key cell text ++ cryptOf key cell text) ++ nonceOf key cell text ++ cryptOf key cell text
theorem nonceOf_len (key : List UInt8) (cell : Int) (text : List UInt8) : (nonceOf key cell text).length = 12 := by rw [nonceOf, List.length_take, markOf_len16]; rfl
theorem padText_len {text : List UInt8} (h : text.length ≤ 80) : (padText text).length = 81 := by
  simp only [padText, List.length_append, List.length_replicate, List.length_cons, List.length_nil]; omega
theorem xorOf_length (k n s : List UInt8) : (xorOf k n s).length = s.length := xorN_len _ _ _
theorem cryptOf_len {key : List UInt8} {cell : Int} {text : List UInt8} (h : text.length ≤ 80) : (cryptOf key cell text).length = 81 := by rw [cryptOf, xorOf_length, padText_len h]
theorem sealOf_len {key : List UInt8} {cell : Int} {text : List UInt8} (h : text.length ≤ 80) : (sealOf key cell text).length = 109 := by
  simp only [sealOf, List.length_append, tagOf_len, nonceOf_len, cryptOf_len h]
theorem seal_err1 (key text : List UInt8) (cell : Int) (h : ¬ (key.length = 32 ∧ 0 ≤ cell ∧ cell < 24)) (w : World) :
    C Tryd.prog 21 ⟨[str key, iv cell, str text]⟩ w fun v w' => v = .tuple #[str [], .iface 35 (iv 1)] ∧ St w [] w' := by
  refine C_enter (n := 67) Tryd.func21 rfl rfl rfl (fun w1 hs1 => ?_)
  refine W_seq ?_
  refine W_region ?_
  refine L0 (wanted_none rfl) rfl (y_assign (v := Value.string ⟨⟨_⟩⟩) rfl rfl) ?_
  refine L0 (wanted_none rfl) rfl (y_assign (v := Value.nilIface) rfl rfl) ?_
  refine Lnil ?_
  refine W_seq ?_
  refine W_block ?_
  refine W_seq ?_
  refine W_region ?_
  refine L0 (wanted_none rfl) rfl (y_move (v := Value.string ⟨⟨_⟩⟩) rfl rfl) ?_
  refine L0 (wanted_none rfl) rfl (y_len rfl Tryd.underlying9 rfl) ?_
  refine L0 (wanted_none rfl) rfl (y_ne rfl rfl rfl) ?_
  refine L0 (wanted_none rfl) rfl (y_move (v := Value.bool _) rfl rfl) ?_
  refine Lsp (t := 15) rfl (fun h2 => ?_) (fun h2 => ?_)
  · have h2' := h2
    first | replace h2' := of_decide_eq_true h2' | replace h2' := bnT' h2' | skip
    refine Lno (wanted_noB rfl rfl rfl h2 (by decide)) rfl ?_
    refine Lno (wanted_noB rfl rfl rfl h2 (by decide)) rfl ?_
    refine L0 (wanted_none rfl) rfl (y_pickT rfl rfl h2 rfl) ?_
    refine L0 (wanted_none rfl) rfl (y_move (v := Value.bool _) rfl rfl) ?_
    refine Lno (wanted_noB rfl rfl rfl rfl (by decide)) rfl ?_
    refine Lno (wanted_noB rfl rfl rfl rfl (by decide)) rfl ?_
    refine L0 (wanted_none rfl) rfl (y_pickT rfl rfl (rfl : true = true) rfl) ?_
    refine L0 (wanted_none rfl) rfl (y_assign (v := Value.bool _) rfl rfl) ?_
    refine Lnil ?_
    refine W_condT rfl rfl ?_
    refine W_seq ?_
    refine W_region ?_
    refine L0 (wanted_none rfl) rfl (y_mkif rfl Tryd.underlying35 rfl rfl) ?_
    refine L0 (wanted_none rfl) rfl (y_assign (v := Value.string ⟨⟨_⟩⟩) rfl rfl) ?_
    refine L0 (wanted_none rfl) rfl (y_assign (v := Value.iface _ _) rfl rfl) ?_
    refine Lnil ?_
    refine W_ret ?_
    refine fin2 (fn := Tryd.f21) rfl rfl rfl ?_
    exact ⟨rfl, hs1⟩
  · have h2' := h2
    first | replace h2' := of_decide_eq_false h2' | replace h2' := bnF' h2' | skip
    refine L0 (wanted_yesB rfl rfl rfl h2) rfl (y_move (v := Value.int _ _) rfl rfl) ?_
    refine L0 (wanted_yesB rfl rfl rfl h2) rfl (y_lt rfl rfl rfl) ?_
    refine L0 (wanted_none rfl) rfl (y_pickF rfl rfl h2 rfl) ?_
    refine L0 (wanted_none rfl) rfl (y_move (v := Value.bool _) rfl rfl) ?_
    refine Lsp (t := 19) rfl (fun h3 => ?_) (fun h3 => ?_)
    · have h3' := h3
      first | replace h3' := of_decide_eq_true h3' | replace h3' := bnT' h3' | skip
      refine Lno (wanted_noB rfl rfl rfl h3 (by decide)) rfl ?_
      refine Lno (wanted_noB rfl rfl rfl h3 (by decide)) rfl ?_
      refine L0 (wanted_none rfl) rfl (y_pickT rfl rfl h3 rfl) ?_
      refine L0 (wanted_none rfl) rfl (y_assign (v := Value.bool _) rfl rfl) ?_
      refine Lnil ?_
      refine W_condT rfl rfl ?_
      refine W_seq ?_
      refine W_region ?_
      refine L0 (wanted_none rfl) rfl (y_mkif rfl Tryd.underlying35 rfl rfl) ?_
      refine L0 (wanted_none rfl) rfl (y_assign (v := Value.string ⟨⟨_⟩⟩) rfl rfl) ?_
      refine L0 (wanted_none rfl) rfl (y_assign (v := Value.iface _ _) rfl rfl) ?_
      refine Lnil ?_
      refine W_ret ?_
      refine fin2 (fn := Tryd.f21) rfl rfl rfl ?_
      exact ⟨rfl, hs1⟩
    · have h3' := h3
      first | replace h3' := of_decide_eq_false h3' | replace h3' := bnF' h3' | skip
      refine L0 (wanted_yesB rfl rfl rfl h3) rfl (y_move (v := Value.int _ _) rfl rfl) ?_
      refine L0 (wanted_yesB rfl rfl rfl h3) rfl (y_ge rfl rfl rfl) ?_
      refine L0 (wanted_none rfl) rfl (y_pickF rfl rfl h3 rfl) ?_
      refine L0 (wanted_none rfl) rfl (y_assign (v := Value.bool _) rfl rfl) ?_
      refine Lnil ?_
      refine Wkn (t := 11) (b0 := true) rfl (by first | exact decide_eq_true (by omega) | exact bnT (by omega) | (simp; omega)) (fun h4 => ?_)
      refine W_condT rfl h4 ?_
      refine W_seq ?_
      refine W_region ?_
      refine L0 (wanted_none rfl) rfl (y_mkif rfl Tryd.underlying35 rfl rfl) ?_
      refine L0 (wanted_none rfl) rfl (y_assign (v := Value.string ⟨⟨_⟩⟩) rfl rfl) ?_
      refine L0 (wanted_none rfl) rfl (y_assign (v := Value.iface _ _) rfl rfl) ?_
      refine Lnil ?_
      refine W_ret ?_
      refine fin2 (fn := Tryd.f21) rfl rfl rfl ?_
      exact ⟨rfl, hs1⟩
theorem seal_err4 (key text : List UInt8) (cell : Int) (hk : key.length = 32) (h0 : 0 ≤ cell) (h1 : cell < 24) (ht : 80 < text.length) (w : World) :
    C Tryd.prog 21 ⟨[str key, iv cell, str text]⟩ w fun v w' => v = .tuple #[str [], .iface 35 (iv 4)] ∧ St w [] w' := by
  refine C_enter (n := 67) Tryd.func21 rfl rfl rfl (fun w1 hs1 => ?_)
  refine W_seq ?_
  refine W_region ?_
  refine L0 (wanted_none rfl) rfl (y_assign (v := Value.string ⟨⟨_⟩⟩) rfl rfl) ?_
  refine L0 (wanted_none rfl) rfl (y_assign (v := Value.nilIface) rfl rfl) ?_
  refine Lnil ?_
  refine W_seq ?_
  refine W_block ?_
  refine W_seq ?_
  refine W_region ?_
  refine L0 (wanted_none rfl) rfl (y_move (v := Value.string ⟨⟨_⟩⟩) rfl rfl) ?_
  refine L0 (wanted_none rfl) rfl (y_len rfl Tryd.underlying9 rfl) ?_
  refine L0 (wanted_none rfl) rfl (y_ne rfl rfl rfl) ?_
  refine L0 (wanted_none rfl) rfl (y_move (v := Value.bool _) rfl rfl) ?_
  refine Lkn (t := 15) (b0 := false) rfl (by first | exact decide_eq_false (by omega) | exact bnF (by omega) | (simp; omega)) (fun h2 => ?_)
  refine L0 (wanted_yesB rfl rfl rfl h2) rfl (y_move (v := Value.int _ _) rfl rfl) ?_
  refine L0 (wanted_yesB rfl rfl rfl h2) rfl (y_lt rfl rfl rfl) ?_
  refine L0 (wanted_none rfl) rfl (y_pickF rfl rfl h2 rfl) ?_
  refine L0 (wanted_none rfl) rfl (y_move (v := Value.bool _) rfl rfl) ?_
  refine Lkn (t := 19) (b0 := false) rfl (by first | exact decide_eq_false (by omega) | exact bnF (by omega) | (simp; omega)) (fun h3 => ?_)
  refine L0 (wanted_yesB rfl rfl rfl h3) rfl (y_move (v := Value.int _ _) rfl rfl) ?_
  refine L0 (wanted_yesB rfl rfl rfl h3) rfl (y_ge rfl rfl rfl) ?_
  refine L0 (wanted_none rfl) rfl (y_pickF rfl rfl h3 rfl) ?_
  refine L0 (wanted_none rfl) rfl (y_assign (v := Value.bool _) rfl rfl) ?_
  refine Lnil ?_
  refine Wkn (t := 11) (b0 := false) rfl (by first | exact decide_eq_false (by omega) | exact bnF (by omega) | (simp; omega)) (fun h4 => ?_)
  refine W_condF rfl h4 ?_
  refine W_seq ?_
  refine W_region ?_
  refine L0 (wanted_none rfl) rfl (y_move (v := Value.string ⟨⟨_⟩⟩) rfl rfl) ?_
  refine L0 (wanted_none rfl) rfl (y_len rfl Tryd.underlying9 rfl) ?_
  refine L0 (wanted_none rfl) rfl (y_gt rfl rfl rfl) ?_
  refine L0 (wanted_none rfl) rfl (y_assign (v := Value.bool _) rfl rfl) ?_
  refine Lnil ?_
  refine Wkn (t := 24) (b0 := true) rfl (by first | exact decide_eq_true (by omega) | exact bnT (by omega) | (simp; omega)) (fun h5 => ?_)
  refine W_condT rfl h5 ?_
  refine W_seq ?_
  refine W_region ?_
  refine L0 (wanted_none rfl) rfl (y_mkif rfl Tryd.underlying35 rfl rfl) ?_
  refine L0 (wanted_none rfl) rfl (y_assign (v := Value.string ⟨⟨_⟩⟩) rfl rfl) ?_
  refine L0 (wanted_none rfl) rfl (y_assign (v := Value.iface _ _) rfl rfl) ?_
  refine Lnil ?_
  refine W_ret ?_
  refine fin2 (fn := Tryd.f21) rfl rfl rfl ?_
  exact ⟨rfl, hs1⟩
theorem seal_any (key text : List UInt8) (cell : Int) (hk : key.length = 32) (h0 : 0 ≤ cell) (h1 : cell < 24) (ht : text.length ≤ 80) (w : World) (hr : RoundsAt w) :
    C Tryd.prog 21 ⟨[str key, iv cell, str text]⟩ w fun v w' => v = .tuple #[str (sealOf key cell text), .nilIface] ∧ St w [] w' := by
  have hrl := hr.1
  have hn := numOf_len cell
  refine C_enter (n := 67) Tryd.func21 rfl rfl rfl (fun w1 hs1 => ?_)
  refine W_seq ?_
  refine W_region ?_
  refine L0 (wanted_none rfl) rfl (y_assign (v := Value.string ⟨⟨_⟩⟩) rfl rfl) ?_
  refine L0 (wanted_none rfl) rfl (y_assign (v := Value.nilIface) rfl rfl) ?_
  refine Lnil ?_
  refine W_seq ?_
  refine W_block ?_
  refine W_seq ?_
  refine W_region ?_
  refine L0 (wanted_none rfl) rfl (y_move (v := Value.string ⟨⟨_⟩⟩) rfl rfl) ?_
  refine L0 (wanted_none rfl) rfl (y_len rfl Tryd.underlying9 rfl) ?_
  refine L0 (wanted_none rfl) rfl (y_ne rfl rfl rfl) ?_
  refine L0 (wanted_none rfl) rfl (y_move (v := Value.bool _) rfl rfl) ?_
  refine Lkn (t := 15) (b0 := false) rfl (by first | exact decide_eq_false (by omega) | exact bnF (by omega) | (simp; omega)) (fun h2 => ?_)
  refine L0 (wanted_yesB rfl rfl rfl h2) rfl (y_move (v := Value.int _ _) rfl rfl) ?_
  refine L0 (wanted_yesB rfl rfl rfl h2) rfl (y_lt rfl rfl rfl) ?_
  refine L0 (wanted_none rfl) rfl (y_pickF rfl rfl h2 rfl) ?_
  refine L0 (wanted_none rfl) rfl (y_move (v := Value.bool _) rfl rfl) ?_
  refine Lkn (t := 19) (b0 := false) rfl (by first | exact decide_eq_false (by omega) | exact bnF (by omega) | (simp; omega)) (fun h3 => ?_)
  refine L0 (wanted_yesB rfl rfl rfl h3) rfl (y_move (v := Value.int _ _) rfl rfl) ?_
  refine L0 (wanted_yesB rfl rfl rfl h3) rfl (y_ge rfl rfl rfl) ?_
  refine L0 (wanted_none rfl) rfl (y_pickF rfl rfl h3 rfl) ?_
  refine L0 (wanted_none rfl) rfl (y_assign (v := Value.bool _) rfl rfl) ?_
  refine Lnil ?_
  refine Wkn (t := 11) (b0 := false) rfl (by first | exact decide_eq_false (by omega) | exact bnF (by omega) | (simp; omega)) (fun h4 => ?_)
  refine W_condF rfl h4 ?_
  refine W_seq ?_
  refine W_region ?_
  refine L0 (wanted_none rfl) rfl (y_move (v := Value.string ⟨⟨_⟩⟩) rfl rfl) ?_
  refine L0 (wanted_none rfl) rfl (y_len rfl Tryd.underlying9 rfl) ?_
  refine L0 (wanted_none rfl) rfl (y_gt rfl rfl rfl) ?_
  refine L0 (wanted_none rfl) rfl (y_assign (v := Value.bool _) rfl rfl) ?_
  refine Lnil ?_
  refine Wkn (t := 24) (b0 := false) rfl (by first | exact decide_eq_false (by omega) | exact bnF (by omega) | (simp; omega)) (fun h5 => ?_)
  refine W_condF rfl h5 ?_
  refine W_skip ?_
  refine W_seq ?_
  refine W_region ?_
  refine L0 (wanted_none rfl) rfl (y_move (v := Value.string ⟨⟨_⟩⟩) rfl rfl) ?_
  refine L0 (wanted_none rfl) rfl (y_move (v := Value.int _ _) rfl rfl) ?_
  refine Lc (wanted_none rfl) (c_call rfl rfl rfl Tryd.func25 (by kernel_rfl) rfl (num_any cell w1) rfl ?_)
  rintro _ w6 ⟨rfl, hc7⟩
  have hs8 := hs1.call0 hc7
  refine L0 (wanted_none rfl) rfl (y_move (v := Value.string ⟨⟨_⟩⟩) rfl rfl) ?_
  refine Lc (wanted_none rfl) (c_bs3 (v0 := str _) (v1 := str _) (v2 := str _) hs8 rfl rfl Tryd.underlying22 sz9 zr9 rfl rfl rfl rfl rfl rfl (fun b9 w10 hbb9 hs11 => ?_))
  refine Lc (wanted_none rfl) (c_call rfl rfl rfl Tryd.func24 (by kernel_rfl) rfl (mark_any 110 [key, numOf cell, text] _ (by rw [mark3_len]; omega) (by simp) w10 (hr.keep hs11 (by have := hbb9; simp [keys]; omega)) (sl_three (hs11.get 0 rfl) rfl)) rfl ?_)
  rintro _ w12 ⟨rfl, hc13⟩
  have hs14 := hs11.call0 hc13
  refine L0 (wanted_none rfl) rfl (y_sslice_hi rfl Tryd.underlying9 rfl rfl (by rw [markOf_len16]; decide)) ?_
  refine L0 (wanted_none rfl) rfl (y_assign (v := Value.string ⟨⟨_⟩⟩) rfl rfl) ?_
  refine Lnil ?_
  refine W_seq ?_
  refine W_drawT (fun _ => True) [(0, 0), (0, 1), (0, 2), (0, 3), (0, 4), (3, 5), (3, 6), (0, 7), (0, 8), (0, 9), (0, 10), (0, 11), (3, 12), (0, 13), (3, 14), (0, 15), (0, 16), (0, 17), (0, 18), (0, 19)] (.one 0 0 (.one 0 1 (.one 0 2 (.one 0 7 (.one 0 9 (.one 0 3 (.one 0 10 (.one 0 4 (.one 0 11 (.fork (.one 3 5 (.fork (.one 3 6 (.one 0 8 (.one 3 12 (.one 0 13 (.one 3 14 (.one 0 15 (.one 0 16 (.one 0 17 (.one 0 18 (.one 0 19 (.nil))))))))))) (.one 3 12 (.one 3 6 (.one 0 8 (.one 0 13 (.one 3 14 (.one 0 15 (.one 0 16 (.one 0 17 (.one 0 18 (.one 0 19 (.nil))))))))))))) (.one 3 12 (.one 3 5 (.one 3 6 (.one 0 8 (.one 0 13 (.one 3 14 (.one 0 15 (.one 0 16 (.one 0 17 (.one 0 18 (.one 0 19 (.nil)))))))))))))))))))))) hs14 mixed (by kernel_rfl) (fun w15 hs16 => ?_)
  refine T0 (wanted_none rfl) rfl (y_move (v := Value.string ⟨⟨_⟩⟩) rfl rfl) ?_
  refine T0 (wanted_none rfl) rfl (y_move (v := Value.string ⟨⟨_⟩⟩) rfl rfl) ?_
  refine T0 (wanted_none rfl) rfl (y_move (v := Value.string ⟨⟨_⟩⟩) rfl rfl) ?_
  refine T0 (wanted_none rfl) rfl (y_move (v := Value.string ⟨⟨_⟩⟩) rfl rfl) ?_
  refine T0 (wanted_none rfl) rfl (y_move (v := Value.string ⟨⟨_⟩⟩) rfl rfl) ?_
  refine T0 (wanted_none rfl) rfl (y_len rfl Tryd.underlying9 rfl) ?_
  refine T0 (wanted_none rfl) rfl (y_len rfl Tryd.underlying9 rfl) ?_
  refine T0 (wanted_none rfl) rfl (y_cito8 rfl Tryd.underlying3 Tryd.underlying5 rfl) ?_
  refine T0 (wanted_none rfl) rfl (y_sub64 rfl rfl rfl (by omega)) ?_
  refine Tfork ?_ ?_
  · skip
    refine T3 (wanted_none rfl) (c_bs1 (v0 := bv _) hs16 rfl rfl Tryd.underlying113 sz5 zr5 rfl rfl (fun b17 w18 hbb17 hs19 => ?_))
    refine ⟨fun _ => trivial, ?_⟩
    refine Tfork ?_ ?_
    · skip
      refine T3 (wanted_none rfl) (c_ofY rfl hs19 (y_bstr rfl Tryd.underlying113 Tryd.underlying5 Tryd.underlying9 rfl (Row.of_block (E := 5) (xs := bs [u8of text.length]) hbb17 (by simp)) (fun x hx => by first | exact hx | exact List.mem_cons.2 (.inl (List.mem_singleton.1 hx)) | simp [hx])) ?_)
      refine ⟨fun _ => trivial, ?_⟩
      refine T0 (wanted_none rfl) rfl (y_scat rfl rfl rfl (by show 1 + text.length ≤ _; omega)) ?_
      refine T3 (wanted_none rfl) (c_call rfl rfl rfl Tryd.func17 (by kernel_rfl) rfl (repeat_int 0 _ (80 - text.length) (by omega) (by omega) w18) rfl ?_)
      rintro _ w20 ⟨rfl, hc21⟩
      have hs22 := hs19.call0 hc21
      refine ⟨fun _ => trivial, ?_⟩
      refine T0 (wanted_none rfl) rfl (y_scat rfl rfl rfl (by simp only [List.length_append, List.length_replicate, List.length_cons, List.length_nil]; omega)) ?_
      refine T3 (wanted_none rfl) (c_call rfl rfl rfl Tryd.func77 (by kernel_rfl) rfl (xor_any key (nonceOf key cell text) (padText text) (by rw [padText_len ht]; decide) hk (nonceOf_len _ _ _) w20) rfl ?_)
      rintro _ w23 ⟨rfl, hc24⟩
      have hs25 := hs22.call0 hc24
      refine ⟨fun _ => trivial, ?_⟩
      refine T0 (wanted_none rfl) rfl (y_move (v := Value.tuple ⟨_⟩) rfl rfl) ?_
      refine T0 (wanted_none rfl) rfl (y_extract rfl rfl rfl) ?_
      refine T0 (wanted_none rfl) rfl (y_extract rfl rfl rfl) ?_
      refine T0 (wanted_none rfl) rfl (y_assign (v := Value.string ⟨⟨_⟩⟩) rfl rfl) ?_
      refine T0 (wanted_none rfl) rfl (y_assign (v := _) rfl rfl) ?_
      refine Tnil ?_
      refine W_seq ?_
      refine W_seq ?_
      refine W_region ?_
      refine L0 (wanted_none rfl) rfl (y_move (v := _) rfl rfl) ?_
      refine L0 (wanted_none rfl) rfl (y_neNilNil rfl Tryd.underlying32 rfl) ?_
      refine Lnil ?_
      refine W_condF rfl rfl ?_
      refine W_skip ?_
      refine W_seq ?_
      refine W_region ?_
      refine L0 (wanted_none rfl) rfl (y_move (v := Value.string ⟨⟨_⟩⟩) rfl rfl) ?_
      refine L0 (wanted_none rfl) rfl (y_move (v := Value.int _ _) rfl rfl) ?_
      refine L0 (wanted_none rfl) rfl (y_move (v := Value.string ⟨⟨_⟩⟩) rfl rfl) ?_
      refine L0 (wanted_none rfl) rfl (y_move (v := Value.string ⟨⟨_⟩⟩) rfl rfl) ?_
      refine L0 (wanted_none rfl) rfl (y_scat rfl rfl rfl (by show (nonceOf key cell text).length + (cryptOf key cell text).length ≤ _; rw [nonceOf_len, cryptOf_len ht]; decide)) ?_
      refine Lc (wanted_none rfl) (c_call rfl rfl rfl Tryd.func78 (by kernel_rfl) rfl (tag_any key cell (nonceOf key cell text ++ cryptOf key cell text) (by omega) (by rw [List.length_append, nonceOf_len, cryptOf_len ht]; omega) w23 (hr.keep hs25 (by simp [keys]; omega))) rfl ?_)
      rintro _ w26 ⟨rfl, hc27⟩
      have hs28 := hs25.call0 hc27
      refine L0 (wanted_none rfl) rfl (y_move (v := Value.string ⟨⟨_⟩⟩) rfl rfl) ?_
      refine L0 (wanted_none rfl) rfl (y_scat rfl rfl rfl (by show (tagOf key cell (nonceOf key cell text ++ cryptOf key cell text)).length + (nonceOf key cell text).length ≤ _; rw [nonceOf_len, tagOf_len]; decide)) ?_
      refine L0 (wanted_none rfl) rfl (y_move (v := Value.string ⟨⟨_⟩⟩) rfl rfl) ?_
      refine L0 (wanted_none rfl) rfl (y_scat rfl rfl rfl (by show (tagOf key cell (nonceOf key cell text ++ cryptOf key cell text) ++ nonceOf key cell text).length + (cryptOf key cell text).length ≤ _; rw [List.length_append, nonceOf_len, tagOf_len, cryptOf_len ht]; decide)) ?_
      refine L0 (wanted_none rfl) rfl (y_assign (v := Value.string ⟨⟨_⟩⟩) rfl rfl) ?_
      refine L0 (wanted_none rfl) rfl (y_assign (v := Value.nilIface) rfl rfl) ?_
      refine Lnil ?_
      refine W_ret ?_
      refine fin2 (fn := Tryd.f21) rfl rfl rfl ?_
      exact ⟨rfl, hs28.dropL (M := [_, _]) (by simp; omega)⟩
    · skip
      refine T3 (wanted_none rfl) (c_call rfl rfl rfl Tryd.func17 (by kernel_rfl) rfl (repeat_int 0 _ (80 - text.length) (by omega) (by omega) w18) rfl ?_)
      rintro _ w29 ⟨rfl, hc30⟩
      have hs31 := hs19.call0 hc30
      refine ⟨fun _ => trivial, ?_⟩
      refine T3 (wanted_none rfl) (c_ofY rfl hs31 (y_bstr rfl Tryd.underlying113 Tryd.underlying5 Tryd.underlying9 rfl (Row.of_block (E := 5) (xs := bs [u8of text.length]) hbb17 (by simp)) (fun x hx => by first | exact hx | exact List.mem_cons.2 (.inl (List.mem_singleton.1 hx)) | simp [hx])) ?_)
      refine ⟨fun _ => trivial, ?_⟩
      refine T0 (wanted_none rfl) rfl (y_scat rfl rfl rfl (by show 1 + text.length ≤ _; omega)) ?_
      refine T0 (wanted_none rfl) rfl (y_scat rfl rfl rfl (by simp only [List.length_append, List.length_replicate, List.length_cons, List.length_nil]; omega)) ?_
      refine T3 (wanted_none rfl) (c_call rfl rfl rfl Tryd.func77 (by kernel_rfl) rfl (xor_any key (nonceOf key cell text) (padText text) (by rw [padText_len ht]; decide) hk (nonceOf_len _ _ _) w29) rfl ?_)
      rintro _ w32 ⟨rfl, hc33⟩
      have hs34 := hs31.call0 hc33
      refine ⟨fun _ => trivial, ?_⟩
      refine T0 (wanted_none rfl) rfl (y_move (v := Value.tuple ⟨_⟩) rfl rfl) ?_
      refine T0 (wanted_none rfl) rfl (y_extract rfl rfl rfl) ?_
      refine T0 (wanted_none rfl) rfl (y_extract rfl rfl rfl) ?_
      refine T0 (wanted_none rfl) rfl (y_assign (v := Value.string ⟨⟨_⟩⟩) rfl rfl) ?_
      refine T0 (wanted_none rfl) rfl (y_assign (v := _) rfl rfl) ?_
      refine Tnil ?_
      refine W_seq ?_
      refine W_seq ?_
      refine W_region ?_
      refine L0 (wanted_none rfl) rfl (y_move (v := _) rfl rfl) ?_
      refine L0 (wanted_none rfl) rfl (y_neNilNil rfl Tryd.underlying32 rfl) ?_
      refine Lnil ?_
      refine W_condF rfl rfl ?_
      refine W_skip ?_
      refine W_seq ?_
      refine W_region ?_
      refine L0 (wanted_none rfl) rfl (y_move (v := Value.string ⟨⟨_⟩⟩) rfl rfl) ?_
      refine L0 (wanted_none rfl) rfl (y_move (v := Value.int _ _) rfl rfl) ?_
      refine L0 (wanted_none rfl) rfl (y_move (v := Value.string ⟨⟨_⟩⟩) rfl rfl) ?_
      refine L0 (wanted_none rfl) rfl (y_move (v := Value.string ⟨⟨_⟩⟩) rfl rfl) ?_
      refine L0 (wanted_none rfl) rfl (y_scat rfl rfl rfl (by show (nonceOf key cell text).length + (cryptOf key cell text).length ≤ _; rw [nonceOf_len, cryptOf_len ht]; decide)) ?_
      refine Lc (wanted_none rfl) (c_call rfl rfl rfl Tryd.func78 (by kernel_rfl) rfl (tag_any key cell (nonceOf key cell text ++ cryptOf key cell text) (by omega) (by rw [List.length_append, nonceOf_len, cryptOf_len ht]; omega) w32 (hr.keep hs34 (by simp [keys]; omega))) rfl ?_)
      rintro _ w35 ⟨rfl, hc36⟩
      have hs37 := hs34.call0 hc36
      refine L0 (wanted_none rfl) rfl (y_move (v := Value.string ⟨⟨_⟩⟩) rfl rfl) ?_
      refine L0 (wanted_none rfl) rfl (y_scat rfl rfl rfl (by show (tagOf key cell (nonceOf key cell text ++ cryptOf key cell text)).length + (nonceOf key cell text).length ≤ _; rw [nonceOf_len, tagOf_len]; decide)) ?_
      refine L0 (wanted_none rfl) rfl (y_move (v := Value.string ⟨⟨_⟩⟩) rfl rfl) ?_
      refine L0 (wanted_none rfl) rfl (y_scat rfl rfl rfl (by show (tagOf key cell (nonceOf key cell text ++ cryptOf key cell text) ++ nonceOf key cell text).length + (cryptOf key cell text).length ≤ _; rw [List.length_append, nonceOf_len, tagOf_len, cryptOf_len ht]; decide)) ?_
      refine L0 (wanted_none rfl) rfl (y_assign (v := Value.string ⟨⟨_⟩⟩) rfl rfl) ?_
      refine L0 (wanted_none rfl) rfl (y_assign (v := Value.nilIface) rfl rfl) ?_
      refine Lnil ?_
      refine W_ret ?_
      refine fin2 (fn := Tryd.f21) rfl rfl rfl ?_
      exact ⟨rfl, hs37.dropL (M := [_, _]) (by simp; omega)⟩
  · skip
    refine T3 (wanted_none rfl) (c_call rfl rfl rfl Tryd.func17 (by kernel_rfl) rfl (repeat_int 0 _ (80 - text.length) (by omega) (by omega) w15) rfl ?_)
    rintro _ w38 ⟨rfl, hc39⟩
    have hs40 := hs16.call0 hc39
    refine ⟨fun _ => trivial, ?_⟩
    refine T3 (wanted_none rfl) (c_bs1 (v0 := bv _) hs40 rfl rfl Tryd.underlying113 sz5 zr5 rfl rfl (fun b41 w42 hbb41 hs43 => ?_))
    refine ⟨fun _ => trivial, ?_⟩
    refine T3 (wanted_none rfl) (c_ofY rfl hs43 (y_bstr rfl Tryd.underlying113 Tryd.underlying5 Tryd.underlying9 rfl (Row.of_block (E := 5) (xs := bs [u8of text.length]) hbb41 (by simp)) (fun x hx => by first | exact hx | exact List.mem_cons.2 (.inl (List.mem_singleton.1 hx)) | simp [hx])) ?_)
    refine ⟨fun _ => trivial, ?_⟩
    refine T0 (wanted_none rfl) rfl (y_scat rfl rfl rfl (by show 1 + text.length ≤ _; omega)) ?_
    refine T0 (wanted_none rfl) rfl (y_scat rfl rfl rfl (by simp only [List.length_append, List.length_replicate, List.length_cons, List.length_nil]; omega)) ?_
    refine T3 (wanted_none rfl) (c_call rfl rfl rfl Tryd.func77 (by kernel_rfl) rfl (xor_any key (nonceOf key cell text) (padText text) (by rw [padText_len ht]; decide) hk (nonceOf_len _ _ _) w42) rfl ?_)
    rintro _ w44 ⟨rfl, hc45⟩
    have hs46 := hs43.call0 hc45
    refine ⟨fun _ => trivial, ?_⟩
    refine T0 (wanted_none rfl) rfl (y_move (v := Value.tuple ⟨_⟩) rfl rfl) ?_
    refine T0 (wanted_none rfl) rfl (y_extract rfl rfl rfl) ?_
    refine T0 (wanted_none rfl) rfl (y_extract rfl rfl rfl) ?_
    refine T0 (wanted_none rfl) rfl (y_assign (v := Value.string ⟨⟨_⟩⟩) rfl rfl) ?_
    refine T0 (wanted_none rfl) rfl (y_assign (v := _) rfl rfl) ?_
    refine Tnil ?_
    refine W_seq ?_
    refine W_seq ?_
    refine W_region ?_
    refine L0 (wanted_none rfl) rfl (y_move (v := _) rfl rfl) ?_
    refine L0 (wanted_none rfl) rfl (y_neNilNil rfl Tryd.underlying32 rfl) ?_
    refine Lnil ?_
    refine W_condF rfl rfl ?_
    refine W_skip ?_
    refine W_seq ?_
    refine W_region ?_
    refine L0 (wanted_none rfl) rfl (y_move (v := Value.string ⟨⟨_⟩⟩) rfl rfl) ?_
    refine L0 (wanted_none rfl) rfl (y_move (v := Value.int _ _) rfl rfl) ?_
    refine L0 (wanted_none rfl) rfl (y_move (v := Value.string ⟨⟨_⟩⟩) rfl rfl) ?_
    refine L0 (wanted_none rfl) rfl (y_move (v := Value.string ⟨⟨_⟩⟩) rfl rfl) ?_
    refine L0 (wanted_none rfl) rfl (y_scat rfl rfl rfl (by show (nonceOf key cell text).length + (cryptOf key cell text).length ≤ _; rw [nonceOf_len, cryptOf_len ht]; decide)) ?_
    refine Lc (wanted_none rfl) (c_call rfl rfl rfl Tryd.func78 (by kernel_rfl) rfl (tag_any key cell (nonceOf key cell text ++ cryptOf key cell text) (by omega) (by rw [List.length_append, nonceOf_len, cryptOf_len ht]; omega) w44 (hr.keep hs46 (by simp [keys]; omega))) rfl ?_)
    rintro _ w47 ⟨rfl, hc48⟩
    have hs49 := hs46.call0 hc48
    refine L0 (wanted_none rfl) rfl (y_move (v := Value.string ⟨⟨_⟩⟩) rfl rfl) ?_
    refine L0 (wanted_none rfl) rfl (y_scat rfl rfl rfl (by show (tagOf key cell (nonceOf key cell text ++ cryptOf key cell text)).length + (nonceOf key cell text).length ≤ _; rw [nonceOf_len, tagOf_len]; decide)) ?_
    refine L0 (wanted_none rfl) rfl (y_move (v := Value.string ⟨⟨_⟩⟩) rfl rfl) ?_
    refine L0 (wanted_none rfl) rfl (y_scat rfl rfl rfl (by show (tagOf key cell (nonceOf key cell text ++ cryptOf key cell text) ++ nonceOf key cell text).length + (cryptOf key cell text).length ≤ _; rw [List.length_append, nonceOf_len, tagOf_len, cryptOf_len ht]; decide)) ?_
    refine L0 (wanted_none rfl) rfl (y_assign (v := Value.string ⟨⟨_⟩⟩) rfl rfl) ?_
    refine L0 (wanted_none rfl) rfl (y_assign (v := Value.nilIface) rfl rfl) ?_
    refine Lnil ?_
    refine W_ret ?_
    refine fin2 (fn := Tryd.f21) rfl rfl rfl ?_
    exact ⟨rfl, hs49.dropL (M := [_, _]) (by simp; omega)⟩
end Go.Proofs.YtkolfgmpmnelmabDoor
