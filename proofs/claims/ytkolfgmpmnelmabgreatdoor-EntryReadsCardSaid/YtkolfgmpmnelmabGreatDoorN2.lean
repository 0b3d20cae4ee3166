/-
  Walks: entry.Need, entry.Name; the library's IndexByte, Trim, Itoa.
-/
import Derived.Test.YtkolfgmpmnelmabGreatDoorN1
import Derived.Test.YtkolfgmpmnelmabGreatDoorVt
namespace Go.Proofs.YtkolfgmpmnelmabGreatDoor.Ent
open Go Vx Go.Proofs
set_option linter.unusedVariables false
set_option maxRecDepth 8000
set_option maxHeartbeats 1000000
theorem ofBelow {w w' : World} (h : Go.RowKit.Below w.heap.size w w') : St w [] w' :=
  ⟨h.os, h.tape, h.output, h.size, fun _ h => (by cases h), List.nodup_nil, fun b hb _ => h.block b hb⟩
theorem indexByte_any (s : List UInt8) (c : UInt8) (w : World) : C Tryz.prog 25 ⟨[str s, bv c]⟩ w fun v w' => v = iv (Lib.indexByte s c) ∧ St w [] w' := by
  have h0 := St.init w
  refine Calls.mono (Tryz.strings_IndexByte ⟨⟨s⟩⟩ c.toNat w) fun e w' ⟨he, hb⟩ => ⟨_, he, ?_, by rw [hb]; exact h0⟩
  have e1 : ((c.toNat : Int).toNat).toUInt8 = c := by rw [Int.toNat_natCast]; simp
  rw [e1]
theorem trim_any (s : List UInt8) (w : World) (hs : s.length ≤ 9223372036854775807) : C Tryz.prog 26 ⟨[str s, str (letters ++ digits)]⟩ w fun v w' => v = str (Lib.trimS s (letters ++ digits)) ∧ St w [] w' :=
  Calls.mono (Tryz.strings_Trim ⟨⟨s⟩⟩ ⟨⟨letters ++ digits⟩⟩ w hs (by decide) (ascii_of_all (by decide))) fun e w' ⟨he, hb⟩ => ⟨_, he, rfl, ofBelow hb⟩
theorem need_any (n : Int) (h0 : -9223372036854775808 ≤ n) (h1 : n ≤ 9223372036854775000) (w : World) : C Tryz.prog 12 ⟨[iv n]⟩ w fun v w' => v = iv (needI n) ∧ St w [] w' := by
  have he : max (n + 80 - 1) 0 / 80 = needI n := by rw [needI]; congr 2; omega
  generalize needI n = r at *
  refine C_enter (n := 8) Tryz.func12 rfl rfl rfl (fun w1 hs1 => ?_)
  refine W_seq ?_
  refine W_region ?_
  refine L0 (wanted_none rfl) rfl (y_assign (v := Value.int _ _) rfl rfl) ?_
  refine Lnil ?_
  refine W_seq ?_
  refine W_region ?_
  refine L0 (wanted_none rfl) rfl (y_move (v := Value.int _ _) rfl rfl) ?_
  refine L0 (wanted_none rfl) rfl (y_add64 rfl rfl rfl (by omega)) ?_
  refine L0 (wanted_none rfl) rfl (y_sub64 rfl rfl rfl (by omega)) ?_
  refine L0 (wanted_none rfl) rfl (y_max rfl rfl rfl) ?_
  refine L0 (wanted_none rfl) rfl (y_quo64 rfl rfl rfl (by omega) (by omega) (by omega)) ?_
  refine L0 (wanted_none rfl) rfl (y_assign (v := Value.int _ _) rfl rfl) ?_
  refine Lnil ?_
  refine W_ret ?_
  refine fin1 (fn := Tryz.f12) rfl rfl ?_
  exact ⟨congrArg _ he, hs1⟩
theorem name_any (s : List UInt8) (w : World) : C Tryz.prog 10 ⟨[str s]⟩ w fun v w' => (∃ bo, v = .bool bo ∧ (bo = true ↔ NameP s)) ∧ St w [] w' := by
  refine C_enter (n := 21) Tryz.func10 rfl rfl rfl (fun w1 hs1 => ?_)
  refine W_seq ?_
  refine W_region ?_
  refine L0 (wanted_none rfl) rfl (y_assign (v := Value.bool _) rfl rfl) ?_
  refine Lnil ?_
  refine W_seq ?_
  refine W_region ?_
  refine L0 (wanted_none rfl) rfl (y_move (v := Value.string ⟨⟨_⟩⟩) rfl rfl) ?_
  refine L0 (wanted_none rfl) rfl (y_sne rfl rfl rfl) ?_
  refine L0 (wanted_none rfl) rfl (y_move (v := Value.bool _) rfl rfl) ?_
  refine Lsp (t := 5) rfl (fun h2 => ?_) (fun h2 => ?_)
  · have h2' := h2
    first | replace h2' := of_decide_eq_true h2' | replace h2' := bnT' h2' | skip
    refine L0 (wanted_yesB rfl rfl rfl h2) rfl (y_move (v := Value.string ⟨⟨_⟩⟩) rfl rfl) ?_
    refine L0 (wanted_yesB rfl rfl rfl h2) rfl (y_len rfl Tryz.underlying9 rfl) ?_
    refine L0 (wanted_yesB rfl rfl rfl h2) rfl (y_le rfl rfl rfl) ?_
    refine L0 (wanted_none rfl) rfl (y_pickT rfl rfl h2 rfl) ?_
    refine L0 (wanted_none rfl) rfl (y_move (v := Value.bool _) rfl rfl) ?_
    refine Lsp (t := 10) rfl (fun h3 => ?_) (fun h3 => ?_)
    · have h3' := h3
      first | replace h3' := of_decide_eq_true h3' | replace h3' := bnT' h3' | skip
      refine L0 (wanted_yesB rfl rfl rfl h3) rfl (y_move (v := Value.string ⟨⟨_⟩⟩) rfl rfl) ?_
      refine L0 (wanted_yesB rfl rfl rfl h3) rfl (y_sindex rfl Tryz.underlying9 rfl rfl (by omega) (by have := List.length_pos_iff.2 ‹s ≠ []›; omega)) ?_
      refine Lc (wanted_yesB rfl rfl rfl h3) (c_call rfl rfl rfl Tryz.func25 (by kernel_rfl) rfl (indexByte_any letters (s.getD 0 0) w1) rfl ?_)
      rintro _ w4 ⟨rfl, hc5⟩
      have hs6 := hs1.call0 hc5
      refine L0 (wanted_yesB rfl rfl rfl h3) rfl (y_ge rfl rfl rfl) ?_
      refine L0 (wanted_none rfl) rfl (y_pickT rfl rfl h3 rfl) ?_
      refine L0 (wanted_none rfl) rfl (y_move (v := Value.bool _) rfl rfl) ?_
      refine Lsp (t := 16) rfl (fun h7 => ?_) (fun h7 => ?_)
      · have h7' := h7
        first | replace h7' := of_decide_eq_true h7' | replace h7' := bnT' h7' | skip
        refine L0 (wanted_yesB rfl rfl rfl h7) rfl (y_move (v := Value.string ⟨⟨_⟩⟩) rfl rfl) ?_
        refine Lc (wanted_yesB rfl rfl rfl h7) (c_call rfl rfl rfl Tryz.func26 (by kernel_rfl) rfl (trim_any s w4 (by omega)) rfl ?_)
        rintro _ w8 ⟨rfl, hc9⟩
        have hs10 := hs6.call0 hc9
        refine L0 (wanted_yesB rfl rfl rfl h7) rfl (y_seq rfl rfl rfl) ?_
        refine L0 (wanted_none rfl) rfl (y_pickT rfl rfl h7 rfl) ?_
        refine L0 (wanted_none rfl) rfl (y_assign (v := Value.bool _) rfl rfl) ?_
        refine Lnil ?_
        refine W_ret ?_
        refine fin1 (fn := Tryz.f10) rfl rfl ?_
        first | exact ⟨⟨_, rfl, by rw [decide_eq_true_iff]; exact ⟨fun h => nameP_of ‹s ≠ []› (by omega) ‹_› h, fun h => (nameP_to h).2⟩⟩, hs10⟩ | exact ⟨⟨_, rfl, iff_of_false (by simp_all) (fun h => by have h7 := nameP_to h; have h8 := h.ne; have h9 := h.len; first | omega | simp_all)⟩, hs10⟩
      · have h7' := h7
        first | replace h7' := of_decide_eq_false h7' | replace h7' := bnF' h7' | skip
        refine Lno (wanted_noB rfl rfl rfl h7 (by decide)) rfl ?_
        refine Lno (wanted_noB rfl rfl rfl h7 (by decide)) rfl ?_
        refine Lno (wanted_noB rfl rfl rfl h7 (by decide)) rfl ?_
        refine L0 (wanted_none rfl) rfl (y_pickF rfl rfl h7 rfl) ?_
        refine L0 (wanted_none rfl) rfl (y_assign (v := Value.bool _) rfl rfl) ?_
        refine Lnil ?_
        refine W_ret ?_
        refine fin1 (fn := Tryz.f10) rfl rfl ?_
        first | exact ⟨⟨_, rfl, by rw [decide_eq_true_iff]; exact ⟨fun h => nameP_of ‹s ≠ []› (by omega) ‹_› h, fun h => (nameP_to h).2⟩⟩, hs6⟩ | exact ⟨⟨_, rfl, iff_of_false (by simp_all) (fun h => by have h7 := nameP_to h; have h8 := h.ne; have h9 := h.len; first | omega | simp_all)⟩, hs6⟩
    · have h3' := h3
      first | replace h3' := of_decide_eq_false h3' | replace h3' := bnF' h3' | skip
      refine Lno (wanted_noB rfl rfl rfl h3 (by decide)) rfl ?_
      refine Lno (wanted_noB rfl rfl rfl h3 (by decide)) rfl ?_
      refine Lno (wanted_noB rfl rfl rfl h3 (by decide)) rfl ?_
      refine Lno (wanted_noB rfl rfl rfl h3 (by decide)) rfl ?_
      refine L0 (wanted_none rfl) rfl (y_pickF rfl rfl h3 rfl) ?_
      refine L0 (wanted_none rfl) rfl (y_move (v := Value.bool _) rfl rfl) ?_
      refine Lno (wanted_noB rfl rfl rfl rfl (by decide)) rfl ?_
      refine Lno (wanted_noB rfl rfl rfl rfl (by decide)) rfl ?_
      refine Lno (wanted_noB rfl rfl rfl rfl (by decide)) rfl ?_
      refine L0 (wanted_none rfl) rfl (y_pickF rfl rfl (rfl : false = false) rfl) ?_
      refine L0 (wanted_none rfl) rfl (y_assign (v := Value.bool _) rfl rfl) ?_
      refine Lnil ?_
      refine W_ret ?_
      refine fin1 (fn := Tryz.f10) rfl rfl ?_
      first | exact ⟨⟨_, rfl, by rw [decide_eq_true_iff]; exact ⟨fun h => nameP_of ‹s ≠ []› (by omega) ‹_› h, fun h => (nameP_to h).2⟩⟩, hs1⟩ | exact ⟨⟨_, rfl, iff_of_false (by simp_all) (fun h => by have h7 := nameP_to h; have h8 := h.ne; have h9 := h.len; first | omega | simp_all)⟩, hs1⟩
  · have h2' := h2
    first | replace h2' := of_decide_eq_false h2' | replace h2' := bnF' h2' | skip
    refine Lno (wanted_noB rfl rfl rfl h2 (by decide)) rfl ?_
    refine Lno (wanted_noB rfl rfl rfl h2 (by decide)) rfl ?_
    refine Lno (wanted_noB rfl rfl rfl h2 (by decide)) rfl ?_
    refine L0 (wanted_none rfl) rfl (y_pickF rfl rfl h2 rfl) ?_
    refine L0 (wanted_none rfl) rfl (y_move (v := Value.bool _) rfl rfl) ?_
    refine Lno (wanted_noB rfl rfl rfl rfl (by decide)) rfl ?_
    refine Lno (wanted_noB rfl rfl rfl rfl (by decide)) rfl ?_
    refine Lno (wanted_noB rfl rfl rfl rfl (by decide)) rfl ?_
    refine Lno (wanted_noB rfl rfl rfl rfl (by decide)) rfl ?_
    refine L0 (wanted_none rfl) rfl (y_pickF rfl rfl (rfl : false = false) rfl) ?_
    refine L0 (wanted_none rfl) rfl (y_move (v := Value.bool _) rfl rfl) ?_
    refine Lno (wanted_noB rfl rfl rfl rfl (by decide)) rfl ?_
    refine Lno (wanted_noB rfl rfl rfl rfl (by decide)) rfl ?_
    refine Lno (wanted_noB rfl rfl rfl rfl (by decide)) rfl ?_
    refine L0 (wanted_none rfl) rfl (y_pickF rfl rfl (rfl : false = false) rfl) ?_
    refine L0 (wanted_none rfl) rfl (y_assign (v := Value.bool _) rfl rfl) ?_
    refine Lnil ?_
    refine W_ret ?_
    refine fin1 (fn := Tryz.f10) rfl rfl ?_
    first | exact ⟨⟨_, rfl, by rw [decide_eq_true_iff]; exact ⟨fun h => nameP_of ‹s ≠ []› (by omega) ‹_› h, fun h => (nameP_to h).2⟩⟩, hs1⟩ | exact ⟨⟨_, rfl, iff_of_false (by simp_all) (fun h => by have h7 := nameP_to h; have h8 := h.ne; have h9 := h.len; first | omega | simp_all)⟩, hs1⟩
end Go.Proofs.YtkolfgmpmnelmabGreatDoor.Ent
