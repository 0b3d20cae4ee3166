/-
  Walks: keep.SealApart.
-/
import Derived.Test.YtkolfgmpmnelmaaDoorG2
namespace Go.Proofs.YtkolfgmpmnelmaaDoor
open Go Vx Go.Proofs
set_option linter.unusedVariables false
set_option maxRecDepth 4000
set_option maxHeartbeats 400000

def okSeal (key : List UInt8) (cell : Int) (text : List UInt8) : Prop := (key.length = 32 ∧ 0 ≤ cell ∧ cell < 24) ∧ text.length ≤ 80
theorem seal_bad (key text : List UInt8) (cell : Int) (h : ¬ okSeal key cell text) (w : World) :
    C Tryd.prog 36 ⟨[str key, iv cell, str text]⟩ w fun v w' => (∃ k, v = .tuple #[str [], .iface 31 (iv k)]) ∧ St w [] w' := by
  by_cases h1 : key.length = 32 ∧ 0 ≤ cell ∧ cell < 24
  · exact (seal_err4 key text cell h1.1 h1.2.1 h1.2.2 (by unfold okSeal at h; omega) w).mono fun v w' h => ⟨⟨4, h.1⟩, h.2⟩
  · exact (seal_err1 key text cell h1 w).mono fun v w' h => ⟨⟨1, h.1⟩, h.2⟩
theorem sapart_long (key other text more : List UInt8) (cell ct : Int) (h : 40 < key.length ∨ 40 < other.length ∨ 120 < text.length ∨ 120 < more.length) (w : World) :
    C Tryd.prog 8 ⟨[str key, str other, iv cell, iv ct, str text, str more]⟩ w fun v w' => v = .bool true ∧ St w [] w' := by
  refine C_enter (n := 84) Tryd.func8 rfl rfl rfl (fun w1 hs1 => ?_)
  refine W_seq ?_
  refine W_region ?_
  refine L0 (wanted_none rfl) rfl (y_assign (v := Value.bool _) rfl rfl) ?_
  refine Lnil ?_
  refine W_seq ?_
  refine W_seq ?_
  refine W_region ?_
  refine L0 (wanted_none rfl) rfl (y_move (v := Value.string ⟨⟨_⟩⟩) rfl rfl) ?_
  refine L0 (wanted_none rfl) rfl (y_len rfl Tryd.underlying9 rfl) ?_
  refine L0 (wanted_none rfl) rfl (y_gt rfl rfl rfl) ?_
  refine L0 (wanted_none rfl) rfl (y_move (v := Value.bool _) rfl rfl) ?_
  refine Lsp (t := 20) rfl (fun h2 => ?_) (fun h2 => ?_)
  · have h2' := h2
    first | replace h2' := of_decide_eq_true h2' | replace h2' := bnT' h2' | skip
    refine Lno (wanted_noB rfl rfl rfl h2 (by decide)) rfl ?_
    refine Lno (wanted_noB rfl rfl rfl h2 (by decide)) rfl ?_
    refine Lno (wanted_noB rfl rfl rfl h2 (by decide)) rfl ?_
    refine L0 (wanted_none rfl) rfl (y_pickT rfl rfl h2 rfl) ?_
    refine L0 (wanted_none rfl) rfl (y_move (v := Value.bool _) rfl rfl) ?_
    refine Lno (wanted_noB rfl rfl rfl rfl (by decide)) rfl ?_
    refine Lno (wanted_noB rfl rfl rfl rfl (by decide)) rfl ?_
    refine Lno (wanted_noB rfl rfl rfl rfl (by decide)) rfl ?_
    refine L0 (wanted_none rfl) rfl (y_pickT rfl rfl (rfl : true = true) rfl) ?_
    refine L0 (wanted_none rfl) rfl (y_move (v := Value.bool _) rfl rfl) ?_
    refine Lno (wanted_noB rfl rfl rfl rfl (by decide)) rfl ?_
    refine Lno (wanted_noB rfl rfl rfl rfl (by decide)) rfl ?_
    refine Lno (wanted_noB rfl rfl rfl rfl (by decide)) rfl ?_
    refine L0 (wanted_none rfl) rfl (y_pickT rfl rfl (rfl : true = true) rfl) ?_
    refine Lnil ?_
    refine W_condT rfl rfl ?_
    refine W_seq ?_
    refine W_region ?_
    refine L0 (wanted_none rfl) rfl (y_assign (v := Value.bool _) rfl rfl) ?_
    refine Lnil ?_
    refine W_ret ?_
    refine fin1 (fn := Tryd.f8) rfl rfl ?_
    exact ⟨rfl, hs1⟩
  · have h2' := h2
    first | replace h2' := of_decide_eq_false h2' | replace h2' := bnF' h2' | skip
    refine L0 (wanted_yesB rfl rfl rfl h2) rfl (y_move (v := Value.string ⟨⟨_⟩⟩) rfl rfl) ?_
    refine L0 (wanted_yesB rfl rfl rfl h2) rfl (y_len rfl Tryd.underlying9 rfl) ?_
    refine L0 (wanted_yesB rfl rfl rfl h2) rfl (y_gt rfl rfl rfl) ?_
    refine L0 (wanted_none rfl) rfl (y_pickF rfl rfl h2 rfl) ?_
    refine L0 (wanted_none rfl) rfl (y_move (v := Value.bool _) rfl rfl) ?_
    refine Lsp (t := 25) rfl (fun h3 => ?_) (fun h3 => ?_)
    · have h3' := h3
      first | replace h3' := of_decide_eq_true h3' | replace h3' := bnT' h3' | skip
      refine Lno (wanted_noB rfl rfl rfl h3 (by decide)) rfl ?_
      refine Lno (wanted_noB rfl rfl rfl h3 (by decide)) rfl ?_
      refine Lno (wanted_noB rfl rfl rfl h3 (by decide)) rfl ?_
      refine L0 (wanted_none rfl) rfl (y_pickT rfl rfl h3 rfl) ?_
      refine L0 (wanted_none rfl) rfl (y_move (v := Value.bool _) rfl rfl) ?_
      refine Lno (wanted_noB rfl rfl rfl rfl (by decide)) rfl ?_
      refine Lno (wanted_noB rfl rfl rfl rfl (by decide)) rfl ?_
      refine Lno (wanted_noB rfl rfl rfl rfl (by decide)) rfl ?_
      refine L0 (wanted_none rfl) rfl (y_pickT rfl rfl (rfl : true = true) rfl) ?_
      refine Lnil ?_
      refine W_condT rfl rfl ?_
      refine W_seq ?_
      refine W_region ?_
      refine L0 (wanted_none rfl) rfl (y_assign (v := Value.bool _) rfl rfl) ?_
      refine Lnil ?_
      refine W_ret ?_
      refine fin1 (fn := Tryd.f8) rfl rfl ?_
      exact ⟨rfl, hs1⟩
    · have h3' := h3
      first | replace h3' := of_decide_eq_false h3' | replace h3' := bnF' h3' | skip
      refine L0 (wanted_yesB rfl rfl rfl h3) rfl (y_move (v := Value.string ⟨⟨_⟩⟩) rfl rfl) ?_
      refine L0 (wanted_yesB rfl rfl rfl h3) rfl (y_len rfl Tryd.underlying9 rfl) ?_
      refine L0 (wanted_yesB rfl rfl rfl h3) rfl (y_gt rfl rfl rfl) ?_
      refine L0 (wanted_none rfl) rfl (y_pickF rfl rfl h3 rfl) ?_
      refine L0 (wanted_none rfl) rfl (y_move (v := Value.bool _) rfl rfl) ?_
      refine Lsp (t := 30) rfl (fun h4 => ?_) (fun h4 => ?_)
      · have h4' := h4
        first | replace h4' := of_decide_eq_true h4' | replace h4' := bnT' h4' | skip
        refine Lno (wanted_noB rfl rfl rfl h4 (by decide)) rfl ?_
        refine Lno (wanted_noB rfl rfl rfl h4 (by decide)) rfl ?_
        refine Lno (wanted_noB rfl rfl rfl h4 (by decide)) rfl ?_
        refine L0 (wanted_none rfl) rfl (y_pickT rfl rfl h4 rfl) ?_
        refine Lnil ?_
        refine W_condT rfl rfl ?_
        refine W_seq ?_
        refine W_region ?_
        refine L0 (wanted_none rfl) rfl (y_assign (v := Value.bool _) rfl rfl) ?_
        refine Lnil ?_
        refine W_ret ?_
        refine fin1 (fn := Tryd.f8) rfl rfl ?_
        exact ⟨rfl, hs1⟩
      · have h4' := h4
        first | replace h4' := of_decide_eq_false h4' | replace h4' := bnF' h4' | skip
        refine L0 (wanted_yesB rfl rfl rfl h4) rfl (y_move (v := Value.string ⟨⟨_⟩⟩) rfl rfl) ?_
        refine L0 (wanted_yesB rfl rfl rfl h4) rfl (y_len rfl Tryd.underlying9 rfl) ?_
        refine L0 (wanted_yesB rfl rfl rfl h4) rfl (y_gt rfl rfl rfl) ?_
        refine L0 (wanted_none rfl) rfl (y_pickF rfl rfl h4 rfl) ?_
        refine Lnil ?_
        refine Wkn (t := 34) (b0 := true) rfl (by first | exact decide_eq_true (by omega) | exact bnT (by omega) | (simp; omega)) (fun h5 => ?_)
        refine W_condT rfl h5 ?_
        refine W_seq ?_
        refine W_region ?_
        refine L0 (wanted_none rfl) rfl (y_assign (v := Value.bool _) rfl rfl) ?_
        refine Lnil ?_
        refine W_ret ?_
        refine fin1 (fn := Tryd.f8) rfl rfl ?_
        exact ⟨rfl, hs1⟩
theorem sapart_any (key other text more : List UInt8) (cell ct : Int) (l1 : key.length ≤ 40) (l2 : other.length ≤ 40) (l3 : text.length ≤ 120) (l4 : more.length ≤ 120) (w : World) (hr : RoundsAt w) :
    C Tryd.prog 8 ⟨[str key, str other, iv cell, iv ct, str text, str more]⟩ w fun v w' => v = .bool true ∧ St w [] w' := by
  refine C_enter (n := 84) Tryd.func8 rfl rfl rfl (fun w1 hs1 => ?_)
  refine W_seq ?_
  refine W_region ?_
  refine L0 (wanted_none rfl) rfl (y_assign (v := Value.bool _) rfl rfl) ?_
  refine Lnil ?_
  refine W_seq ?_
  refine W_seq ?_
  refine W_region ?_
  refine L0 (wanted_none rfl) rfl (y_move (v := Value.string ⟨⟨_⟩⟩) rfl rfl) ?_
  refine L0 (wanted_none rfl) rfl (y_len rfl Tryd.underlying9 rfl) ?_
  refine L0 (wanted_none rfl) rfl (y_gt rfl rfl rfl) ?_
  refine L0 (wanted_none rfl) rfl (y_move (v := Value.bool _) rfl rfl) ?_
  refine Lkn (t := 20) (b0 := false) rfl (by first | exact decide_eq_false (by omega) | exact bnF (by omega) | (simp; omega)) (fun h2 => ?_)
  refine L0 (wanted_yesB rfl rfl rfl h2) rfl (y_move (v := Value.string ⟨⟨_⟩⟩) rfl rfl) ?_
  refine L0 (wanted_yesB rfl rfl rfl h2) rfl (y_len rfl Tryd.underlying9 rfl) ?_
  refine L0 (wanted_yesB rfl rfl rfl h2) rfl (y_gt rfl rfl rfl) ?_
  refine L0 (wanted_none rfl) rfl (y_pickF rfl rfl h2 rfl) ?_
  refine L0 (wanted_none rfl) rfl (y_move (v := Value.bool _) rfl rfl) ?_
  refine Lkn (t := 25) (b0 := false) rfl (by first | exact decide_eq_false (by omega) | exact bnF (by omega) | (simp; omega)) (fun h3 => ?_)
  refine L0 (wanted_yesB rfl rfl rfl h3) rfl (y_move (v := Value.string ⟨⟨_⟩⟩) rfl rfl) ?_
  refine L0 (wanted_yesB rfl rfl rfl h3) rfl (y_len rfl Tryd.underlying9 rfl) ?_
  refine L0 (wanted_yesB rfl rfl rfl h3) rfl (y_gt rfl rfl rfl) ?_
  refine L0 (wanted_none rfl) rfl (y_pickF rfl rfl h3 rfl) ?_
  refine L0 (wanted_none rfl) rfl (y_move (v := Value.bool _) rfl rfl) ?_
  refine Lkn (t := 30) (b0 := false) rfl (by first | exact decide_eq_false (by omega) | exact bnF (by omega) | (simp; omega)) (fun h4 => ?_)
  refine L0 (wanted_yesB rfl rfl rfl h4) rfl (y_move (v := Value.string ⟨⟨_⟩⟩) rfl rfl) ?_
  refine L0 (wanted_yesB rfl rfl rfl h4) rfl (y_len rfl Tryd.underlying9 rfl) ?_
  refine L0 (wanted_yesB rfl rfl rfl h4) rfl (y_gt rfl rfl rfl) ?_
  refine L0 (wanted_none rfl) rfl (y_pickF rfl rfl h4 rfl) ?_
  refine Lnil ?_
  refine Wkn (t := 34) (b0 := false) rfl (by first | exact decide_eq_false (by omega) | exact bnF (by omega) | (simp; omega)) (fun h5 => ?_)
  refine W_condF rfl h5 ?_
  refine W_skip ?_
  refine W_seq ?_
  refine W_seq ?_
  refine W_region ?_
  refine Lc (wanted_none rfl) (c_call rfl rfl rfl Tryd.func35 (by kernel_rfl) rfl (sealed_any w1 (hr.keep hs1 (by simp [keys]))) rfl ?_)
  rintro _ w6 ⟨rfl, hc7⟩
  have hs8 := hs1.call0 hc7
  refine L0 (wanted_none rfl) rfl (y_not rfl rfl) ?_
  refine Lnil ?_
  refine Wkn (t := 36) (b0 := false) rfl (by rfl) (fun h9 => ?_)
  refine W_condF rfl h9 ?_
  refine W_skip ?_
  refine W_seq ?_
  by_cases v1 : okSeal key cell text
  · skip
    refine W_region ?_
    refine L0 (wanted_none rfl) rfl (y_move (v := Value.string ⟨⟨_⟩⟩) rfl rfl) ?_
    refine L0 (wanted_none rfl) rfl (y_move (v := Value.int _ _) rfl rfl) ?_
    refine L0 (wanted_none rfl) rfl (y_move (v := Value.string ⟨⟨_⟩⟩) rfl rfl) ?_
    refine Lc (wanted_none rfl) (c_call rfl rfl rfl Tryd.func36 (by kernel_rfl) rfl (seal_any key text cell v1.1.1 v1.1.2.1 v1.1.2.2 v1.2 w6 (hr.keep hs8 (by simp [keys]))) rfl ?_)
    rintro _ w10 ⟨rfl, hc11⟩
    have hs12 := hs8.call0 hc11
    refine L0 (wanted_none rfl) rfl (y_move (v := Value.tuple ⟨_⟩) rfl rfl) ?_
    refine L0 (wanted_none rfl) rfl (y_extract rfl rfl rfl) ?_
    refine L0 (wanted_none rfl) rfl (y_extract rfl rfl rfl) ?_
    refine L0 (wanted_none rfl) rfl (y_assign (v := Value.string ⟨⟨_⟩⟩) rfl rfl) ?_
    refine L0 (wanted_none rfl) rfl (y_assign (v := _) rfl rfl) ?_
    refine Lnil ?_
    refine W_seq ?_
    by_cases v2 : okSeal other ct more
    · skip
      refine W_region ?_
      refine L0 (wanted_none rfl) rfl (y_move (v := Value.string ⟨⟨_⟩⟩) rfl rfl) ?_
      refine L0 (wanted_none rfl) rfl (y_move (v := Value.int _ _) rfl rfl) ?_
      refine L0 (wanted_none rfl) rfl (y_move (v := Value.string ⟨⟨_⟩⟩) rfl rfl) ?_
      refine Lc (wanted_none rfl) (c_call rfl rfl rfl Tryd.func36 (by kernel_rfl) rfl (seal_any other more ct v2.1.1 v2.1.2.1 v2.1.2.2 v2.2 w10 (hr.keep hs12 (by simp [keys]))) rfl ?_)
      rintro _ w13 ⟨rfl, hc14⟩
      have hs15 := hs12.call0 hc14
      refine L0 (wanted_none rfl) rfl (y_move (v := Value.tuple ⟨_⟩) rfl rfl) ?_
      refine L0 (wanted_none rfl) rfl (y_extract rfl rfl rfl) ?_
      refine L0 (wanted_none rfl) rfl (y_extract rfl rfl rfl) ?_
      refine L0 (wanted_none rfl) rfl (y_assign (v := Value.string ⟨⟨_⟩⟩) rfl rfl) ?_
      refine L0 (wanted_none rfl) rfl (y_assign (v := _) rfl rfl) ?_
      refine Lnil ?_
      refine W_seq ?_
      refine W_seq ?_
      refine W_region ?_
      refine L0 (wanted_none rfl) rfl (y_move (v := _) rfl rfl) ?_
      refine L0 (wanted_none rfl) rfl (y_neNilNil rfl Tryd.underlying35 rfl) ?_
      refine L0 (wanted_none rfl) rfl (y_move (v := Value.bool _) rfl rfl) ?_
      refine L0 (wanted_yesB rfl rfl rfl rfl) rfl (y_move (v := _) rfl rfl) ?_
      refine L0 (wanted_yesB rfl rfl rfl rfl) rfl (y_neNilNil rfl Tryd.underlying35 rfl) ?_
      refine L0 (wanted_none rfl) rfl (y_pickF rfl rfl (rfl : false = false) rfl) ?_
      refine Lnil ?_
      refine W_condF rfl rfl ?_
      refine W_skip ?_
      refine W_seq ?_
      refine W_region ?_
      refine L0 (wanted_none rfl) rfl (y_move (v := Value.string ⟨⟨_⟩⟩) rfl rfl) ?_
      refine L0 (wanted_none rfl) rfl (y_len rfl Tryd.underlying9 rfl) ?_
      refine L0 (wanted_none rfl) rfl (y_eq rfl rfl rfl) ?_
      refine L0 (wanted_none rfl) rfl (y_move (v := Value.bool _) rfl rfl) ?_
      refine Lkn (t := 60) (b0 := true) rfl (by exact decide_eq_true (by rw [sealOf_len v1.2]; rfl)) (fun h16 => ?_)
      refine L0 (wanted_yesB rfl rfl rfl h16) rfl (y_move (v := Value.string ⟨⟨_⟩⟩) rfl rfl) ?_
      refine L0 (wanted_yesB rfl rfl rfl h16) rfl (y_len rfl Tryd.underlying9 rfl) ?_
      refine L0 (wanted_yesB rfl rfl rfl h16) rfl (y_eq rfl rfl rfl) ?_
      refine L0 (wanted_none rfl) rfl (y_pickT rfl rfl h16 rfl) ?_
      refine L0 (wanted_none rfl) rfl (y_move (v := Value.bool _) rfl rfl) ?_
      refine Lkn (t := 65) (b0 := true) rfl (by exact decide_eq_true (by rw [sealOf_len v2.2]; rfl)) (fun h17 => ?_)
      refine L0 (wanted_yesB rfl rfl rfl h17) rfl (y_move (v := Value.string ⟨⟨_⟩⟩) rfl rfl) ?_
      refine L0 (wanted_yesB rfl rfl rfl h17) rfl (y_move (v := Value.string ⟨⟨_⟩⟩) rfl rfl) ?_
      refine L0 (wanted_yesB rfl rfl rfl h17) rfl (y_sne rfl rfl rfl) ?_
      refine L0 (wanted_yesB rfl rfl rfl h17) rfl (y_move (v := Value.bool _) rfl rfl) ?_
      refine Lsp (t := 69) rfl (fun h18 => ?_) (fun h18 => ?_)
      · have h18' := h18
        first | replace h18' := of_decide_eq_true h18' | replace h18' := bnT' h18' | skip
        refine Lno (wanted_noB rfl rfl rfl h18 (by decide)) rfl ?_
        refine Lno (wanted_noB rfl rfl rfl h18 (by decide)) rfl ?_
        refine Lno (wanted_noB rfl rfl rfl h18 (by decide)) rfl ?_
        refine L0 (wanted_yesB rfl rfl rfl h17) rfl (y_pickT rfl rfl h18 rfl) ?_
        refine L0 (wanted_yesB rfl rfl rfl h17) rfl (y_move (v := Value.bool _) rfl rfl) ?_
        refine Lno (wanted_noB rfl rfl rfl rfl (by decide)) rfl ?_
        refine Lno (wanted_noB rfl rfl rfl rfl (by decide)) rfl ?_
        refine Lno (wanted_noB rfl rfl rfl rfl (by decide)) rfl ?_
        refine Lno (wanted_noB rfl rfl rfl rfl (by decide)) rfl ?_
        refine Lno (wanted_noB rfl rfl rfl rfl (by decide)) rfl ?_
        refine Lno (wanted_noB rfl rfl rfl rfl (by decide)) rfl ?_
        refine Lno (wanted_noB rfl rfl rfl rfl (by decide)) rfl ?_
        refine L0 (wanted_yesB rfl rfl rfl h17) rfl (y_pickT rfl rfl (rfl : true = true) rfl) ?_
        refine L0 (wanted_none rfl) rfl (y_pickT rfl rfl h17 rfl) ?_
        refine L0 (wanted_none rfl) rfl (y_assign (v := Value.bool _) rfl rfl) ?_
        refine Lnil ?_
        refine W_ret ?_
        refine fin1 (fn := Tryd.f8) rfl rfl ?_
        first | exact ⟨rfl, hs15⟩ | (refine ⟨congrArg Value.bool ?_, hs15⟩; have ek : key = other := (by assumption); have ec : cell = ct := (by assumption); subst ek; subst ec; rw [beq_iff_eq, decide_eq_decide]; exact ⟨fun h => seal_inj v1.2 v2.2 h, fun h => by rw [h]⟩)
      · have h18' := h18
        first | replace h18' := of_decide_eq_false h18' | replace h18' := bnF' h18' | skip
        refine L0 (wanted_yesB rfl rfl rfl h18) rfl (y_move (v := Value.int _ _) rfl rfl) ?_
        refine L0 (wanted_yesB rfl rfl rfl h18) rfl (y_move (v := Value.int _ _) rfl rfl) ?_
        refine L0 (wanted_yesB rfl rfl rfl h18) rfl (y_ne rfl rfl rfl) ?_
        refine L0 (wanted_yesB rfl rfl rfl h17) rfl (y_pickF rfl rfl h18 rfl) ?_
        refine L0 (wanted_yesB rfl rfl rfl h17) rfl (y_move (v := Value.bool _) rfl rfl) ?_
        refine Lsp (t := 74) rfl (fun h19 => ?_) (fun h19 => ?_)
        · have h19' := h19
          first | replace h19' := of_decide_eq_true h19' | replace h19' := bnT' h19' | skip
          refine Lno (wanted_noB rfl rfl rfl h19 (by decide)) rfl ?_
          refine Lno (wanted_noB rfl rfl rfl h19 (by decide)) rfl ?_
          refine Lno (wanted_noB rfl rfl rfl h19 (by decide)) rfl ?_
          refine Lno (wanted_noB rfl rfl rfl h19 (by decide)) rfl ?_
          refine Lno (wanted_noB rfl rfl rfl h19 (by decide)) rfl ?_
          refine Lno (wanted_noB rfl rfl rfl h19 (by decide)) rfl ?_
          refine Lno (wanted_noB rfl rfl rfl h19 (by decide)) rfl ?_
          refine L0 (wanted_yesB rfl rfl rfl h17) rfl (y_pickT rfl rfl h19 rfl) ?_
          refine L0 (wanted_none rfl) rfl (y_pickT rfl rfl h17 rfl) ?_
          refine L0 (wanted_none rfl) rfl (y_assign (v := Value.bool _) rfl rfl) ?_
          refine Lnil ?_
          refine W_ret ?_
          refine fin1 (fn := Tryd.f8) rfl rfl ?_
          first | exact ⟨rfl, hs15⟩ | (refine ⟨congrArg Value.bool ?_, hs15⟩; have ek : key = other := (by assumption); have ec : cell = ct := (by assumption); subst ek; subst ec; rw [beq_iff_eq, decide_eq_decide]; exact ⟨fun h => seal_inj v1.2 v2.2 h, fun h => by rw [h]⟩)
        · have h19' := h19
          first | replace h19' := of_decide_eq_false h19' | replace h19' := bnF' h19' | skip
          refine L0 (wanted_yesB rfl rfl rfl h19) rfl (y_move (v := Value.string ⟨⟨_⟩⟩) rfl rfl) ?_
          refine L0 (wanted_yesB rfl rfl rfl h19) rfl (y_move (v := Value.string ⟨⟨_⟩⟩) rfl rfl) ?_
          refine L0 (wanted_yesB rfl rfl rfl h19) rfl (y_seq rfl rfl rfl) ?_
          refine L0 (wanted_yesB rfl rfl rfl h19) rfl (y_move (v := Value.string ⟨⟨_⟩⟩) rfl rfl) ?_
          refine L0 (wanted_yesB rfl rfl rfl h19) rfl (y_move (v := Value.string ⟨⟨_⟩⟩) rfl rfl) ?_
          refine L0 (wanted_yesB rfl rfl rfl h19) rfl (y_seq rfl rfl rfl) ?_
          refine L0 (wanted_yesB rfl rfl rfl h19) rfl (y_beq rfl Tryd.underlying4 rfl rfl) ?_
          refine L0 (wanted_yesB rfl rfl rfl h17) rfl (y_pickF rfl rfl h19 rfl) ?_
          refine L0 (wanted_none rfl) rfl (y_pickT rfl rfl h17 rfl) ?_
          refine L0 (wanted_none rfl) rfl (y_assign (v := Value.bool _) rfl rfl) ?_
          refine Lnil ?_
          refine W_ret ?_
          refine fin1 (fn := Tryd.f8) rfl rfl ?_
          first | exact ⟨rfl, hs15⟩ | (refine ⟨congrArg Value.bool ?_, hs15⟩; have ek : key = other := (by assumption); have ec : cell = ct := (by assumption); subst ek; subst ec; rw [beq_iff_eq, decide_eq_decide]; exact ⟨fun h => seal_inj v1.2 v2.2 h, fun h => by rw [h]⟩)
    · skip
      refine W_region ?_
      refine L0 (wanted_none rfl) rfl (y_move (v := Value.string ⟨⟨_⟩⟩) rfl rfl) ?_
      refine L0 (wanted_none rfl) rfl (y_move (v := Value.int _ _) rfl rfl) ?_
      refine L0 (wanted_none rfl) rfl (y_move (v := Value.string ⟨⟨_⟩⟩) rfl rfl) ?_
      refine Lc (wanted_none rfl) (c_call rfl rfl rfl Tryd.func36 (by kernel_rfl) rfl (seal_bad other more ct v2 w10) rfl ?_)
      rintro _ w20 ⟨⟨k2, rfl⟩, hc21⟩
      have hs22 := hs12.call0 hc21
      refine L0 (wanted_none rfl) rfl (y_move (v := Value.tuple ⟨_⟩) rfl rfl) ?_
      refine L0 (wanted_none rfl) rfl (y_extract rfl rfl rfl) ?_
      refine L0 (wanted_none rfl) rfl (y_extract rfl rfl rfl) ?_
      refine L0 (wanted_none rfl) rfl (y_assign (v := Value.string ⟨⟨_⟩⟩) rfl rfl) ?_
      refine L0 (wanted_none rfl) rfl (y_assign (v := _) rfl rfl) ?_
      refine Lnil ?_
      refine W_seq ?_
      refine W_seq ?_
      refine W_region ?_
      refine L0 (wanted_none rfl) rfl (y_move (v := _) rfl rfl) ?_
      refine L0 (wanted_none rfl) rfl (y_neNilNil rfl Tryd.underlying35 rfl) ?_
      refine L0 (wanted_none rfl) rfl (y_move (v := Value.bool _) rfl rfl) ?_
      refine L0 (wanted_yesB rfl rfl rfl rfl) rfl (y_move (v := _) rfl rfl) ?_
      refine L0 (wanted_yesB rfl rfl rfl rfl) rfl (y_neNil rfl Tryd.underlying35 rfl) ?_
      refine L0 (wanted_none rfl) rfl (y_pickF rfl rfl (rfl : false = false) rfl) ?_
      refine Lnil ?_
      refine W_condT rfl rfl ?_
      refine W_seq ?_
      refine W_region ?_
      refine L0 (wanted_none rfl) rfl (y_assign (v := Value.bool _) rfl rfl) ?_
      refine Lnil ?_
      refine W_ret ?_
      refine fin1 (fn := Tryd.f8) rfl rfl ?_
      first | exact ⟨rfl, hs22⟩ | (refine ⟨congrArg Value.bool ?_, hs22⟩; have ek : key = other := (by assumption); have ec : cell = ct := (by assumption); subst ek; subst ec; rw [beq_iff_eq, decide_eq_decide]; exact ⟨fun h => seal_inj v1.2 v2.2 h, fun h => by rw [h]⟩)
  · skip
    refine W_region ?_
    refine L0 (wanted_none rfl) rfl (y_move (v := Value.string ⟨⟨_⟩⟩) rfl rfl) ?_
    refine L0 (wanted_none rfl) rfl (y_move (v := Value.int _ _) rfl rfl) ?_
    refine L0 (wanted_none rfl) rfl (y_move (v := Value.string ⟨⟨_⟩⟩) rfl rfl) ?_
    refine Lc (wanted_none rfl) (c_call rfl rfl rfl Tryd.func36 (by kernel_rfl) rfl (seal_bad key text cell v1 w6) rfl ?_)
    rintro _ w23 ⟨⟨k1, rfl⟩, hc24⟩
    have hs25 := hs8.call0 hc24
    refine L0 (wanted_none rfl) rfl (y_move (v := Value.tuple ⟨_⟩) rfl rfl) ?_
    refine L0 (wanted_none rfl) rfl (y_extract rfl rfl rfl) ?_
    refine L0 (wanted_none rfl) rfl (y_extract rfl rfl rfl) ?_
    refine L0 (wanted_none rfl) rfl (y_assign (v := Value.string ⟨⟨_⟩⟩) rfl rfl) ?_
    refine L0 (wanted_none rfl) rfl (y_assign (v := _) rfl rfl) ?_
    refine Lnil ?_
    refine W_seq ?_
    by_cases v2 : okSeal other ct more
    · skip
      refine W_region ?_
      refine L0 (wanted_none rfl) rfl (y_move (v := Value.string ⟨⟨_⟩⟩) rfl rfl) ?_
      refine L0 (wanted_none rfl) rfl (y_move (v := Value.int _ _) rfl rfl) ?_
      refine L0 (wanted_none rfl) rfl (y_move (v := Value.string ⟨⟨_⟩⟩) rfl rfl) ?_
      refine Lc (wanted_none rfl) (c_call rfl rfl rfl Tryd.func36 (by kernel_rfl) rfl (seal_any other more ct v2.1.1 v2.1.2.1 v2.1.2.2 v2.2 w23 (hr.keep hs25 (by simp [keys]))) rfl ?_)
      rintro _ w26 ⟨rfl, hc27⟩
      have hs28 := hs25.call0 hc27
      refine L0 (wanted_none rfl) rfl (y_move (v := Value.tuple ⟨_⟩) rfl rfl) ?_
      refine L0 (wanted_none rfl) rfl (y_extract rfl rfl rfl) ?_
      refine L0 (wanted_none rfl) rfl (y_extract rfl rfl rfl) ?_
      refine L0 (wanted_none rfl) rfl (y_assign (v := Value.string ⟨⟨_⟩⟩) rfl rfl) ?_
      refine L0 (wanted_none rfl) rfl (y_assign (v := _) rfl rfl) ?_
      refine Lnil ?_
      refine W_seq ?_
      refine W_seq ?_
      refine W_region ?_
      refine L0 (wanted_none rfl) rfl (y_move (v := _) rfl rfl) ?_
      refine L0 (wanted_none rfl) rfl (y_neNil rfl Tryd.underlying35 rfl) ?_
      refine L0 (wanted_none rfl) rfl (y_move (v := Value.bool _) rfl rfl) ?_
      refine Lno (wanted_noB rfl rfl rfl rfl (by decide)) rfl ?_
      refine Lno (wanted_noB rfl rfl rfl rfl (by decide)) rfl ?_
      refine L0 (wanted_none rfl) rfl (y_pickT rfl rfl (rfl : true = true) rfl) ?_
      refine Lnil ?_
      refine W_condT rfl rfl ?_
      refine W_seq ?_
      refine W_region ?_
      refine L0 (wanted_none rfl) rfl (y_assign (v := Value.bool _) rfl rfl) ?_
      refine Lnil ?_
      refine W_ret ?_
      refine fin1 (fn := Tryd.f8) rfl rfl ?_
      first | exact ⟨rfl, hs28⟩ | (refine ⟨congrArg Value.bool ?_, hs28⟩; have ek : key = other := (by assumption); have ec : cell = ct := (by assumption); subst ek; subst ec; rw [beq_iff_eq, decide_eq_decide]; exact ⟨fun h => seal_inj v1.2 v2.2 h, fun h => by rw [h]⟩)
    · skip
      refine W_region ?_
      refine L0 (wanted_none rfl) rfl (y_move (v := Value.string ⟨⟨_⟩⟩) rfl rfl) ?_
      refine L0 (wanted_none rfl) rfl (y_move (v := Value.int _ _) rfl rfl) ?_
      refine L0 (wanted_none rfl) rfl (y_move (v := Value.string ⟨⟨_⟩⟩) rfl rfl) ?_
      refine Lc (wanted_none rfl) (c_call rfl rfl rfl Tryd.func36 (by kernel_rfl) rfl (seal_bad other more ct v2 w23) rfl ?_)
      rintro _ w29 ⟨⟨k2, rfl⟩, hc30⟩
      have hs31 := hs25.call0 hc30
      refine L0 (wanted_none rfl) rfl (y_move (v := Value.tuple ⟨_⟩) rfl rfl) ?_
      refine L0 (wanted_none rfl) rfl (y_extract rfl rfl rfl) ?_
      refine L0 (wanted_none rfl) rfl (y_extract rfl rfl rfl) ?_
      refine L0 (wanted_none rfl) rfl (y_assign (v := Value.string ⟨⟨_⟩⟩) rfl rfl) ?_
      refine L0 (wanted_none rfl) rfl (y_assign (v := _) rfl rfl) ?_
      refine Lnil ?_
      refine W_seq ?_
      refine W_seq ?_
      refine W_region ?_
      refine L0 (wanted_none rfl) rfl (y_move (v := _) rfl rfl) ?_
      refine L0 (wanted_none rfl) rfl (y_neNil rfl Tryd.underlying35 rfl) ?_
      refine L0 (wanted_none rfl) rfl (y_move (v := Value.bool _) rfl rfl) ?_
      refine Lno (wanted_noB rfl rfl rfl rfl (by decide)) rfl ?_
      refine Lno (wanted_noB rfl rfl rfl rfl (by decide)) rfl ?_
      refine L0 (wanted_none rfl) rfl (y_pickT rfl rfl (rfl : true = true) rfl) ?_
      refine Lnil ?_
      refine W_condT rfl rfl ?_
      refine W_seq ?_
      refine W_region ?_
      refine L0 (wanted_none rfl) rfl (y_assign (v := Value.bool _) rfl rfl) ?_
      refine Lnil ?_
      refine W_ret ?_
      refine fin1 (fn := Tryd.f8) rfl rfl ?_
      first | exact ⟨rfl, hs31⟩ | (refine ⟨congrArg Value.bool ?_, hs31⟩; have ek : key = other := (by assumption); have ec : cell = ct := (by assumption); subst ek; subst ec; rw [beq_iff_eq, decide_eq_decide]; exact ⟨fun h => seal_inj v1.2 v2.2 h, fun h => by rw [h]⟩)
end Go.Proofs.YtkolfgmpmnelmaaDoor
