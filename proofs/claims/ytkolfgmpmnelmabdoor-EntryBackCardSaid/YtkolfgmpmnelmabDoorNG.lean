/-
  Walk: keep.EntryBack, the function itself.
-/
import Derived.Test.YtkolfgmpmnelmabDoorNF
namespace Go.Proofs.YtkolfgmpmnelmabDoor.Ent
open Go Vx Go.Proofs Go.RowKit
set_option linter.unusedVariables false
set_option maxRecDepth 8000
set_option maxHeartbeats 1000000
theorem count10 : ∀ (l : List Fl), (∀ f ∈ l, FlP f) → (printed l).count 10 = l.length
  | [], _ => rfl
  | f :: l, h => by
    rw [printed_cons, List.count_append, List.count_eq_zero_of_not_mem (lb_no (h f (by simp))), List.count_cons, count10 l (fun g hg => h g (by simp [hg]))]
    simp
theorem RightP.count {l : List Fl} (h : RightP l) (c : Nat) : ((printed l).take c).count 10 ≤ l.length := by
  have h1 := count10 l (fun f hf => h.fl hf)
  have h2 : ((printed l).take c).count 10 ≤ (printed l).count 10 := List.Sublist.count_le _ (List.take_sublist _ _)
  omega
theorem RightP.head {l : List Fl} (h : RightP l) {c : Nat} (hc : c ≤ (printed l).length) (he : c = 0 ∨ (printed l).getD (c - 1) 0 = 10) : Reads ((printed l).take c) (some (l.take (((printed l).take c).count 10))) :=
  ⟨h.take _, (head_lines l c (fun f hf => h.fl hf) hc he).symm⟩
theorem head_bad {s : List UInt8} {c : Nat} (h0 : 0 < c) (hc : c ≤ s.length) (hb : s.getD (c - 1) 0 ≠ 10) : Reads (s.take c) none := by
  refine head_none (fun e => ?_) (fun e => ?_)
  · have := congrArg List.length e
    rw [List.length_take, List.length_nil] at this
    omega
  · rw [getLast_take h0 hc] at e
    exact hb (Option.some.inj e)
theorem byte10 {x : UInt8} (h : (x.toNat : Int) = 10) : x = 10 := UInt8.toNat_inj.1 (by show x.toNat = 10; omega)
theorem entryBack_any (l : List Fl) (v0 : Value) (vc : Nat → Value) (s : List UInt8) (cut : Int) (hl : l.length ≤ 9223372036854775807) (w : World) (hF : FlsAt w v0 l vc) (hE : EntAt w) : C Tryd.prog 8 ⟨[v0, str s, iv cut]⟩ w fun v w' => v = .bool true ∧ St w [] w' := by
  obtain ⟨a0, cap0, hv0, hroom⟩ := hF.room
  refine C_enter (n := 101) Tryd.func8 rfl rfl rfl (fun w1 hs1 => ?_)
  refine W_seq ?_
  refine W_region ?_
  refine L0 (wanted_none rfl) rfl (y_assign (v := Value.bool _) rfl rfl) ?_
  refine Lnil ?_
  refine W_seq ?_
  refine W_seq ?_
  refine W_region ?_
  refine L0 (wanted_none rfl) rfl (y_move (v := v0) rfl rfl) ?_
  refine Lc (wanted_none rfl) (c_call rfl rfl rfl Tryd.func56 (by kernel_rfl) rfl (held_any l v0 vc hl w1 (hF.keep0 hs1)) rfl ?_)
  rintro vh w2 ⟨⟨bo, rfl, hbo⟩, hc3⟩
  have hs4 := hs1.call0 hc3
  refine L0 (wanted_none rfl) rfl (y_not rfl rfl) ?_
  refine L0 (wanted_none rfl) rfl (y_move (v := Value.bool _) rfl rfl) ?_
  refine Lsp (t := 17) rfl (fun h5 => ?_) (fun h5 => ?_)
  · have h5' := h5
    first | replace h5' := of_decide_eq_true h5' | replace h5' := bnT' h5' | skip
    refine Lno (wanted_noB rfl rfl rfl h5 (by decide)) rfl ?_
    refine Lno (wanted_noB rfl rfl rfl h5 (by decide)) rfl ?_
    refine Lno (wanted_noB rfl rfl rfl h5 (by decide)) rfl ?_
    refine L0 (wanted_none rfl) rfl (y_pickT rfl rfl h5 rfl) ?_
    refine Lnil ?_
    refine W_condT rfl rfl ?_
    refine W_seq ?_
    refine W_region ?_
    refine L0 (wanted_none rfl) rfl (y_assign (v := Value.bool _) rfl rfl) ?_
    refine Lnil ?_
    refine W_ret ?_
    refine fin1 (fn := Tryd.f8) rfl rfl ?_
    first | exact ⟨rfl, hsA.trans0 (hsB.trans0 (hsC.trans0 hs4))⟩ | exact ⟨congrArg Value.bool (decide_eq_true rfl), hsA.trans0 (hsB.trans0 (hsC.trans0 hs4))⟩ | exact ⟨rfl, hsA.trans0 (hsB.trans0 hs4)⟩ | exact ⟨rfl, hsA.trans0 hs4⟩ | exact ⟨rfl, hs4⟩
  · have h5' := h5
    first | replace h5' := of_decide_eq_false h5' | replace h5' := bnF' h5' | skip
    refine L0 (wanted_yesB rfl rfl rfl h5) rfl (y_move (v := Value.string ⟨⟨_⟩⟩) rfl rfl) ?_
    refine L0 (wanted_yesB rfl rfl rfl h5) rfl (y_len rfl Tryd.underlying9 rfl) ?_
    refine L0 (wanted_yesB rfl rfl rfl h5) rfl (y_gt rfl rfl rfl) ?_
    refine L0 (wanted_none rfl) rfl (y_pickF rfl rfl h5 rfl) ?_
    refine Lnil ?_
    refine Wsp (t := 21) rfl (fun h6 => ?_) (fun h6 => ?_)
    · have h6' := h6
      first | replace h6' := of_decide_eq_true h6' | replace h6' := bnT' h6' | skip
      refine W_condT rfl h6 ?_
      refine W_seq ?_
      refine W_region ?_
      refine L0 (wanted_none rfl) rfl (y_assign (v := Value.bool _) rfl rfl) ?_
      refine Lnil ?_
      refine W_ret ?_
      refine fin1 (fn := Tryd.f8) rfl rfl ?_
      first | exact ⟨rfl, hsA.trans0 (hsB.trans0 (hsC.trans0 hs4))⟩ | exact ⟨congrArg Value.bool (decide_eq_true rfl), hsA.trans0 (hsB.trans0 (hsC.trans0 hs4))⟩ | exact ⟨rfl, hsA.trans0 (hsB.trans0 hs4)⟩ | exact ⟨rfl, hsA.trans0 hs4⟩ | exact ⟨rfl, hs4⟩
    · have h6' := h6
      first | replace h6' := of_decide_eq_false h6' | replace h6' := bnF' h6' | skip
      refine W_condF rfl h6 ?_
      refine W_skip ?_
      refine W_seq ?_
      refine W_seq ?_
      have hheld := hbo (by simpa using ‹(!bo) = false›)
      have hlc : ∀ f ∈ l, f.cs.length ≤ 9223372036854775807 := fun f hf => by have := (hheld.2 f hf).2; omega
      refine W_region ?_
      refine Lc (wanted_none rfl) (c_call rfl rfl rfl Tryd.func57 (by kernel_rfl) rfl (entered_any w2 (hE.keep0 hs4)) rfl ?_)
      rintro _ w7 ⟨rfl, hc8⟩
      have hs9 := hs4.call0 hc8
      refine L0 (wanted_none rfl) rfl (y_not rfl rfl) ?_
      refine Lnil ?_
      refine Wkn (t := 23) (b0 := false) rfl (by rfl) (fun h10 => ?_)
      refine W_condF rfl h10 ?_
      refine W_skip ?_
      refine W_seq ?_
      refine W_seq ?_
      refine W_region ?_
      refine L0 (wanted_none rfl) rfl (y_move (v := Value.string ⟨⟨_⟩⟩) rfl rfl) ?_
      refine Lc (wanted_none rfl) (c_call rfl rfl rfl Tryd.func58 (by kernel_rfl) rfl (parse2_any s (by omega) w7 (hE.keep0 hs9)) rfl ?_)
      rintro vp w11 ⟨⟨vl1, e1, r1, rfl, hr1, hn1, hm1⟩, hc12⟩
      have hsA := hs9.call0 hc12
      have hs13 := St.init w11
      have hF1 := hF.keep0 hsA
      have hE1 := hE.keep0 hsA
      refine L0 (wanted_none rfl) rfl (y_move (v := Value.tuple ⟨_⟩) rfl rfl) ?_
      refine L0 (wanted_none rfl) rfl (y_extract rfl rfl rfl) ?_
      refine L0 (wanted_none rfl) rfl (y_extract rfl rfl rfl) ?_
      refine L0 (wanted_none rfl) rfl (y_assign (v := vl1) rfl rfl) ?_
      refine L0 (wanted_none rfl) rfl (y_assign (v := _) rfl rfl) ?_
      refine Lnil ?_
      refine W_seq ?_
      by_cases hsm : ∃ m, r1 = some m
      · skip
        obtain ⟨m1, rfl⟩ := hsm
        obtain ⟨rfl, vc1, hFm1⟩ := hm1 m1 rfl
        obtain ⟨hRm1, hpm1⟩ : RightP m1 ∧ printed m1 = s := hr1
        refine W_region ?_
        refine L0 (wanted_none rfl) rfl (y_move (v := _) rfl rfl) ?_
        refine L0 (wanted_none rfl) rfl (y_eqNilNil rfl Tryd.underlying32 rfl) ?_
        refine Lnil ?_
        refine W_condT rfl rfl ?_
        refine W_seq ?_
        refine W_region ?_
        refine L0 (wanted_none rfl) rfl (y_move (v := vl1) rfl rfl) ?_
        refine Lc (wanted_none rfl) (c_call rfl rfl rfl Tryd.func59 (by kernel_rfl) rfl (print2_any m1 vl1 vc1 w11 (hFm1.keep0 hs13) (hE1.keep0 hs13)) rfl ?_)
        rintro vp w14 ⟨⟨t1, ev1, rfl, hq1, _⟩, hc15⟩
        have hs16 := hs13.call0 hc15
        obtain ⟨rfl, rfl⟩ := hq1 hRm1
        refine L0 (wanted_none rfl) rfl (y_move (v := Value.tuple ⟨_⟩) rfl rfl) ?_
        refine L0 (wanted_none rfl) rfl (y_extract rfl rfl rfl) ?_
        refine L0 (wanted_none rfl) rfl (y_extract rfl rfl rfl) ?_
        refine L0 (wanted_none rfl) rfl (y_assign (v := Value.string ⟨⟨_⟩⟩) rfl rfl) ?_
        refine L0 (wanted_none rfl) rfl (y_assign (v := _) rfl rfl) ?_
        refine Lnil ?_
        refine W_seq ?_
        refine W_region ?_
        refine L0 (wanted_none rfl) rfl (y_move (v := _) rfl rfl) ?_
        refine L0 (wanted_none rfl) rfl (y_neNilNil rfl Tryd.underlying32 rfl) ?_
        refine L0 (wanted_none rfl) rfl (y_move (v := Value.bool _) rfl rfl) ?_
        refine L0 (wanted_yesB rfl rfl rfl rfl) rfl (y_move (v := Value.string ⟨⟨_⟩⟩) rfl rfl) ?_
        refine L0 (wanted_yesB rfl rfl rfl rfl) rfl (y_move (v := Value.string ⟨⟨_⟩⟩) rfl rfl) ?_
        refine L0 (wanted_yesB rfl rfl rfl rfl) rfl (y_sne rfl rfl rfl) ?_
        refine L0 (wanted_none rfl) rfl (y_pickF rfl rfl (rfl : false = false) rfl) ?_
        refine Lnil ?_
        refine Wkn (t := 42) (b0 := false) rfl (by exact bnF hpm1) (fun h17 => ?_)
        refine W_condF rfl h17 ?_
        refine W_skip ?_
        refine W_seq ?_
        refine W_region ?_
        refine L0 (wanted_none rfl) rfl (y_move (v := v0) rfl rfl) ?_
        refine Lc (wanted_none rfl) (c_call rfl rfl rfl Tryd.func59 (by kernel_rfl) rfl (print2_any l v0 vc w14 (hF1.keep0 hs16) (hE1.keep0 hs16)) rfl ?_)
        rintro vp w18 ⟨⟨t2, ev2, rfl, hp1, hp2⟩, hc19⟩
        have hs20 := hs16.call0 hc19
        refine L0 (wanted_none rfl) rfl (y_move (v := Value.tuple ⟨_⟩) rfl rfl) ?_
        refine L0 (wanted_none rfl) rfl (y_extract rfl rfl rfl) ?_
        refine L0 (wanted_none rfl) rfl (y_extract rfl rfl rfl) ?_
        refine L0 (wanted_none rfl) rfl (y_assign (v := Value.string ⟨⟨_⟩⟩) rfl rfl) ?_
        refine L0 (wanted_none rfl) rfl (y_assign (v := _) rfl rfl) ?_
        refine Lnil ?_
        refine W_seq ?_
        refine W_seq ?_
        by_cases hRP : RightP l
        · skip
          obtain ⟨rfl, rfl⟩ := hp1 hRP
          have h240 := hRP.len240
          refine W_region ?_
          refine L0 (wanted_none rfl) rfl (y_move (v := _) rfl rfl) ?_
          refine L0 (wanted_none rfl) rfl (y_neNilNil rfl Tryd.underlying32 rfl) ?_
          refine Lnil ?_
          refine W_condF rfl rfl ?_
          refine W_skip ?_
          refine W_seq ?_
          refine W_region ?_
          refine L0 (wanted_none rfl) rfl (y_move (v := Value.string ⟨⟨_⟩⟩) rfl rfl) ?_
          refine Lc (wanted_none rfl) (c_call rfl rfl rfl Tryd.func58 (by kernel_rfl) rfl (parse2_any (printed l) (by have := hRP.len240; omega) w18 (hE1.keep0 hs20)) rfl ?_)
          rintro vp w21 ⟨⟨vl2, e2, r2, rfl, hr2, hn2, hm2⟩, hc22⟩
          have hsB := hs20.call0 hc22
          have hs23 := St.init w21
          have hF2 := hF1.keep0 hsB
          have hE2 := hE1.keep0 hsB
          obtain rfl := hr2.unique (show Reads (printed l) (some l) from ⟨hRP, rfl⟩)
          obtain ⟨rfl, vc2, hFm2⟩ := hm2 l rfl
          refine L0 (wanted_none rfl) rfl (y_move (v := Value.tuple ⟨_⟩) rfl rfl) ?_
          refine L0 (wanted_none rfl) rfl (y_extract rfl rfl rfl) ?_
          refine L0 (wanted_none rfl) rfl (y_extract rfl rfl rfl) ?_
          refine L0 (wanted_none rfl) rfl (y_assign rfl rfl) ?_
          refine L0 (wanted_none rfl) rfl (y_assign (v := _) rfl rfl) ?_
          refine Lnil ?_
          refine W_seq ?_
          refine W_seq ?_
          refine W_region ?_
          refine L0 (wanted_none rfl) rfl (y_move (v := _) rfl rfl) ?_
          refine L0 (wanted_none rfl) rfl (y_neNilNil rfl Tryd.underlying32 rfl) ?_
          refine L0 (wanted_none rfl) rfl (y_move (v := Value.bool _) rfl rfl) ?_
          refine L0 (wanted_yesB rfl rfl rfl rfl) rfl (y_move (v := vl2) rfl rfl) ?_
          refine L0 (wanted_yesB rfl rfl rfl rfl) rfl (y_move (v := v0) rfl rfl) ?_
          refine Lc (wanted_yesB rfl rfl rfl rfl) (c_call rfl rfl rfl Tryd.func61 (by kernel_rfl) rfl (same_any l l vl2 v0 vc2 vc hl hlc w21 (hFm2.keep0 hs23) (hF2.keep0 hs23)) rfl ?_)
          rintro _ w24 ⟨rfl, hc25⟩
          have hs26 := hs23.call0 hc25
          refine L0 (wanted_yesB rfl rfl rfl rfl) rfl (y_not rfl rfl) ?_
          refine L0 (wanted_none rfl) rfl (y_pickF rfl rfl (rfl : false = false) rfl) ?_
          refine Lnil ?_
          refine Wkn (t := 65) (b0 := false) rfl (by exact bnF rfl) (fun h27 => ?_)
          refine W_condF rfl h27 ?_
          refine W_skip ?_
          refine W_seq ?_
          refine W_region ?_
          refine L0 (wanted_none rfl) rfl (y_move (v := Value.int _ _) rfl rfl) ?_
          refine L0 (wanted_none rfl) rfl (y_move (v := Value.string ⟨⟨_⟩⟩) rfl rfl) ?_
          refine L0 (wanted_none rfl) rfl (y_len rfl Tryd.underlying9 rfl) ?_
          refine L0 (wanted_none rfl) rfl (y_add64 rfl rfl rfl (by omega)) ?_
          refine Lc (wanted_none rfl) (c_call rfl rfl rfl Tryd.func14 (by kernel_rfl) rfl (pick_any cut ((printed l).length + 1) (by omega) (by omega) w24) rfl ?_)
          rintro vp w28 ⟨rfl, hc29⟩
          have hs30 := hs26.call0 hc29
          have hpr := pickOf_range (a := cut) (n := ((printed l).length : Int) + 1) (by omega)
          obtain ⟨c, hcn⟩ : ∃ c : Nat, pickOf cut (((printed l).length : Int) + 1) = (c : Int) := ⟨(pickOf cut (((printed l).length : Int) + 1)).toNat, by omega⟩
          rw [hcn] at hpr ⊢
          refine L0 (wanted_none rfl) rfl (y_assign (v := Value.int _ _) rfl rfl) ?_
          refine Lnil ?_
          refine W_seq ?_
          refine W_region ?_
          refine L0 (wanted_none rfl) rfl (y_move (v := Value.string ⟨⟨_⟩⟩) rfl rfl) ?_
          refine L0 (wanted_none rfl) rfl (y_move (v := Value.int _ _) rfl rfl) ?_
          refine L0 (wanted_none rfl) rfl (y_sslice_hi rfl Tryd.underlying9 rfl rfl (by omega)) ?_
          refine Lc (wanted_none rfl) (c_call rfl rfl rfl Tryd.func58 (by kernel_rfl) rfl (parse2_any ((printed l).take ((c : Nat) : Int).toNat) (by rw [List.length_take]; omega) w28 (hE2.keep0 hs30)) rfl ?_)
          rintro vp w31 ⟨⟨vl3, e3, r3, rfl, hr3, hn3, hm3⟩, hc32⟩
          have hsC := hs30.call0 hc32
          have hs33 := St.init w31
          have hF3 := hF2.keep0 hsC
          have hr3 : Reads ((printed l).take c) r3 := hr3
          refine L0 (wanted_none rfl) rfl (y_move (v := Value.tuple ⟨_⟩) rfl rfl) ?_
          refine L0 (wanted_none rfl) rfl (y_extract rfl rfl rfl) ?_
          refine L0 (wanted_none rfl) rfl (y_extract rfl rfl rfl) ?_
          refine L0 (wanted_none rfl) rfl (y_assign rfl rfl) ?_
          refine L0 (wanted_none rfl) rfl (y_assign (v := _) rfl rfl) ?_
          refine Lnil ?_
          refine W_seq ?_
          refine W_seq ?_
          refine W_region ?_
          refine L0 (wanted_none rfl) rfl (y_move (v := Value.int _ _) rfl rfl) ?_
          refine L0 (wanted_none rfl) rfl (y_gt rfl rfl rfl) ?_
          refine L0 (wanted_none rfl) rfl (y_move (v := Value.bool _) rfl rfl) ?_
          refine Lsp (t := 80) rfl (fun h34 => ?_) (fun h34 => ?_)
          · have h34' := h34
            first | replace h34' := of_decide_eq_true h34' | replace h34' := bnT' h34' | skip
            refine L0 (wanted_yesB rfl rfl rfl h34) rfl (y_move (v := Value.string ⟨⟨_⟩⟩) rfl rfl) ?_
            refine L0 (wanted_yesB rfl rfl rfl h34) rfl (y_move (v := Value.int _ _) rfl rfl) ?_
            refine L0 (wanted_yesB rfl rfl rfl h34) rfl (y_sub64 rfl rfl rfl (by omega)) ?_
            refine L0 (wanted_yesB rfl rfl rfl h34) rfl (y_sindex rfl Tryd.underlying9 rfl rfl (by omega) (by omega)) ?_
            refine L0 (wanted_yesB rfl rfl rfl h34) rfl (y_ne rfl rfl rfl) ?_
            refine L0 (wanted_none rfl) rfl (y_pickT rfl rfl h34 rfl) ?_
            refine Lnil ?_
            refine Wsp (t := 86) rfl (fun h35 => ?_) (fun h35 => ?_)
            · have h35' := h35
              first | replace h35' := of_decide_eq_true h35' | replace h35' := bnT' h35' | skip
              refine W_condT rfl h35 ?_
              refine W_seq ?_
              have e9 : ((c : Int) - 1).toNat = c - 1 := by omega
              have hx9 : ¬ (((printed l).getD ((c : Int) - 1).toNat 0).toNat : Int) = 10 := by assumption
              have hbad : (printed l).getD (c - 1) 0 ≠ 10 := fun h => hx9 (by rw [e9, h]; rfl)
              obtain rfl := hr3.unique (head_bad (by omega) (by omega) hbad)
              obtain rfl := hn3 rfl
              refine W_region ?_
              refine L0 (wanted_none rfl) rfl (y_move (v := _) rfl rfl) ?_
              refine L0 (wanted_none rfl) rfl (y_neNil rfl Tryd.underlying32 rfl) ?_
              refine L0 (wanted_none rfl) rfl (y_assign (v := Value.bool _) rfl rfl) ?_
              refine Lnil ?_
              refine W_ret ?_
              refine fin1 (fn := Tryd.f8) rfl rfl ?_
              first | exact ⟨rfl, hsA.trans0 (hsB.trans0 (hsC.trans0 hs33))⟩ | exact ⟨congrArg Value.bool (decide_eq_true rfl), hsA.trans0 (hsB.trans0 (hsC.trans0 hs33))⟩ | exact ⟨rfl, hsA.trans0 (hsB.trans0 hs33)⟩ | exact ⟨rfl, hsA.trans0 hs33⟩ | exact ⟨rfl, hs33⟩
            · have h35' := h35
              first | replace h35' := of_decide_eq_false h35' | replace h35' := bnF' h35' | skip
              refine W_condF rfl h35 ?_
              refine W_skip ?_
              refine W_seq ?_
              have hgood : c = 0 ∨ (printed l).getD (c - 1) 0 = 10 := by
                first
                | (left; omega)
                | (right; have e9 : ((c : Int) - 1).toNat = c - 1 := by omega
                   have hx9 : (((printed l).getD ((c : Int) - 1).toNat 0).toNat : Int) = 10 := by assumption
                   rw [e9] at hx9; exact byte10 hx9)
              obtain rfl := hr3.unique (hRP.head (by omega) hgood)
              obtain ⟨rfl, vc3, hFm3⟩ := hm3 _ rfl
              refine W_region ?_
              refine L0 (wanted_none rfl) rfl (y_move (v := _) rfl rfl) ?_
              refine L0 (wanted_none rfl) rfl (y_eqNilNil rfl Tryd.underlying32 rfl) ?_
              refine L0 (wanted_none rfl) rfl (y_move (v := Value.bool _) rfl rfl) ?_
              refine L0 (wanted_yesB rfl rfl rfl rfl) rfl (y_move (v := vl3) rfl rfl) ?_
              refine L0 (wanted_yesB rfl rfl rfl rfl) rfl (y_move (v := v0) rfl rfl) ?_
              refine L0 (wanted_yesB rfl rfl rfl rfl) rfl (y_move (v := Value.string ⟨⟨_⟩⟩) rfl rfl) ?_
              refine L0 (wanted_yesB rfl rfl rfl rfl) rfl (y_move (v := Value.int _ _) rfl rfl) ?_
              refine L0 (wanted_yesB rfl rfl rfl rfl) rfl (y_sslice_hi rfl Tryd.underlying9 rfl rfl (by omega)) ?_
              refine Lc (wanted_yesB rfl rfl rfl rfl) (c_call rfl rfl rfl Tryd.func62 (by kernel_rfl) rfl (count_one ((printed l).take ((c : Nat) : Int).toNat) 10 w31) rfl ?_)
              rintro _ w36 ⟨rfl, hc37⟩
              have hs38 := hs33.call0 hc37
              refine L0 (wanted_yesB rfl rfl rfl rfl) rfl (y_flHi (a := a0) (cap := cap0) (m := l.length) rfl Tryd.underlying87 sz97 hv0 rfl (by have := hRP.count c; simp only [show ((c : Nat) : Int).toNat = c from rfl]; omega)) ?_
              refine Lc (wanted_yesB rfl rfl rfl rfl) (c_call rfl rfl rfl Tryd.func61 (by kernel_rfl) rfl (same_any (l.take (((printed l).take c).count 10)) (l.take (((printed l).take c).count 10)) vl3 _ vc3 vc (by rw [List.length_take]; omega) (fun f hf => hlc f (List.mem_of_mem_take hf)) w36 (hFm3.keep0 hs38) ((hF3.keep0 hs38).take (hRP.count c) hv0)) rfl ?_)
              rintro _ w39 ⟨rfl, hc40⟩
              have hs41 := hs38.call0 hc40
              refine L0 (wanted_none rfl) rfl (y_pickT rfl rfl (rfl : true = true) rfl) ?_
              refine L0 (wanted_none rfl) rfl (y_assign (v := Value.bool _) rfl rfl) ?_
              refine Lnil ?_
              refine W_ret ?_
              refine fin1 (fn := Tryd.f8) rfl rfl ?_
              first | exact ⟨rfl, hsA.trans0 (hsB.trans0 (hsC.trans0 hs41))⟩ | exact ⟨congrArg Value.bool (decide_eq_true rfl), hsA.trans0 (hsB.trans0 (hsC.trans0 hs41))⟩ | exact ⟨rfl, hsA.trans0 (hsB.trans0 hs41)⟩ | exact ⟨rfl, hsA.trans0 hs41⟩ | exact ⟨rfl, hs41⟩
          · have h34' := h34
            first | replace h34' := of_decide_eq_false h34' | replace h34' := bnF' h34' | skip
            refine Lno (wanted_noB rfl rfl rfl h34 (by decide)) rfl ?_
            refine Lno (wanted_noB rfl rfl rfl h34 (by decide)) rfl ?_
            refine Lno (wanted_noB rfl rfl rfl h34 (by decide)) rfl ?_
            refine Lno (wanted_noB rfl rfl rfl h34 (by decide)) rfl ?_
            refine Lno (wanted_noB rfl rfl rfl h34 (by decide)) rfl ?_
            refine L0 (wanted_none rfl) rfl (y_pickF rfl rfl h34 rfl) ?_
            refine Lnil ?_
            refine W_condF rfl rfl ?_
            refine W_skip ?_
            refine W_seq ?_
            have hgood : c = 0 ∨ (printed l).getD (c - 1) 0 = 10 := by
              first
              | (left; omega)
              | (right; have e9 : ((c : Int) - 1).toNat = c - 1 := by omega
                 have hx9 : (((printed l).getD ((c : Int) - 1).toNat 0).toNat : Int) = 10 := by assumption
                 rw [e9] at hx9; exact byte10 hx9)
            obtain rfl := hr3.unique (hRP.head (by omega) hgood)
            obtain ⟨rfl, vc3, hFm3⟩ := hm3 _ rfl
            refine W_region ?_
            refine L0 (wanted_none rfl) rfl (y_move (v := _) rfl rfl) ?_
            refine L0 (wanted_none rfl) rfl (y_eqNilNil rfl Tryd.underlying32 rfl) ?_
            refine L0 (wanted_none rfl) rfl (y_move (v := Value.bool _) rfl rfl) ?_
            refine L0 (wanted_yesB rfl rfl rfl rfl) rfl (y_move (v := vl3) rfl rfl) ?_
            refine L0 (wanted_yesB rfl rfl rfl rfl) rfl (y_move (v := v0) rfl rfl) ?_
            refine L0 (wanted_yesB rfl rfl rfl rfl) rfl (y_move (v := Value.string ⟨⟨_⟩⟩) rfl rfl) ?_
            refine L0 (wanted_yesB rfl rfl rfl rfl) rfl (y_move (v := Value.int _ _) rfl rfl) ?_
            refine L0 (wanted_yesB rfl rfl rfl rfl) rfl (y_sslice_hi rfl Tryd.underlying9 rfl rfl (by omega)) ?_
            refine Lc (wanted_yesB rfl rfl rfl rfl) (c_call rfl rfl rfl Tryd.func62 (by kernel_rfl) rfl (count_one ((printed l).take ((c : Nat) : Int).toNat) 10 w31) rfl ?_)
            rintro _ w42 ⟨rfl, hc43⟩
            have hs44 := hs33.call0 hc43
            refine L0 (wanted_yesB rfl rfl rfl rfl) rfl (y_flHi (a := a0) (cap := cap0) (m := l.length) rfl Tryd.underlying87 sz97 hv0 rfl (by have := hRP.count c; simp only [show ((c : Nat) : Int).toNat = c from rfl]; omega)) ?_
            refine Lc (wanted_yesB rfl rfl rfl rfl) (c_call rfl rfl rfl Tryd.func61 (by kernel_rfl) rfl (same_any (l.take (((printed l).take c).count 10)) (l.take (((printed l).take c).count 10)) vl3 _ vc3 vc (by rw [List.length_take]; omega) (fun f hf => hlc f (List.mem_of_mem_take hf)) w42 (hFm3.keep0 hs44) ((hF3.keep0 hs44).take (hRP.count c) hv0)) rfl ?_)
            rintro _ w45 ⟨rfl, hc46⟩
            have hs47 := hs44.call0 hc46
            refine L0 (wanted_none rfl) rfl (y_pickT rfl rfl (rfl : true = true) rfl) ?_
            refine L0 (wanted_none rfl) rfl (y_assign (v := Value.bool _) rfl rfl) ?_
            refine Lnil ?_
            refine W_ret ?_
            refine fin1 (fn := Tryd.f8) rfl rfl ?_
            first | exact ⟨rfl, hsA.trans0 (hsB.trans0 (hsC.trans0 hs47))⟩ | exact ⟨congrArg Value.bool (decide_eq_true rfl), hsA.trans0 (hsB.trans0 (hsC.trans0 hs47))⟩ | exact ⟨rfl, hsA.trans0 (hsB.trans0 hs47)⟩ | exact ⟨rfl, hsA.trans0 hs47⟩ | exact ⟨rfl, hs47⟩
        · skip
          obtain ⟨rfl, rfl⟩ := hp2 hRP
          refine W_region ?_
          refine L0 (wanted_none rfl) rfl (y_move (v := _) rfl rfl) ?_
          refine L0 (wanted_none rfl) rfl (y_neNil rfl Tryd.underlying32 rfl) ?_
          refine Lnil ?_
          refine W_condT rfl rfl ?_
          refine W_seq ?_
          refine W_region ?_
          refine L0 (wanted_none rfl) rfl (y_move (v := v0) rfl rfl) ?_
          refine Lc (wanted_none rfl) (c_call rfl rfl rfl Tryd.func60 (by kernel_rfl) rfl (right_any l v0 vc w18 (hF1.keep0 hs20)) rfl ?_)
          rintro vp w48 ⟨⟨bo2, rfl, hbo2⟩, hc49⟩
          have hs50 := hs20.call0 hc49
          obtain rfl : bo2 = false := by cases hb2 : bo2 with | false => rfl | true => exact absurd (hbo2.1 hb2) hRP
          refine L0 (wanted_none rfl) rfl (y_not rfl rfl) ?_
          refine L0 (wanted_none rfl) rfl (y_assign (v := Value.bool _) rfl rfl) ?_
          refine Lnil ?_
          refine W_ret ?_
          refine fin1 (fn := Tryd.f8) rfl rfl ?_
          first | exact ⟨rfl, hsA.trans0 (hsB.trans0 (hsC.trans0 hs50))⟩ | exact ⟨congrArg Value.bool (decide_eq_true rfl), hsA.trans0 (hsB.trans0 (hsC.trans0 hs50))⟩ | exact ⟨rfl, hsA.trans0 (hsB.trans0 hs50)⟩ | exact ⟨rfl, hsA.trans0 hs50⟩ | exact ⟨rfl, hs50⟩
      · skip
        have hr1n : r1 = none := by cases r1 with | none => rfl | some m => exact absurd ⟨m, rfl⟩ hsm
        obtain rfl := hn1 hr1n
        refine W_region ?_
        refine L0 (wanted_none rfl) rfl (y_move (v := _) rfl rfl) ?_
        refine L0 (wanted_none rfl) rfl (y_eqNil rfl Tryd.underlying32 rfl) ?_
        refine Lnil ?_
        refine W_condF rfl rfl ?_
        refine W_skip ?_
        refine W_seq ?_
        refine W_region ?_
        refine L0 (wanted_none rfl) rfl (y_move (v := v0) rfl rfl) ?_
        refine Lc (wanted_none rfl) (c_call rfl rfl rfl Tryd.func59 (by kernel_rfl) rfl (print2_any l v0 vc w11 (hF1.keep0 hs13) (hE1.keep0 hs13)) rfl ?_)
        rintro vp w51 ⟨⟨t2, ev2, rfl, hp1, hp2⟩, hc52⟩
        have hs53 := hs13.call0 hc52
        refine L0 (wanted_none rfl) rfl (y_move (v := Value.tuple ⟨_⟩) rfl rfl) ?_
        refine L0 (wanted_none rfl) rfl (y_extract rfl rfl rfl) ?_
        refine L0 (wanted_none rfl) rfl (y_extract rfl rfl rfl) ?_
        refine L0 (wanted_none rfl) rfl (y_assign (v := Value.string ⟨⟨_⟩⟩) rfl rfl) ?_
        refine L0 (wanted_none rfl) rfl (y_assign (v := _) rfl rfl) ?_
        refine Lnil ?_
        refine W_seq ?_
        refine W_seq ?_
        by_cases hRP : RightP l
        · skip
          obtain ⟨rfl, rfl⟩ := hp1 hRP
          have h240 := hRP.len240
          refine W_region ?_
          refine L0 (wanted_none rfl) rfl (y_move (v := _) rfl rfl) ?_
          refine L0 (wanted_none rfl) rfl (y_neNilNil rfl Tryd.underlying32 rfl) ?_
          refine Lnil ?_
          refine W_condF rfl rfl ?_
          refine W_skip ?_
          refine W_seq ?_
          refine W_region ?_
          refine L0 (wanted_none rfl) rfl (y_move (v := Value.string ⟨⟨_⟩⟩) rfl rfl) ?_
          refine Lc (wanted_none rfl) (c_call rfl rfl rfl Tryd.func58 (by kernel_rfl) rfl (parse2_any (printed l) (by have := hRP.len240; omega) w51 (hE1.keep0 hs53)) rfl ?_)
          rintro vp w54 ⟨⟨vl2, e2, r2, rfl, hr2, hn2, hm2⟩, hc55⟩
          have hsB := hs53.call0 hc55
          have hs56 := St.init w54
          have hF2 := hF1.keep0 hsB
          have hE2 := hE1.keep0 hsB
          obtain rfl := hr2.unique (show Reads (printed l) (some l) from ⟨hRP, rfl⟩)
          obtain ⟨rfl, vc2, hFm2⟩ := hm2 l rfl
          refine L0 (wanted_none rfl) rfl (y_move (v := Value.tuple ⟨_⟩) rfl rfl) ?_
          refine L0 (wanted_none rfl) rfl (y_extract rfl rfl rfl) ?_
          refine L0 (wanted_none rfl) rfl (y_extract rfl rfl rfl) ?_
          refine L0 (wanted_none rfl) rfl (y_assign rfl rfl) ?_
          refine L0 (wanted_none rfl) rfl (y_assign (v := _) rfl rfl) ?_
          refine Lnil ?_
          refine W_seq ?_
          refine W_seq ?_
          refine W_region ?_
          refine L0 (wanted_none rfl) rfl (y_move (v := _) rfl rfl) ?_
          refine L0 (wanted_none rfl) rfl (y_neNilNil rfl Tryd.underlying32 rfl) ?_
          refine L0 (wanted_none rfl) rfl (y_move (v := Value.bool _) rfl rfl) ?_
          refine L0 (wanted_yesB rfl rfl rfl rfl) rfl (y_move (v := vl2) rfl rfl) ?_
          refine L0 (wanted_yesB rfl rfl rfl rfl) rfl (y_move (v := v0) rfl rfl) ?_
          refine Lc (wanted_yesB rfl rfl rfl rfl) (c_call rfl rfl rfl Tryd.func61 (by kernel_rfl) rfl (same_any l l vl2 v0 vc2 vc hl hlc w54 (hFm2.keep0 hs56) (hF2.keep0 hs56)) rfl ?_)
          rintro _ w57 ⟨rfl, hc58⟩
          have hs59 := hs56.call0 hc58
          refine L0 (wanted_yesB rfl rfl rfl rfl) rfl (y_not rfl rfl) ?_
          refine L0 (wanted_none rfl) rfl (y_pickF rfl rfl (rfl : false = false) rfl) ?_
          refine Lnil ?_
          refine Wkn (t := 65) (b0 := false) rfl (by exact bnF rfl) (fun h60 => ?_)
          refine W_condF rfl h60 ?_
          refine W_skip ?_
          refine W_seq ?_
          refine W_region ?_
          refine L0 (wanted_none rfl) rfl (y_move (v := Value.int _ _) rfl rfl) ?_
          refine L0 (wanted_none rfl) rfl (y_move (v := Value.string ⟨⟨_⟩⟩) rfl rfl) ?_
          refine L0 (wanted_none rfl) rfl (y_len rfl Tryd.underlying9 rfl) ?_
          refine L0 (wanted_none rfl) rfl (y_add64 rfl rfl rfl (by omega)) ?_
          refine Lc (wanted_none rfl) (c_call rfl rfl rfl Tryd.func14 (by kernel_rfl) rfl (pick_any cut ((printed l).length + 1) (by omega) (by omega) w57) rfl ?_)
          rintro vp w61 ⟨rfl, hc62⟩
          have hs63 := hs59.call0 hc62
          have hpr := pickOf_range (a := cut) (n := ((printed l).length : Int) + 1) (by omega)
          obtain ⟨c, hcn⟩ : ∃ c : Nat, pickOf cut (((printed l).length : Int) + 1) = (c : Int) := ⟨(pickOf cut (((printed l).length : Int) + 1)).toNat, by omega⟩
          rw [hcn] at hpr ⊢
          refine L0 (wanted_none rfl) rfl (y_assign (v := Value.int _ _) rfl rfl) ?_
          refine Lnil ?_
          refine W_seq ?_
          refine W_region ?_
          refine L0 (wanted_none rfl) rfl (y_move (v := Value.string ⟨⟨_⟩⟩) rfl rfl) ?_
          refine L0 (wanted_none rfl) rfl (y_move (v := Value.int _ _) rfl rfl) ?_
          refine L0 (wanted_none rfl) rfl (y_sslice_hi rfl Tryd.underlying9 rfl rfl (by omega)) ?_
          refine Lc (wanted_none rfl) (c_call rfl rfl rfl Tryd.func58 (by kernel_rfl) rfl (parse2_any ((printed l).take ((c : Nat) : Int).toNat) (by rw [List.length_take]; omega) w61 (hE2.keep0 hs63)) rfl ?_)
          rintro vp w64 ⟨⟨vl3, e3, r3, rfl, hr3, hn3, hm3⟩, hc65⟩
          have hsC := hs63.call0 hc65
          have hs66 := St.init w64
          have hF3 := hF2.keep0 hsC
          have hr3 : Reads ((printed l).take c) r3 := hr3
          refine L0 (wanted_none rfl) rfl (y_move (v := Value.tuple ⟨_⟩) rfl rfl) ?_
          refine L0 (wanted_none rfl) rfl (y_extract rfl rfl rfl) ?_
          refine L0 (wanted_none rfl) rfl (y_extract rfl rfl rfl) ?_
          refine L0 (wanted_none rfl) rfl (y_assign rfl rfl) ?_
          refine L0 (wanted_none rfl) rfl (y_assign (v := _) rfl rfl) ?_
          refine Lnil ?_
          refine W_seq ?_
          refine W_seq ?_
          refine W_region ?_
          refine L0 (wanted_none rfl) rfl (y_move (v := Value.int _ _) rfl rfl) ?_
          refine L0 (wanted_none rfl) rfl (y_gt rfl rfl rfl) ?_
          refine L0 (wanted_none rfl) rfl (y_move (v := Value.bool _) rfl rfl) ?_
          refine Lsp (t := 80) rfl (fun h67 => ?_) (fun h67 => ?_)
          · have h67' := h67
            first | replace h67' := of_decide_eq_true h67' | replace h67' := bnT' h67' | skip
            refine L0 (wanted_yesB rfl rfl rfl h67) rfl (y_move (v := Value.string ⟨⟨_⟩⟩) rfl rfl) ?_
            refine L0 (wanted_yesB rfl rfl rfl h67) rfl (y_move (v := Value.int _ _) rfl rfl) ?_
            refine L0 (wanted_yesB rfl rfl rfl h67) rfl (y_sub64 rfl rfl rfl (by omega)) ?_
            refine L0 (wanted_yesB rfl rfl rfl h67) rfl (y_sindex rfl Tryd.underlying9 rfl rfl (by omega) (by omega)) ?_
            refine L0 (wanted_yesB rfl rfl rfl h67) rfl (y_ne rfl rfl rfl) ?_
            refine L0 (wanted_none rfl) rfl (y_pickT rfl rfl h67 rfl) ?_
            refine Lnil ?_
            refine Wsp (t := 86) rfl (fun h68 => ?_) (fun h68 => ?_)
            · have h68' := h68
              first | replace h68' := of_decide_eq_true h68' | replace h68' := bnT' h68' | skip
              refine W_condT rfl h68 ?_
              refine W_seq ?_
              have e9 : ((c : Int) - 1).toNat = c - 1 := by omega
              have hx9 : ¬ (((printed l).getD ((c : Int) - 1).toNat 0).toNat : Int) = 10 := by assumption
              have hbad : (printed l).getD (c - 1) 0 ≠ 10 := fun h => hx9 (by rw [e9, h]; rfl)
              obtain rfl := hr3.unique (head_bad (by omega) (by omega) hbad)
              obtain rfl := hn3 rfl
              refine W_region ?_
              refine L0 (wanted_none rfl) rfl (y_move (v := _) rfl rfl) ?_
              refine L0 (wanted_none rfl) rfl (y_neNil rfl Tryd.underlying32 rfl) ?_
              refine L0 (wanted_none rfl) rfl (y_assign (v := Value.bool _) rfl rfl) ?_
              refine Lnil ?_
              refine W_ret ?_
              refine fin1 (fn := Tryd.f8) rfl rfl ?_
              first | exact ⟨rfl, hsA.trans0 (hsB.trans0 (hsC.trans0 hs66))⟩ | exact ⟨congrArg Value.bool (decide_eq_true rfl), hsA.trans0 (hsB.trans0 (hsC.trans0 hs66))⟩ | exact ⟨rfl, hsA.trans0 (hsB.trans0 hs66)⟩ | exact ⟨rfl, hsA.trans0 hs66⟩ | exact ⟨rfl, hs66⟩
            · have h68' := h68
              first | replace h68' := of_decide_eq_false h68' | replace h68' := bnF' h68' | skip
              refine W_condF rfl h68 ?_
              refine W_skip ?_
              refine W_seq ?_
              have hgood : c = 0 ∨ (printed l).getD (c - 1) 0 = 10 := by
                first
                | (left; omega)
                | (right; have e9 : ((c : Int) - 1).toNat = c - 1 := by omega
                   have hx9 : (((printed l).getD ((c : Int) - 1).toNat 0).toNat : Int) = 10 := by assumption
                   rw [e9] at hx9; exact byte10 hx9)
              obtain rfl := hr3.unique (hRP.head (by omega) hgood)
              obtain ⟨rfl, vc3, hFm3⟩ := hm3 _ rfl
              refine W_region ?_
              refine L0 (wanted_none rfl) rfl (y_move (v := _) rfl rfl) ?_
              refine L0 (wanted_none rfl) rfl (y_eqNilNil rfl Tryd.underlying32 rfl) ?_
              refine L0 (wanted_none rfl) rfl (y_move (v := Value.bool _) rfl rfl) ?_
              refine L0 (wanted_yesB rfl rfl rfl rfl) rfl (y_move (v := vl3) rfl rfl) ?_
              refine L0 (wanted_yesB rfl rfl rfl rfl) rfl (y_move (v := v0) rfl rfl) ?_
              refine L0 (wanted_yesB rfl rfl rfl rfl) rfl (y_move (v := Value.string ⟨⟨_⟩⟩) rfl rfl) ?_
              refine L0 (wanted_yesB rfl rfl rfl rfl) rfl (y_move (v := Value.int _ _) rfl rfl) ?_
              refine L0 (wanted_yesB rfl rfl rfl rfl) rfl (y_sslice_hi rfl Tryd.underlying9 rfl rfl (by omega)) ?_
              refine Lc (wanted_yesB rfl rfl rfl rfl) (c_call rfl rfl rfl Tryd.func62 (by kernel_rfl) rfl (count_one ((printed l).take ((c : Nat) : Int).toNat) 10 w64) rfl ?_)
              rintro _ w69 ⟨rfl, hc70⟩
              have hs71 := hs66.call0 hc70
              refine L0 (wanted_yesB rfl rfl rfl rfl) rfl (y_flHi (a := a0) (cap := cap0) (m := l.length) rfl Tryd.underlying87 sz97 hv0 rfl (by have := hRP.count c; simp only [show ((c : Nat) : Int).toNat = c from rfl]; omega)) ?_
              refine Lc (wanted_yesB rfl rfl rfl rfl) (c_call rfl rfl rfl Tryd.func61 (by kernel_rfl) rfl (same_any (l.take (((printed l).take c).count 10)) (l.take (((printed l).take c).count 10)) vl3 _ vc3 vc (by rw [List.length_take]; omega) (fun f hf => hlc f (List.mem_of_mem_take hf)) w69 (hFm3.keep0 hs71) ((hF3.keep0 hs71).take (hRP.count c) hv0)) rfl ?_)
              rintro _ w72 ⟨rfl, hc73⟩
              have hs74 := hs71.call0 hc73
              refine L0 (wanted_none rfl) rfl (y_pickT rfl rfl (rfl : true = true) rfl) ?_
              refine L0 (wanted_none rfl) rfl (y_assign (v := Value.bool _) rfl rfl) ?_
              refine Lnil ?_
              refine W_ret ?_
              refine fin1 (fn := Tryd.f8) rfl rfl ?_
              first | exact ⟨rfl, hsA.trans0 (hsB.trans0 (hsC.trans0 hs74))⟩ | exact ⟨congrArg Value.bool (decide_eq_true rfl), hsA.trans0 (hsB.trans0 (hsC.trans0 hs74))⟩ | exact ⟨rfl, hsA.trans0 (hsB.trans0 hs74)⟩ | exact ⟨rfl, hsA.trans0 hs74⟩ | exact ⟨rfl, hs74⟩
          · have h67' := h67
            first | replace h67' := of_decide_eq_false h67' | replace h67' := bnF' h67' | skip
            refine Lno (wanted_noB rfl rfl rfl h67 (by decide)) rfl ?_
            refine Lno (wanted_noB rfl rfl rfl h67 (by decide)) rfl ?_
            refine Lno (wanted_noB rfl rfl rfl h67 (by decide)) rfl ?_
            refine Lno (wanted_noB rfl rfl rfl h67 (by decide)) rfl ?_
            refine Lno (wanted_noB rfl rfl rfl h67 (by decide)) rfl ?_
            refine L0 (wanted_none rfl) rfl (y_pickF rfl rfl h67 rfl) ?_
            refine Lnil ?_
            refine W_condF rfl rfl ?_
            refine W_skip ?_
            refine W_seq ?_
            have hgood : c = 0 ∨ (printed l).getD (c - 1) 0 = 10 := by
              first
              | (left; omega)
              | (right; have e9 : ((c : Int) - 1).toNat = c - 1 := by omega
                 have hx9 : (((printed l).getD ((c : Int) - 1).toNat 0).toNat : Int) = 10 := by assumption
                 rw [e9] at hx9; exact byte10 hx9)
            obtain rfl := hr3.unique (hRP.head (by omega) hgood)
            obtain ⟨rfl, vc3, hFm3⟩ := hm3 _ rfl
            refine W_region ?_
            refine L0 (wanted_none rfl) rfl (y_move (v := _) rfl rfl) ?_
            refine L0 (wanted_none rfl) rfl (y_eqNilNil rfl Tryd.underlying32 rfl) ?_
            refine L0 (wanted_none rfl) rfl (y_move (v := Value.bool _) rfl rfl) ?_
            refine L0 (wanted_yesB rfl rfl rfl rfl) rfl (y_move (v := vl3) rfl rfl) ?_
            refine L0 (wanted_yesB rfl rfl rfl rfl) rfl (y_move (v := v0) rfl rfl) ?_
            refine L0 (wanted_yesB rfl rfl rfl rfl) rfl (y_move (v := Value.string ⟨⟨_⟩⟩) rfl rfl) ?_
            refine L0 (wanted_yesB rfl rfl rfl rfl) rfl (y_move (v := Value.int _ _) rfl rfl) ?_
            refine L0 (wanted_yesB rfl rfl rfl rfl) rfl (y_sslice_hi rfl Tryd.underlying9 rfl rfl (by omega)) ?_
            refine Lc (wanted_yesB rfl rfl rfl rfl) (c_call rfl rfl rfl Tryd.func62 (by kernel_rfl) rfl (count_one ((printed l).take ((c : Nat) : Int).toNat) 10 w64) rfl ?_)
            rintro _ w75 ⟨rfl, hc76⟩
            have hs77 := hs66.call0 hc76
            refine L0 (wanted_yesB rfl rfl rfl rfl) rfl (y_flHi (a := a0) (cap := cap0) (m := l.length) rfl Tryd.underlying87 sz97 hv0 rfl (by have := hRP.count c; simp only [show ((c : Nat) : Int).toNat = c from rfl]; omega)) ?_
            refine Lc (wanted_yesB rfl rfl rfl rfl) (c_call rfl rfl rfl Tryd.func61 (by kernel_rfl) rfl (same_any (l.take (((printed l).take c).count 10)) (l.take (((printed l).take c).count 10)) vl3 _ vc3 vc (by rw [List.length_take]; omega) (fun f hf => hlc f (List.mem_of_mem_take hf)) w75 (hFm3.keep0 hs77) ((hF3.keep0 hs77).take (hRP.count c) hv0)) rfl ?_)
            rintro _ w78 ⟨rfl, hc79⟩
            have hs80 := hs77.call0 hc79
            refine L0 (wanted_none rfl) rfl (y_pickT rfl rfl (rfl : true = true) rfl) ?_
            refine L0 (wanted_none rfl) rfl (y_assign (v := Value.bool _) rfl rfl) ?_
            refine Lnil ?_
            refine W_ret ?_
            refine fin1 (fn := Tryd.f8) rfl rfl ?_
            first | exact ⟨rfl, hsA.trans0 (hsB.trans0 (hsC.trans0 hs80))⟩ | exact ⟨congrArg Value.bool (decide_eq_true rfl), hsA.trans0 (hsB.trans0 (hsC.trans0 hs80))⟩ | exact ⟨rfl, hsA.trans0 (hsB.trans0 hs80)⟩ | exact ⟨rfl, hsA.trans0 hs80⟩ | exact ⟨rfl, hs80⟩
        · skip
          obtain ⟨rfl, rfl⟩ := hp2 hRP
          refine W_region ?_
          refine L0 (wanted_none rfl) rfl (y_move (v := _) rfl rfl) ?_
          refine L0 (wanted_none rfl) rfl (y_neNil rfl Tryd.underlying32 rfl) ?_
          refine Lnil ?_
          refine W_condT rfl rfl ?_
          refine W_seq ?_
          refine W_region ?_
          refine L0 (wanted_none rfl) rfl (y_move (v := v0) rfl rfl) ?_
          refine Lc (wanted_none rfl) (c_call rfl rfl rfl Tryd.func60 (by kernel_rfl) rfl (right_any l v0 vc w51 (hF1.keep0 hs53)) rfl ?_)
          rintro vp w81 ⟨⟨bo2, rfl, hbo2⟩, hc82⟩
          have hs83 := hs53.call0 hc82
          obtain rfl : bo2 = false := by cases hb2 : bo2 with | false => rfl | true => exact absurd (hbo2.1 hb2) hRP
          refine L0 (wanted_none rfl) rfl (y_not rfl rfl) ?_
          refine L0 (wanted_none rfl) rfl (y_assign (v := Value.bool _) rfl rfl) ?_
          refine Lnil ?_
          refine W_ret ?_
          refine fin1 (fn := Tryd.f8) rfl rfl ?_
          first | exact ⟨rfl, hsA.trans0 (hsB.trans0 (hsC.trans0 hs83))⟩ | exact ⟨congrArg Value.bool (decide_eq_true rfl), hsA.trans0 (hsB.trans0 (hsC.trans0 hs83))⟩ | exact ⟨rfl, hsA.trans0 (hsB.trans0 hs83)⟩ | exact ⟨rfl, hsA.trans0 hs83⟩ | exact ⟨rfl, hs83⟩
end Go.Proofs.YtkolfgmpmnelmabDoor.Ent
