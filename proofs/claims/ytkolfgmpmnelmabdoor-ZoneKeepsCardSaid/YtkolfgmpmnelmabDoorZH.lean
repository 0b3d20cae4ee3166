/-
  Walk: keep.ZoneHolds.
-/
import Derived.Test.YtkolfgmpmnelmabDoorZA
import Derived.Test.YtkolfgmpmnelmabDoorE2
namespace Go.Proofs.YtkolfgmpmnelmabDoor
open Go Vx Go.Proofs
set_option linter.unusedVariables false
set_option maxRecDepth 8000
set_option maxHeartbeats 1000000

theorem keepH {w w' : World} {K L' : Blocks} {v : Value} {m : Nat} {f : Nat → Value} (hS : Sl w v m f) (h : St w (K ++ L') w') (hK : ∀ x ∈ K, w.heap.size ≤ x.1) (hL : ∀ x ∈ L', w.heap.size ≤ x.1) : Sl w' v m f :=
  hS.keep h (fun k hk => by
    obtain ⟨x, hx, rfl⟩ := List.mem_map.1 hk
    exact (List.mem_append.1 hx).elim (hK x) (hL x))
theorem wz_at (vs : Nat → Value) {i : Int} (h0 : 0 ≤ i) (h1 : i < 8) : (⟨zs8 vs⟩ : Array Value)[0 + i.toNat * 1]? = some (vs i.toNat) := by
  rcases lt8 h0 h1 with rfl | rfl | rfl | rfl | rfl | rfl | rfl | rfl <;> rfl
theorem wz_set (vs : Nat → Value) {i : Int} (h0 : 0 ≤ i) (h1 : i < 8) (v : Value) : (⟨zs8 vs⟩ : Array Value).setIfInBounds (0 + i.toNat * 1) v = ⟨zs8 (updF vs i.toNat v)⟩ := by
  rcases lt8 h0 h1 with rfl | rfl | rfl | rfl | rfl | rfl | rfl | rfl <;> rfl
def eall (en : Nat → Blocks) : Blocks := en 0 ++ (en 1 ++ (en 2 ++ (en 3 ++ (en 4 ++ (en 5 ++ (en 6 ++ en 7))))))
theorem eall_set (a : Nat × Obj) (en : Nat → Blocks) (E : Blocks) {i : Nat} (h : i < 8) : ct a (eall (updF en i E)) + ct a (en i) = ct a (eall en) + ct a E := by
  have hi : i = 0 ∨ i = 1 ∨ i = 2 ∨ i = 3 ∨ i = 4 ∨ i = 5 ∨ i = 6 ∨ i = 7 := by omega
  rcases hi with rfl | rfl | rfl | rfl | rfl | rfl | rfl | rfl <;> simp [eall, ct_append, updF] <;> omega
theorem eall_mem {en : Nat → Blocks} {i : Nat} (h : i < 8) : ∀ x ∈ en i, x ∈ eall en := fun x hx => by
  have hi : i = 0 ∨ i = 1 ∨ i = 2 ∨ i = 3 ∨ i = 4 ∨ i = 5 ∨ i = 6 ∨ i = 7 := by omega
  simp only [eall, List.mem_append]
  rcases hi with rfl | rfl | rfl | rfl | rfl | rfl | rfl | rfl <;> simp [hx]
theorem eall_fresh {en : Nat → Blocks} {n : Nat} (h : ∀ j, j < 8 → ∀ x ∈ en j, n ≤ x.1) : ∀ x ∈ eall en, n ≤ x.1 := fun x hx => by
  simp only [eall, List.mem_append] at hx
  rcases hx with hx | hx | hx | hx | hx | hx | hx | hx
  · exact h 0 (by omega) x hx
  · exact h 1 (by omega) x hx
  · exact h 2 (by omega) x hx
  · exact h 3 (by omega) x hx
  · exact h 4 (by omega) x hx
  · exact h 5 (by omega) x hx
  · exact h 6 (by omega) x hx
  · exact h 7 (by omega) x hx
theorem fillN_short {s : List UInt8} {n : Nat} (h : s.length ≤ n) : s ++ List.replicate (n - s.length) 0 = fillN s n := by
  rw [fillN]
  apply List.ext_getElem
  · rw [List.length_append, List.length_replicate, List.length_take, List.length_append, List.length_replicate]; omega
  · intro j h1 h2
    rw [List.getElem_take]
    rcases Nat.lt_or_ge j s.length with h3 | h3
    · rw [List.getElem_append_left h3, List.getElem_append_left h3]
    · rw [List.getElem_append_right h3, List.getElem_append_right h3, List.getElem_replicate, List.getElem_replicate]
theorem zrepeat_int (x : UInt8) (c : Int) (m : Nat) (hc : c = m) (h : m ≤ 100000) (w : World) : C Tryd.prog 17 ⟨[str [x], iv c]⟩ w fun v w' => v = str (List.replicate m x) ∧ St w [] w' := by
  subst hc; exact zrepeat_any x m h w
def long140 (s : List UInt8) : Bool := decide (140 < (s.length : Int))
theorem zh1_any (s : List UInt8) (w : World) : C Tryd.prog 11 ⟨[str s]⟩ w fun v w' => v = .bool (long140 s) ∧ St w [] w' := by
  refine C_enter (n := 6) Tryd.func11 rfl rfl rfl (fun w1 hs1 => ?_)
  refine W_seq ?_
  refine W_region ?_
  refine L0 (wanted_none rfl) rfl (y_assign (v := Value.bool _) rfl rfl) ?_
  refine Lnil ?_
  refine W_seq ?_
  refine W_region ?_
  refine L0 (wanted_none rfl) rfl (y_move (v := Value.string ⟨⟨_⟩⟩) rfl rfl) ?_
  refine L0 (wanted_none rfl) rfl (y_len rfl Tryd.underlying9 rfl) ?_
  refine L0 (wanted_none rfl) rfl (y_gt rfl rfl rfl) ?_
  refine L0 (wanted_none rfl) rfl (y_assign (v := Value.bool _) rfl rfl) ?_
  refine Lnil ?_
  refine W_ret ?_
  refine fin1 (fn := Tryd.f11) rfl rfl ?_
  exact ⟨rfl, hs1⟩
theorem short140 {l : List (List UInt8)} (h2 : l.any long140 = false) : ∀ j, (l.getD j []).length ≤ 140 := fun j => by
  rcases Nat.lt_or_ge j l.length with hj | hj
  · rw [List.any_eq_false] at h2
    have h3 := h2 l[j] (List.getElem_mem hj)
    rw [List.getD_eq_getElem?_getD, List.getElem?_eq_getElem hj]
    simp only [long140, decide_eq_true_eq] at h3
    show l[j].length ≤ 140
    omega
  · rw [List.getD_eq_getElem?_getD, List.getElem?_eq_none hj]; decide
theorem rowsU {B T q : Nat} {vh : Nat → Value} {z : Nat → List (List UInt8)} {en : Nat → Blocks} {vN : Value} {X : List (List UInt8)} {entN : Blocks} (hR : ∀ j, j < 8 → Row B T 1 (vh j) (z j).length ((z j).map str) (en j)) (hN : Row B T 1 vN X.length (X.map str) entN) : ∀ j, j < 8 → Row B T 1 (updF vh q vN j) (updF z q X j).length ((updF z q X j).map str) (updF en q entN j) := fun j hj => by
  by_cases e : j = q
  · subst e; rw [updF_at, updF_at, updF_at]; exact hN
  · rw [updF_ne _ _ e, updF_ne _ _ e, updF_ne _ _ e]; exact hR j hj
theorem lenU {q : Nat} {z : Nat → List (List UInt8)} {X : List (List UInt8)} (h : ∀ j, j < 8 → (z j).length ≤ 16) (hX : X.length ≤ 16) : ∀ j, j < 8 → (updF z q X j).length ≤ 16 := fun j hj => by
  by_cases e : j = q
  · subst e; rw [updF_at]; exact hX
  · rw [updF_ne _ _ e]; exact h j hj
theorem holds_any (l : List (List UInt8)) (at_ : List Int) (va vt : Value) (hl : l.length ≤ 9223372036854775807) (w : World) (hSa : Sl w va l.length (zstrs l)) (hSt : Sl w vt at_.length (fun j => iv (at_.getD j 0))) (he : ErrAt w) :
    C Tryd.prog 3 ⟨[va, vt]⟩ w fun v w' => v = .bool true ∧ St w [] w' := by
  have hel := he.lt
  refine C_enter (n := 165) Tryd.func3 rfl rfl rfl (fun w1 hs1 => ?_)
  refine W_seq ?_
  refine W_region ?_
  refine L0 (wanted_none rfl) rfl (y_assign (v := Value.bool _) rfl rfl) ?_
  refine Lnil ?_
  refine W_seq ?_
  refine W_seq ?_
  refine W_region ?_
  refine L0 (wanted_none rfl) rfl (y_move (v := va) rfl rfl) ?_
  refine L0 (wanted_none rfl) rfl (y_slenSl rfl Tryd.underlying22 rfl hSa) ?_
  refine L0 (wanted_none rfl) rfl (y_gt rfl rfl rfl) ?_
  refine L0 (wanted_none rfl) rfl (y_move (v := Value.bool _) rfl rfl) ?_
  refine Lsp (t := 22) rfl (fun h2 => ?_) (fun h2 => ?_)
  · have h2' := h2
    first | replace h2' := of_decide_eq_true h2' | replace h2' := bnT' h2' | skip
    refine Lno (wanted_noB rfl rfl rfl h2 (by decide)) rfl ?_
    refine Lno (wanted_noB rfl rfl rfl h2 (by decide)) rfl ?_
    refine L0 (wanted_none rfl) rfl (y_pickT rfl rfl h2 rfl) ?_
    refine L0 (wanted_none rfl) rfl (y_move (v := Value.bool _) rfl rfl) ?_
    refine Lno (wanted_noB rfl rfl rfl rfl (by decide)) rfl ?_
    refine Lno (wanted_noB rfl rfl rfl rfl (by decide)) rfl ?_
    refine Lno (wanted_noB rfl rfl rfl rfl (by decide)) rfl ?_
    refine L0 (wanted_none rfl) rfl (y_pickT rfl rfl (rfl : true = true) rfl) ?_
    refine L0 (wanted_none rfl) rfl (y_move (v := Value.bool _) rfl rfl) ?_
    refine Lno (wanted_noB rfl rfl rfl rfl (by decide)) rfl ?_
    refine Lno (wanted_noB rfl rfl rfl rfl (by decide)) rfl ?_
    refine Lno (wanted_noB rfl rfl rfl rfl (by decide)) rfl ?_
    refine L0 (wanted_none rfl) rfl (y_pickT rfl rfl (rfl : true = true) rfl) ?_
    refine Lnil ?_
    refine W_condT rfl rfl ?_
    refine W_seq ?_
    refine W_region ?_
    refine L0 (wanted_none rfl) rfl (y_assign (v := Value.bool _) rfl rfl) ?_
    refine Lnil ?_
    refine W_ret ?_
    refine fin1 (fn := Tryd.f3) rfl rfl ?_
    first | exact ⟨rfl, hs1⟩ | exact ⟨rfl, hD.forget hs1 hKf⟩
  · have h2' := h2
    first | replace h2' := of_decide_eq_false h2' | replace h2' := bnF' h2' | skip
    refine L0 (wanted_yesB rfl rfl rfl h2) rfl (y_move (v := va) rfl rfl) ?_
    refine Lc (wanted_yesB rfl rfl rfl h2) (c_call rfl rfl rfl Tryd.func10 (by kernel_rfl) rfl (zcontainsFunc_any l va 11 Tryd.f11 long140 hl Tryd.func11 (by kernel_rfl) rfl zh1_any w1 (hSa.keep0 hs1)) rfl ?_)
    rintro _ w3 ⟨rfl, hc4⟩
    have hs5 := hs1.call0 hc4
    refine L0 (wanted_none rfl) rfl (y_pickF rfl rfl h2 rfl) ?_
    refine L0 (wanted_none rfl) rfl (y_move (v := Value.bool _) rfl rfl) ?_
    refine Lsp (t := 26) rfl (fun h6 => ?_) (fun h6 => ?_)
    · have h6' := h6
      refine Lno (wanted_noB rfl rfl rfl h6 (by decide)) rfl ?_
      refine Lno (wanted_noB rfl rfl rfl h6 (by decide)) rfl ?_
      refine Lno (wanted_noB rfl rfl rfl h6 (by decide)) rfl ?_
      refine L0 (wanted_none rfl) rfl (y_pickT rfl rfl h6 rfl) ?_
      refine L0 (wanted_none rfl) rfl (y_move (v := Value.bool _) rfl rfl) ?_
      refine Lno (wanted_noB rfl rfl rfl rfl (by decide)) rfl ?_
      refine Lno (wanted_noB rfl rfl rfl rfl (by decide)) rfl ?_
      refine Lno (wanted_noB rfl rfl rfl rfl (by decide)) rfl ?_
      refine L0 (wanted_none rfl) rfl (y_pickT rfl rfl (rfl : true = true) rfl) ?_
      refine Lnil ?_
      refine W_condT rfl rfl ?_
      refine W_seq ?_
      refine W_region ?_
      refine L0 (wanted_none rfl) rfl (y_assign (v := Value.bool _) rfl rfl) ?_
      refine Lnil ?_
      refine W_ret ?_
      refine fin1 (fn := Tryd.f3) rfl rfl ?_
      first | exact ⟨rfl, hs5⟩ | exact ⟨rfl, hD.forget hs5 hKf⟩
    · have h6' := h6
      refine L0 (wanted_yesB rfl rfl rfl h6) rfl (y_move (v := vt) rfl rfl) ?_
      refine L0 (wanted_yesB rfl rfl rfl h6) rfl (y_slenSl rfl Tryd.underlying23 rfl hSt) ?_
      refine L0 (wanted_yesB rfl rfl rfl h6) rfl (y_eq rfl rfl rfl) ?_
      refine L0 (wanted_none rfl) rfl (y_pickF rfl rfl h6 rfl) ?_
      refine L0 (wanted_none rfl) rfl (y_move (v := Value.bool _) rfl rfl) ?_
      refine Lsp (t := 31) rfl (fun h7 => ?_) (fun h7 => ?_)
      · have h7' := h7
        first | replace h7' := of_decide_eq_true h7' | replace h7' := bnT' h7' | skip
        refine Lno (wanted_noB rfl rfl rfl h7 (by decide)) rfl ?_
        refine Lno (wanted_noB rfl rfl rfl h7 (by decide)) rfl ?_
        refine Lno (wanted_noB rfl rfl rfl h7 (by decide)) rfl ?_
        refine L0 (wanted_none rfl) rfl (y_pickT rfl rfl h7 rfl) ?_
        refine Lnil ?_
        refine W_condT rfl rfl ?_
        refine W_seq ?_
        refine W_region ?_
        refine L0 (wanted_none rfl) rfl (y_assign (v := Value.bool _) rfl rfl) ?_
        refine Lnil ?_
        refine W_ret ?_
        refine fin1 (fn := Tryd.f3) rfl rfl ?_
        first | exact ⟨rfl, hs5⟩ | exact ⟨rfl, hD.forget hs5 hKf⟩
      · have h7' := h7
        first | replace h7' := of_decide_eq_false h7' | replace h7' := bnF' h7' | skip
        refine L0 (wanted_yesB rfl rfl rfl h7) rfl (y_move (v := vt) rfl rfl) ?_
        refine L0 (wanted_yesB rfl rfl rfl h7) rfl (y_slenSl rfl Tryd.underlying23 rfl hSt) ?_
        refine L0 (wanted_yesB rfl rfl rfl h7) rfl (y_gt rfl rfl rfl) ?_
        refine L0 (wanted_none rfl) rfl (y_pickF rfl rfl h7 rfl) ?_
        refine Lnil ?_
        refine Wsp (t := 35) rfl (fun h8 => ?_) (fun h8 => ?_)
        · have h8' := h8
          first | replace h8' := of_decide_eq_true h8' | replace h8' := bnT' h8' | skip
          refine W_condT rfl h8 ?_
          refine W_seq ?_
          refine W_region ?_
          refine L0 (wanted_none rfl) rfl (y_assign (v := Value.bool _) rfl rfl) ?_
          refine Lnil ?_
          refine W_ret ?_
          refine fin1 (fn := Tryd.f3) rfl rfl ?_
          first | exact ⟨rfl, hs5⟩ | exact ⟨rfl, hD.forget hs5 hKf⟩
        · have h8' := h8
          first | replace h8' := of_decide_eq_false h8' | replace h8' := bnF' h8' | skip
          refine W_condF rfl h8 ?_
          refine W_skip ?_
          refine W_seq ?_
          refine W_seq ?_
          refine W_region ?_
          refine Lc (wanted_none rfl) (c_call rfl rfl rfl Tryd.func12 (by kernel_rfl) rfl (zoned_any w3) rfl ?_)
          rintro _ w9 ⟨rfl, hc10⟩
          have hs11 := hs5.call0 hc10
          refine L0 (wanted_none rfl) rfl (y_not rfl rfl) ?_
          refine Lnil ?_
          refine Wkn (t := 37) (b0 := false) rfl (by rfl) (fun h12 => ?_)
          refine W_condF rfl h12 ?_
          refine W_skip ?_
          refine W_seq ?_
          have hsh := short140 (by assumption : l.any long140 = false)
          refine W_region ?_
          refine Lc (wanted_none rfl) (c_call rfl rfl rfl Tryd.func13 (by kernel_rfl) rfl (new_ok (K := []) hs11) rfl ?_)
          rintro vq w13 ⟨b, vz0, rows0, rfl, hD0⟩
          have hs15 := hD0.st
          refine L0 (wanted_none rfl) rfl (y_assign (v := Value.pointer _) rfl rfl) ?_
          refine Lnil ?_
          refine W_seq ?_
          refine W_region ?_
          refine Lc (wanted_none rfl) (c_alloc hs15 rfl rfl zr29 (fun b16 w17 hbb16 hs18 => ?_))
          refine Lnil ?_
          refine W_seq ?_
          refine W_seq ?_
          refine W_region ?_
          refine L0 (wanted_none rfl) rfl (y_assign (v := Value.int _ _) rfl rfl) ?_
          refine Lnil ?_
          refine W_block ?_
          refine W_loop (G := Nat × Dv × (Nat → Value) × Blocks × (Nat → Value) × (Nat → Blocks)) (fun g aL wl => ∃ e, aL = A 165 ((7, iv g.1) :: (5, pv b 0) :: (6, pv b16 0) :: (0, va) :: (1, vt) :: e) ∧ g.1 ≤ l.length ∧ DSt w ((b16, .cells ⟨zs8 g.2.2.2.2.1⟩ 29 (0, 0)) :: eall g.2.2.2.2.2) b g.2.1 wl g.2.2.1 (.slice none 0 0) [] g.2.2.2.1 ∧ (∀ j, j < 8 → Row w.heap.size 9 1 (g.2.2.2.2.1 j) (g.2.1.z j).length ((g.2.1.z j).map str) (g.2.2.2.2.2 j)) ∧ (∀ j, j < 8 → (g.2.1.z j).length ≤ 16) ∧ g.2.1.fuse < 0) (fun g => l.length - g.1) ((0, newD, vz0, rows0, (fun _ => .slice none 0 0), fun _ => [])) ?_ ?_
          · exact ⟨_, A_pins _ _ [7, 5, 6, 0, 1], Nat.zero_le _, hD0.drewn hs18, (fun j _ => Row.nil _ _ _), (fun j _ => by show 0 ≤ 16; omega), (by show (-1 : Int) < 0; decide)⟩
          rintro g _ w19 ⟨ehs20, rfl, hi, hD, hR, h16, hfu⟩
          obtain ⟨i, D, vz, rows, vh, en⟩ := g
          dsimp only at *
          have hs20 := hD.st
          refine W_seq ?_
          refine W_seq ?_
          refine W_region ?_
          refine L0 (wanted_none rfl) rfl (y_move (v := Value.int _ _) rfl rfl) ?_
          refine L0 (wanted_none rfl) rfl (y_move (v := va) rfl rfl) ?_
          refine L0 (wanted_none rfl) rfl (y_slenSl rfl Tryd.underlying22 rfl hSa) ?_
          refine L0 (wanted_none rfl) rfl (y_lt rfl rfl rfl) ?_
          refine Lnil ?_
          refine Wsp (t := 42) rfl (fun h21 => ?_) (fun h21 => ?_)
          · have h21' := h21
            first | replace h21' := of_decide_eq_true h21' | replace h21' := bnT' h21' | skip
            refine W_condT rfl h21 ?_
            refine W_skip ?_
            refine W_seq ?_
            refine W_block ?_
            refine W_seq ?_
            have hm0 := Int.emod_nonneg (i : Int) (b := (at_.length : Int)) (by omega)
            have hm1 := Int.emod_lt_of_pos (i : Int) (b := (at_.length : Int)) (by omega)
            have h140 := hsh i
            have hEf := eall_fresh (fun j hj => (hR j hj).new)
            have hK1 : ∀ x ∈ [(b16, Obj.cells ⟨zs8 vh⟩ 29 (0, 0))], w.heap.size ≤ x.1 := fun x hx => by rw [List.mem_singleton.1 hx]; exact hbb16
            have hKf : ∀ x ∈ ((b16, Obj.cells ⟨zs8 vh⟩ 29 (0, 0)) :: eall en), w.heap.size ≤ x.1 := fun x hx => (List.mem_cons.1 hx).elim (fun h => h ▸ hbb16) (hEf x)
            refine W_region ?_
            refine L0 (wanted_none rfl) rfl (y_move (v := vt) rfl rfl) ?_
            refine L0 (wanted_none rfl) rfl (y_move (v := Value.int _ _) rfl rfl) ?_
            refine L0 (wanted_none rfl) rfl (y_move (v := vt) rfl rfl) ?_
            refine L0 (wanted_none rfl) rfl (y_slenSl rfl Tryd.underlying23 rfl hSt) ?_
            refine L0 (wanted_none rfl) rfl (y_rem64 rfl rfl rfl (by omega) (by omega)) ?_
            refine L0 (wanted_none rfl) rfl (y_indexSlAt rfl Tryd.underlying23 sz3 rfl rfl hSt hm0 hm1) ?_
            refine L1 (wanted_none rfl) rfl hs20 ((y_loadAny ((i : Int) % (at_.length : Int)).toNat rfl Tryd.underlying3 rfl rfl (fun w2 h2 => keepH hSt h2 hKf hD.fresh) rfl (by omega))) ?_
            refine Lc (wanted_none rfl) (c_call rfl rfl rfl Tryd.func14 (by kernel_rfl) rfl (zpick_any _ 8 (by decide) (by decide) w19) rfl ?_)
            rintro _ w22 ⟨rfl, hc23⟩
            have hs24 := hs20.call0 hc23
            have hpr := zpickOf_range (a := at_.getD ((i : Int) % (at_.length : Int)).toNat 0) (n := 8) (by decide)
            obtain ⟨q, hq⟩ : ∃ q : Nat, zpickOf (at_.getD ((i : Int) % (at_.length : Int)).toNat 0) 8 = (q : Int) := ⟨(zpickOf (at_.getD ((i : Int) % (at_.length : Int)).toNat 0) 8).toNat, by omega⟩
            rw [hq]
            have hq8 : q < 8 := by omega
            refine L0 (wanted_none rfl) rfl (y_assign (v := Value.int _ _) rfl rfl) ?_
            refine Lnil ?_
            refine W_seq ?_
            by_cases c1 : 128 < (l.getD i []).length
            · skip
              refine W_region ?_
              refine L0 (wanted_none rfl) rfl (y_move (v := Value.pointer _) rfl rfl) ?_
              refine L0 (wanted_none rfl) rfl (y_move (v := Value.int _ _) rfl rfl) ?_
              refine L0 (wanted_none rfl) rfl (y_move (v := va) rfl rfl) ?_
              refine L0 (wanted_none rfl) rfl (y_move (v := Value.int _ _) rfl rfl) ?_
              refine L0 (wanted_none rfl) rfl (y_indexSlAt rfl Tryd.underlying22 sz9 rfl rfl hSa (by omega) (by omega)) ?_
              refine L1 (wanted_none rfl) rfl hs24 ((y_loadAny i rfl Tryd.underlying9 rfl rfl (fun w2 h2 => keepH hSa h2 hKf hD.fresh) rfl (by omega))) ?_
              refine Lc (wanted_none rfl) (c_call rfl rfl rfl Tryd.func15 (by kernel_rfl) rfl (app_e4 b w22 q (l.getD i []) (by omega) (by omega) c1) rfl ?_)
              rintro _ w25 ⟨rfl, hc26⟩
              have hs27 := hs24.call0 hc26
              refine L0 (wanted_none rfl) rfl (y_move (v := Value.tuple ⟨_⟩) rfl rfl) ?_
              refine L0 (wanted_none rfl) rfl (y_extract rfl rfl rfl) ?_
              refine L0 (wanted_none rfl) rfl (y_extract rfl rfl rfl) ?_
              refine L0 (wanted_none rfl) rfl (y_assign (v := Value.int _ _) rfl rfl) ?_
              refine L0 (wanted_none rfl) rfl (y_assign (v := _) rfl rfl) ?_
              refine Lnil ?_
              refine W_block ?_
              refine W_seq ?_
              refine W_region ?_
              refine L0 (wanted_none rfl) rfl (y_move (v := va) rfl rfl) ?_
              refine L0 (wanted_none rfl) rfl (y_move (v := Value.int _ _) rfl rfl) ?_
              refine L0 (wanted_none rfl) rfl (y_indexSlAt rfl Tryd.underlying22 sz9 rfl rfl hSa (by omega) (by omega)) ?_
              refine L1 (wanted_none rfl) rfl hs27 ((y_loadAny i rfl Tryd.underlying9 rfl rfl (fun w2 h2 => keepH hSa h2 hKf (by first | exact hD2.fresh | exact hD.fresh)) rfl (by omega))) ?_
              refine L0 (wanted_none rfl) rfl (y_len rfl Tryd.underlying9 rfl) ?_
              refine L0 (wanted_none rfl) rfl (y_gt rfl rfl rfl) ?_
              refine L0 (wanted_none rfl) rfl (y_assign (v := Value.bool _) rfl rfl) ?_
              refine Lnil ?_
              refine Wkn (t := 92) (b0 := true) rfl (by first | exact decide_eq_true (by omega) | exact bnT (by omega) | (simp; omega)) (fun h28 => ?_)
              refine W_condT rfl h28 ?_
              refine W_seq ?_
              refine W_region ?_
              refine L0 (wanted_none rfl) rfl (y_move (v := _) rfl rfl) ?_
              refine Lc (wanted_none rfl) (c_call rfl rfl rfl Tryd.func16 (by kernel_rfl) rfl (tell_errno 4 w25 (he.keep hs27 (fun hm => by obtain ⟨x, hx, e⟩ := List.mem_map.1 hm; have h7 := (List.mem_append.1 hx).elim (hKf x) (hD.fresh x); omega))) rfl ?_)
              rintro _ w29 ⟨rfl, hc30⟩
              have hs31 := hs27.call0 hc30
              refine L0 (wanted_none rfl) rfl (y_ne rfl rfl rfl) ?_
              refine Lnil ?_
              refine Wkn (t := 101) (b0 := false) rfl (by exact bnF rfl) (fun h32 => ?_)
              refine W_condF rfl h32 ?_
              refine W_skip ?_
              refine W_region ?_
              refine L0 (wanted_none rfl) rfl (y_move (v := Value.int _ _) rfl rfl) ?_
              refine L0 (wanted_none rfl) rfl (y_add64 rfl rfl rfl (by omega)) ?_
              refine L0 (wanted_none rfl) rfl (y_assign (v := Value.int _ _) rfl rfl) ?_
              refine Lnil ?_
              exact ⟨(i + 1, D, vz, rows, vh, en), by first | omega | (dsimp only; done) | (dsimp only; omega), _, A_c (iv_eq (by first | omega | (dsimp only; done) | (dsimp only; omega))) (A_c rfl (A_c rfl (A_c rfl (A_c rfl (rfl))))), by first | omega | (dsimp only; done) | (dsimp only; omega), hD.drewn hs31, hR, h16, hfu⟩
            · skip
              by_cases c2 : (D.z q).length = 16
              · skip
                refine W_region ?_
                refine L0 (wanted_none rfl) rfl (y_move (v := Value.pointer _) rfl rfl) ?_
                refine L0 (wanted_none rfl) rfl (y_move (v := Value.int _ _) rfl rfl) ?_
                refine L0 (wanted_none rfl) rfl (y_move (v := va) rfl rfl) ?_
                refine L0 (wanted_none rfl) rfl (y_move (v := Value.int _ _) rfl rfl) ?_
                refine L0 (wanted_none rfl) rfl (y_indexSlAt rfl Tryd.underlying22 sz9 rfl rfl hSa (by omega) (by omega)) ?_
                refine L1 (wanted_none rfl) rfl hs24 ((y_loadAny i rfl Tryd.underlying9 rfl rfl (fun w2 h2 => keepH hSa h2 hKf hD.fresh) rfl (by omega))) ?_
                refine Lc (wanted_none rfl) (c_call rfl rfl rfl Tryd.func15 (by kernel_rfl) rfl (app_e12 b vz D.sure D.slot (.slice none 0 0) D.fuse w22 (hD.drewn hs24).has q (l.getD i []) (by omega) (by omega) (by omega) (D.z q) ((hD.drewn hs24).sl (j := q) (by omega)) c2) rfl ?_)
                rintro _ w33 ⟨rfl, hc34⟩
                have hs35 := hs24.call0 hc34
                refine L0 (wanted_none rfl) rfl (y_move (v := Value.tuple ⟨_⟩) rfl rfl) ?_
                refine L0 (wanted_none rfl) rfl (y_extract rfl rfl rfl) ?_
                refine L0 (wanted_none rfl) rfl (y_extract rfl rfl rfl) ?_
                refine L0 (wanted_none rfl) rfl (y_assign (v := Value.int _ _) rfl rfl) ?_
                refine L0 (wanted_none rfl) rfl (y_assign (v := _) rfl rfl) ?_
                refine Lnil ?_
                refine W_block ?_
                refine W_seq ?_
                refine W_region ?_
                refine L0 (wanted_none rfl) rfl (y_move (v := va) rfl rfl) ?_
                refine L0 (wanted_none rfl) rfl (y_move (v := Value.int _ _) rfl rfl) ?_
                refine L0 (wanted_none rfl) rfl (y_indexSlAt rfl Tryd.underlying22 sz9 rfl rfl hSa (by omega) (by omega)) ?_
                refine L1 (wanted_none rfl) rfl hs35 ((y_loadAny i rfl Tryd.underlying9 rfl rfl (fun w2 h2 => keepH hSa h2 hKf (by first | exact hD2.fresh | exact hD.fresh)) rfl (by omega))) ?_
                refine L0 (wanted_none rfl) rfl (y_len rfl Tryd.underlying9 rfl) ?_
                refine L0 (wanted_none rfl) rfl (y_gt rfl rfl rfl) ?_
                refine L0 (wanted_none rfl) rfl (y_assign (v := Value.bool _) rfl rfl) ?_
                refine Lnil ?_
                refine Wkn (t := 92) (b0 := false) rfl (by first | exact decide_eq_false (by omega) | exact bnF (by omega) | (simp; omega)) (fun h36 => ?_)
                refine W_condF rfl h36 ?_
                refine W_seq ?_
                refine W_region ?_
                refine L0 (wanted_none rfl) rfl (y_move (v := Value.int _ _) rfl rfl) ?_
                refine L0 (wanted_none rfl) rfl (y_indexArr rfl Tryd.underlying29 sz22 rfl rfl (by omega) (by omega)) ?_
                refine L1 (wanted_none rfl) rfl hs35 (y_load 0 rfl Tryd.underlying22 rfl rfl rfl (wz_at vh (by omega) (by omega))) ?_
                refine L0 (wanted_none rfl) rfl (y_slenRow rfl Tryd.underlying22 rfl (hR q (by omega))) ?_
                refine L0 (wanted_none rfl) rfl (y_eq rfl rfl rfl) ?_
                refine L0 (wanted_none rfl) rfl (y_assign (v := Value.bool _) rfl rfl) ?_
                refine Lnil ?_
                refine Wkn (t := 102) (b0 := true) rfl (by exact decide_eq_true (by omega)) (fun h37 => ?_)
                refine W_condT rfl h37 ?_
                refine W_seq ?_
                refine W_region ?_
                refine L0 (wanted_none rfl) rfl (y_move (v := _) rfl rfl) ?_
                refine Lc (wanted_none rfl) (c_call rfl rfl rfl Tryd.func16 (by kernel_rfl) rfl (tell_errno 12 w33 (he.keep hs35 (fun hm => by obtain ⟨x, hx, e⟩ := List.mem_map.1 hm; have h7 := (List.mem_append.1 hx).elim (hKf x) (hD.fresh x); omega))) rfl ?_)
                rintro _ w38 ⟨rfl, hc39⟩
                have hs40 := hs35.call0 hc39
                refine L0 (wanted_none rfl) rfl (y_ne rfl rfl rfl) ?_
                refine Lnil ?_
                refine Wkn (t := 110) (b0 := false) rfl (by exact bnF rfl) (fun h41 => ?_)
                refine W_condF rfl h41 ?_
                refine W_skip ?_
                refine W_region ?_
                refine L0 (wanted_none rfl) rfl (y_move (v := Value.int _ _) rfl rfl) ?_
                refine L0 (wanted_none rfl) rfl (y_add64 rfl rfl rfl (by omega)) ?_
                refine L0 (wanted_none rfl) rfl (y_assign (v := Value.int _ _) rfl rfl) ?_
                refine Lnil ?_
                exact ⟨(i + 1, D, vz, rows, vh, en), by first | omega | (dsimp only; done) | (dsimp only; omega), _, A_c (iv_eq (by first | omega | (dsimp only; done) | (dsimp only; omega))) (A_c rfl (A_c rfl (A_c rfl (A_c rfl (rfl))))), by first | omega | (dsimp only; done) | (dsimp only; omega), hD.drewn hs40, hR, h16, hfu⟩
              · skip
                refine W_region ?_
                refine L0 (wanted_none rfl) rfl (y_move (v := Value.pointer _) rfl rfl) ?_
                refine L0 (wanted_none rfl) rfl (y_move (v := Value.int _ _) rfl rfl) ?_
                refine L0 (wanted_none rfl) rfl (y_move (v := va) rfl rfl) ?_
                refine L0 (wanted_none rfl) rfl (y_move (v := Value.int _ _) rfl rfl) ?_
                refine L0 (wanted_none rfl) rfl (y_indexSlAt rfl Tryd.underlying22 sz9 rfl rfl hSa (by omega) (by omega)) ?_
                refine L1 (wanted_none rfl) rfl hs24 ((y_loadAny i rfl Tryd.underlying9 rfl rfl (fun w2 h2 => keepH hSa h2 hKf hD.fresh) rfl (by omega))) ?_
                refine Lc (wanted_none rfl) (c_call rfl rfl rfl Tryd.func15 (by kernel_rfl) rfl (app_ok (hD.drewn hs24) hfu q (l.getD i []) (by omega) (by omega) (by omega) (by have h7 := h16 q hq8; show (D.z q).length < 16; omega)) rfl ?_)
                rintro vq w42 ⟨vz2, rows2, rfl, hD2⟩
                have hs44 := hD2.st
                refine L0 (wanted_none rfl) rfl (y_move (v := Value.tuple ⟨_⟩) rfl rfl) ?_
                refine L0 (wanted_none rfl) rfl (y_extract rfl rfl rfl) ?_
                refine L0 (wanted_none rfl) rfl (y_extract rfl rfl rfl) ?_
                refine L0 (wanted_none rfl) rfl (y_assign (v := Value.int _ _) rfl rfl) ?_
                refine L0 (wanted_none rfl) rfl (y_assign (v := _) rfl rfl) ?_
                refine Lnil ?_
                refine W_block ?_
                refine W_seq ?_
                refine W_region ?_
                refine L0 (wanted_none rfl) rfl (y_move (v := va) rfl rfl) ?_
                refine L0 (wanted_none rfl) rfl (y_move (v := Value.int _ _) rfl rfl) ?_
                refine L0 (wanted_none rfl) rfl (y_indexSlAt rfl Tryd.underlying22 sz9 rfl rfl hSa (by omega) (by omega)) ?_
                refine L1 (wanted_none rfl) rfl hs44 ((y_loadAny i rfl Tryd.underlying9 rfl rfl (fun w2 h2 => keepH hSa h2 hKf (by first | exact hD2.fresh | exact hD.fresh)) rfl (by omega))) ?_
                refine L0 (wanted_none rfl) rfl (y_len rfl Tryd.underlying9 rfl) ?_
                refine L0 (wanted_none rfl) rfl (y_gt rfl rfl rfl) ?_
                refine L0 (wanted_none rfl) rfl (y_assign (v := Value.bool _) rfl rfl) ?_
                refine Lnil ?_
                refine Wkn (t := 92) (b0 := false) rfl (by first | exact decide_eq_false (by omega) | exact bnF (by omega) | (simp; omega)) (fun h45 => ?_)
                refine W_condF rfl h45 ?_
                refine W_seq ?_
                refine W_region ?_
                refine L0 (wanted_none rfl) rfl (y_move (v := Value.int _ _) rfl rfl) ?_
                refine L0 (wanted_none rfl) rfl (y_indexArr rfl Tryd.underlying29 sz22 rfl rfl (by omega) (by omega)) ?_
                refine L1 (wanted_none rfl) rfl hs44 (y_load 0 rfl Tryd.underlying22 rfl rfl rfl (wz_at vh (by omega) (by omega))) ?_
                refine L0 (wanted_none rfl) rfl (y_slenRow rfl Tryd.underlying22 rfl (hR q (by omega))) ?_
                refine L0 (wanted_none rfl) rfl (y_eq rfl rfl rfl) ?_
                refine L0 (wanted_none rfl) rfl (y_assign (v := Value.bool _) rfl rfl) ?_
                refine Lnil ?_
                refine Wkn (t := 102) (b0 := false) rfl (by exact decide_eq_false (by omega)) (fun h46 => ?_)
                refine W_condF rfl h46 ?_
                refine W_seq ?_
                refine W_seq ?_
                refine W_region ?_
                refine L0 (wanted_none rfl) rfl (y_move (v := _) rfl rfl) ?_
                refine L0 (wanted_none rfl) rfl (y_neNilNil rfl Tryd.underlying32 rfl) ?_
                refine L0 (wanted_none rfl) rfl (y_move (v := Value.bool _) rfl rfl) ?_
                refine L0 (wanted_yesB rfl rfl rfl rfl) rfl (y_move (v := Value.int _ _) rfl rfl) ?_
                refine L0 (wanted_yesB rfl rfl rfl rfl) rfl (y_move (v := Value.int _ _) rfl rfl) ?_
                refine L0 (wanted_yesB rfl rfl rfl rfl) rfl (y_indexArr rfl Tryd.underlying29 sz22 rfl rfl (by omega) (by omega)) ?_
                refine L1 (wanted_yesB rfl rfl rfl rfl) rfl hs44 (y_load 0 rfl Tryd.underlying22 rfl rfl rfl (wz_at vh (by omega) (by omega))) ?_
                refine L0 (wanted_yesB rfl rfl rfl rfl) rfl (y_slenRow rfl Tryd.underlying22 rfl (hR q (by omega))) ?_
                refine L0 (wanted_yesB rfl rfl rfl rfl) rfl (y_ne rfl rfl rfl) ?_
                refine L0 (wanted_none rfl) rfl (y_pickF rfl rfl (rfl : false = false) rfl) ?_
                refine Lnil ?_
                refine Wkn (t := 72) (b0 := false) rfl (by exact bnF rfl) (fun h47 => ?_)
                refine W_condF rfl h47 ?_
                refine W_skip ?_
                refine W_drawS [(0, 0), (0, 1), (0, 4), (0, 5), (0, 8), (0, 9), (0, 2), (0, 6), (0, 10), (1, 3), (1, 7), (1, 11), (0, 12), (0, 13), (3, 14), (0, 15), (3, 16), (3, 17), (0, 18), (2, 19)] (fun w2 => ∃ M2, St w ((b16, .cells ⟨zs8 vh⟩ 29 (0, 0)) :: M2) w2 ∧ ∀ x ∈ M2, w.heap.size ≤ x.1) hs44 mixed (by kernel_rfl) (fun w48 hs49 => ?_)
                refine E0 (wanted_none rfl) rfl (y_move (v := Value.int _ _) rfl rfl) ?_
                refine E0 (wanted_none rfl) rfl (y_move (v := Value.int _ _) rfl rfl) ?_
                refine E0 (wanted_none rfl) rfl (y_move (v := va) rfl rfl) ?_
                refine E0 (wanted_none rfl) rfl (y_move (v := Value.int _ _) rfl rfl) ?_
                refine E0 (wanted_none rfl) rfl (y_move (v := va) rfl rfl) ?_
                refine E0 (wanted_none rfl) rfl (y_move (v := Value.int _ _) rfl rfl) ?_
                refine E0 (wanted_none rfl) rfl (y_indexArr rfl Tryd.underlying29 sz22 rfl rfl (by omega) (by omega)) ?_
                refine E0 (wanted_none rfl) rfl (y_indexSlAt rfl Tryd.underlying22 sz9 rfl rfl hSa (by omega) (by omega)) ?_
                refine E0 (wanted_none rfl) rfl (y_indexSlAt rfl Tryd.underlying22 sz9 rfl rfl hSa (by omega) (by omega)) ?_
                refine E1 (by first | exact ⟨_, hs49, (fun x hx => (List.mem_append.1 hx).elim (hEf x) (hD2.fresh x))⟩ | exact ⟨_, hs49.drop (.inl hbNOBLOCK), (fun x hx => (List.mem_append.1 hx).elim (hEf x) (hD2.fresh x))⟩ | exact ⟨_, hs49, (fun x hx => (List.mem_append.1 hx).elim (hrN.new x) (fun hx => (List.mem_append.1 hx).elim (hEf2 x) (hD2.fresh x)))⟩) (wanted_none rfl) rfl (fun w2 hSS => by obtain ⟨M2, h2, hf2⟩ := hSS; exact (y_load 0 rfl Tryd.underlying22 rfl rfl rfl (wz_at vh (by omega) (by omega))) w2 h2) ?_
                refine E1 (by first | exact ⟨_, hs49, (fun x hx => (List.mem_append.1 hx).elim (hEf x) (hD2.fresh x))⟩ | exact ⟨_, hs49.drop (.inl hbNOBLOCK), (fun x hx => (List.mem_append.1 hx).elim (hEf x) (hD2.fresh x))⟩ | exact ⟨_, hs49, (fun x hx => (List.mem_append.1 hx).elim (hrN.new x) (fun hx => (List.mem_append.1 hx).elim (hEf2 x) (hD2.fresh x)))⟩) (wanted_none rfl) rfl (fun w2 hSS => by obtain ⟨M2, h2, hf2⟩ := hSS; exact ((y_loadAny i rfl Tryd.underlying9 rfl rfl (fun w2 h2 => keepH (K := [_]) hSa h2 hK1 hf2) rfl (by omega))) w2 h2) ?_
                refine E1 (by first | exact ⟨_, hs49, (fun x hx => (List.mem_append.1 hx).elim (hEf x) (hD2.fresh x))⟩ | exact ⟨_, hs49.drop (.inl hbNOBLOCK), (fun x hx => (List.mem_append.1 hx).elim (hEf x) (hD2.fresh x))⟩ | exact ⟨_, hs49, (fun x hx => (List.mem_append.1 hx).elim (hrN.new x) (fun hx => (List.mem_append.1 hx).elim (hEf2 x) (hD2.fresh x)))⟩) (wanted_none rfl) rfl (fun w2 hSS => by obtain ⟨M2, h2, hf2⟩ := hSS; exact ((y_loadAny i rfl Tryd.underlying9 rfl rfl (fun w2 h2 => keepH (K := [_]) hSa h2 hK1 hf2) rfl (by omega))) w2 h2) ?_
                refine E0 (wanted_none rfl) rfl (y_len rfl Tryd.underlying9 rfl) ?_
                refine E0 (wanted_none rfl) rfl (y_sub64 rfl rfl rfl (by omega)) ?_
                refine E3 (wanted_none rfl) (c_call rfl rfl rfl Tryd.func17 (by kernel_rfl) rfl (zrepeat_int 0 _ (128 - (l.getD i []).length) (by omega) (by omega) w48) rfl ?_)
                rintro _ w50 ⟨rfl, hc51⟩
                have hs52 := hs49.call0 hc51
                refine ⟨fun _ => (by first | exact ⟨_, hs52, (fun x hx => (List.mem_append.1 hx).elim (hEf x) (hD2.fresh x))⟩ | exact ⟨_, hs52.drop (.inl hbNOBLOCK), (fun x hx => (List.mem_append.1 hx).elim (hEf x) (hD2.fresh x))⟩ | exact ⟨_, hs52, (fun x hx => (List.mem_append.1 hx).elim (hrN.new x) (fun hx => (List.mem_append.1 hx).elim (hEf2 x) (hD2.fresh x)))⟩), ?_⟩
                refine E0 (wanted_none rfl) rfl (y_scat rfl rfl rfl (by rw [List.length_replicate]; omega)) ?_
                refine E3 (wanted_none rfl) (c_bs1 (v0 := str _) hs52 rfl rfl Tryd.underlying22 sz9 zr9 rfl rfl  (fun b53 w54 hbb53 hs55 => ?_))
                refine ⟨fun _ => (by first | exact ⟨_, hs55, (fun x hx => (List.mem_append.1 hx).elim (hEf x) (hD2.fresh x))⟩ | exact ⟨_, hs55.drop (.inl hbb53), (fun x hx => (List.mem_append.1 hx).elim (hEf x) (hD2.fresh x))⟩ | exact ⟨_, hs55, (fun x hx => (List.mem_append.1 hx).elim (hrN.new x) (fun hx => (List.mem_append.1 hx).elim (hEf2 x) (hD2.fresh x)))⟩), ?_⟩
                have hEf2 : ∀ x ∈ eall (updF en q []), w.heap.size ≤ x.1 := eall_fresh (fun j hj x hx => by
                  by_cases e : j = q
                  · subst e; rw [updF_at] at hx; cases hx
                  · rw [updF_ne _ _ e] at hx; exact (hR j hj).new x hx)
                refine E3 (wanted_none rfl) (c_appendG (L0 := (b53, .cells ⟨[str (l.getD i [] ++ List.replicate (128 - (l.getD i []).length) 0)]⟩ 9 (0, 0)) :: (b16, .cells ⟨zs8 vh⟩ 29 (0, 0)) :: (eall (updF en q []) ++ ((b, .cells ⟨dcells vz2 D.sure D.slot (.slice none 0 0) D.fuse⟩ 104 (0, 0)) :: ([] ++ rows2)))) (ent := en q) hs55 (perm_ct (fun a => by have h7 := eall_set a en [] (i := q) hq8; simp only [ct_append, ct_cons, ct_nil] at h7 ⊢; omega)) rfl rfl Tryd.underlying22 sz9 zr9 by9 rfl rfl (hR q hq8) (Nat.le_refl _) (fun x hx => .inl ((hR q hq8).new x hx)) rfl (Src.ofBlock (kk := 1) (hs55.get 0 rfl) rfl) (by simp [Value.oneCell']) (by have h7 := h16 q hq8; omega) (by have h7 := h16 q hq8; omega) (fun vN entN w56 hrN' hn58 hs57 => ?_))
                have hrN := hrN'
                have hnew_hrN := hn58
                have hs57 := (hs57.re (L' := (b53, .cells ⟨[str (l.getD i [] ++ List.replicate (128 - (l.getD i []).length) 0)]⟩ 9 (0, 0)) :: (b16, .cells ⟨zs8 vh⟩ 29 (0, 0)) :: (entN ++ (eall (updF en q []) ++ ((b, .cells ⟨dcells vz2 D.sure D.slot (.slice none 0 0) D.fuse⟩ 104 (0, 0)) :: ([] ++ rows2))))) (fun a => by simp only [ct_append, ct_cons, ct_nil]; omega)).drop (.inl hbb53)
                refine ⟨fun _ => (by first | exact ⟨_, hs57, (fun x hx => (List.mem_append.1 hx).elim (hEf x) (hD2.fresh x))⟩ | exact ⟨_, hs57.drop (.inl hbb53), (fun x hx => (List.mem_append.1 hx).elim (hEf x) (hD2.fresh x))⟩ | exact ⟨_, hs57, (fun x hx => (List.mem_append.1 hx).elim (hrN.new x) (fun hx => (List.mem_append.1 hx).elim (hEf2 x) (hD2.fresh x)))⟩), ?_⟩
                refine E0 (wanted_none rfl) rfl (y_indexArr rfl Tryd.underlying29 sz22 rfl rfl (by omega) (by omega)) ?_
                refine E2 (wanted_none rfl) (c_store (i := 0) (v := vN) hs57 rfl rfl rfl rfl sz22 hrN.one rfl (by (show 0 + (q : Int).toNat * 1 < 8; omega)) (Fz.zero _) (fun w59 hs60 => ?_))
                have hs60 := (hs60.at0 (c' := ⟨zs8 (updF vh q vN)⟩) (wz_set _ (by omega) (by omega) _)).re (L' := ((b16, .cells ⟨zs8 (updF vh q vN)⟩ 29 (0, 0)) :: eall (updF en q entN)) ++ ((b, .cells ⟨dcells vz2 D.sure D.slot (.slice none 0 0) D.fuse⟩ 104 (0, 0)) :: ([] ++ rows2))) (fun a => by have h7 := eall_set a en [] (i := q) hq8; have h8 := eall_set a en entN (i := q) hq8; simp only [ct_append, ct_cons, ct_nil] at h7 h8 ⊢; omega)
                refine Enil ?_
                refine W_region ?_
                refine L0 (wanted_none rfl) rfl (y_move (v := Value.int _ _) rfl rfl) ?_
                refine L0 (wanted_none rfl) rfl (y_add64 rfl rfl rfl (by omega)) ?_
                refine L0 (wanted_none rfl) rfl (y_assign (v := Value.int _ _) rfl rfl) ?_
                refine Lnil ?_
                exact ⟨(i + 1, { D with z := updF D.z q (D.z q ++ [fillN (l.getD i []) 128]) }, vz2, rows2, updF vh q vN, updF en q entN), by first | omega | (dsimp only; done) | (dsimp only; omega), _, A_c (iv_eq (by first | omega | (dsimp only; done) | (dsimp only; omega))) (A_c rfl (A_c rfl (A_c rfl (A_c rfl (rfl))))), by first | omega | (dsimp only; done) | (dsimp only; omega), hD2.drewn hs60, rowsU hR (by rw [List.length_append, List.map_append, ← fillN_short (by omega)]; exact hrN), lenU h16 (by rw [List.length_append]; have h7 := h16 q hq8; show (D.z q).length + 1 ≤ 16; omega), hfu⟩
          · have h21' := h21
            first | replace h21' := of_decide_eq_false h21' | replace h21' := bnF' h21' | skip
            refine W_condF rfl h21 ?_
            refine W_exit ?_
            refine W_seq ?_
            refine W_seq ?_
            have hEf := eall_fresh (fun j hj => (hR j hj).new)
            have hKf : ∀ x ∈ ((b16, Obj.cells ⟨zs8 vh⟩ 29 (0, 0)) :: eall en), w.heap.size ≤ x.1 := fun x hx => (List.mem_cons.1 hx).elim (fun h => h ▸ hbb16) (hEf x)
            refine W_region ?_
            refine L0 (wanted_none rfl) rfl (y_assign (v := Value.int _ _) rfl rfl) ?_
            refine Lnil ?_
            refine W_block ?_
            refine W_loop (G := Nat) (fun z aL wl => ∃ e, aL = A 165 ((11, iv z) :: (5, pv b 0) :: (6, pv b16 0) :: e) ∧ z ≤ 8 ∧ St w (((b16, .cells ⟨zs8 vh⟩ 29 (0, 0)) :: eall en) ++ ((b, .cells ⟨dcells vz D.sure D.slot (.slice none 0 0) D.fuse⟩ 104 (0, 0)) :: ([] ++ rows))) wl) (fun z => 8 - z) (0) ?_ ?_
            · exact ⟨_, A_pins _ _ [11, 5, 6], Nat.zero_le _, hs20⟩
            rintro z _ w61 ⟨ehs62, rfl, hz, hs62⟩
            have hz16 := h16 z
            refine W_seq ?_
            refine W_seq ?_
            refine W_region ?_
            refine L0 (wanted_none rfl) rfl (y_move (v := Value.int _ _) rfl rfl) ?_
            refine L0 (wanted_none rfl) rfl (y_lt rfl rfl rfl) ?_
            refine Lnil ?_
            refine Wsp (t := 112) rfl (fun h63 => ?_) (fun h63 => ?_)
            · have h63' := h63
              first | replace h63' := of_decide_eq_true h63' | replace h63' := bnT' h63' | skip
              refine W_condT rfl h63 ?_
              refine W_skip ?_
              refine W_seq ?_
              refine W_block ?_
              refine W_seq ?_
              refine W_region ?_
              refine L0 (wanted_none rfl) rfl (y_move (v := Value.pointer _) rfl rfl) ?_
              refine L0 (wanted_none rfl) rfl (y_move (v := Value.int _ _) rfl rfl) ?_
              refine Lc (wanted_none rfl) (c_call rfl rfl rfl Tryd.func18 (by kernel_rfl) rfl (at_any b vz D.sure D.slot (.slice none 0 0) D.fuse w61 (hD.drewn hs62).has z (by omega) (by omega) (D.z z) ((hD.drewn hs62).sl (j := z) (by omega))) rfl ?_)
              rintro _ w64 ⟨rfl, hc65⟩
              have hs66 := hs62.call0 hc65
              refine L0 (wanted_none rfl) rfl (y_move (v := Value.tuple ⟨_⟩) rfl rfl) ?_
              refine L0 (wanted_none rfl) rfl (y_extract rfl rfl rfl) ?_
              refine L0 (wanted_none rfl) rfl (y_extract rfl rfl rfl) ?_
              refine L0 (wanted_none rfl) rfl (y_assign (v := Value.int _ _) rfl rfl) ?_
              refine L0 (wanted_none rfl) rfl (y_assign (v := _) rfl rfl) ?_
              refine Lnil ?_
              refine W_seq ?_
              refine W_seq ?_
              refine W_region ?_
              refine L0 (wanted_none rfl) rfl (y_move (v := _) rfl rfl) ?_
              refine L0 (wanted_none rfl) rfl (y_neNilNil rfl Tryd.underlying32 rfl) ?_
              refine L0 (wanted_none rfl) rfl (y_move (v := Value.bool _) rfl rfl) ?_
              refine L0 (wanted_yesB rfl rfl rfl rfl) rfl (y_move (v := Value.int _ _) rfl rfl) ?_
              refine L0 (wanted_yesB rfl rfl rfl rfl) rfl (y_move (v := Value.int _ _) rfl rfl) ?_
              refine L0 (wanted_yesB rfl rfl rfl rfl) rfl (y_indexArr rfl Tryd.underlying29 sz22 rfl rfl (by omega) (by omega)) ?_
              refine L1 (wanted_yesB rfl rfl rfl rfl) rfl hs66 (y_load 0 rfl Tryd.underlying22 rfl rfl rfl (wz_at vh (by omega) (by omega))) ?_
              refine L0 (wanted_yesB rfl rfl rfl rfl) rfl (y_slenRow rfl Tryd.underlying22 rfl (hR z (by omega))) ?_
              refine L0 (wanted_yesB rfl rfl rfl rfl) rfl (y_ne rfl rfl rfl) ?_
              refine L0 (wanted_none rfl) rfl (y_pickF rfl rfl (rfl : false = false) rfl) ?_
              refine Lnil ?_
              refine Wkn (t := 130) (b0 := false) rfl (by exact bnF rfl) (fun h67 => ?_)
              refine W_condF rfl h67 ?_
              refine W_skip ?_
              refine W_seq ?_
              refine W_seq ?_
              refine W_region ?_
              refine L0 (wanted_none rfl) rfl (y_assign (v := Value.int _ _) rfl rfl) ?_
              refine Lnil ?_
              refine W_block ?_
              refine W_loop (G := Nat) (fun c aL wl => ∃ e, aL = A 165 ((14, iv c) :: (12, iv (D.z z).length) :: (11, iv z) :: (5, pv b 0) :: (6, pv b16 0) :: e) ∧ c ≤ (D.z z).length ∧ St w (((b16, .cells ⟨zs8 vh⟩ 29 (0, 0)) :: eall en) ++ ((b, .cells ⟨dcells vz D.sure D.slot (.slice none 0 0) D.fuse⟩ 104 (0, 0)) :: ([] ++ rows))) wl) (fun c => (D.z z).length - c) (0) ?_ ?_
              · exact ⟨_, A_pins _ _ [14, 12, 11, 5, 6], Nat.zero_le _, hs66⟩
              rintro c _ w68 ⟨ehs69, rfl, hc, hs69⟩
              have hz17 := hz16 (by omega)
              refine W_seq ?_
              refine W_seq ?_
              refine W_region ?_
              refine L0 (wanted_none rfl) rfl (y_move (v := Value.int _ _) rfl rfl) ?_
              refine L0 (wanted_none rfl) rfl (y_move (v := Value.int _ _) rfl rfl) ?_
              refine L0 (wanted_none rfl) rfl (y_lt rfl rfl rfl) ?_
              refine Lnil ?_
              refine Wsp (t := 133) rfl (fun h70 => ?_) (fun h70 => ?_)
              · have h70' := h70
                first | replace h70' := of_decide_eq_true h70' | replace h70' := bnT' h70' | skip
                refine W_condT rfl h70 ?_
                refine W_skip ?_
                refine W_seq ?_
                refine W_block ?_
                refine W_seq ?_
                refine W_region ?_
                refine L0 (wanted_none rfl) rfl (y_move (v := Value.pointer _) rfl rfl) ?_
                refine L0 (wanted_none rfl) rfl (y_move (v := Value.int _ _) rfl rfl) ?_
                refine L0 (wanted_none rfl) rfl (y_move (v := Value.int _ _) rfl rfl) ?_
                refine Lc (wanted_none rfl) (c_call rfl rfl rfl Tryd.func19 (by kernel_rfl) rfl (read_any b vz D.sure D.slot (.slice none 0 0) D.fuse w68 (hD.drewn hs69).has z c (by omega) (by omega) (D.z z) ((hD.drewn hs69).sl (j := z) (by omega)) (by omega) (by omega)) rfl ?_)
                rintro _ w71 ⟨rfl, hc72⟩
                have hs73 := hs69.call0 hc72
                refine L0 (wanted_none rfl) rfl (y_move (v := Value.tuple ⟨_⟩) rfl rfl) ?_
                refine L0 (wanted_none rfl) rfl (y_extract rfl rfl rfl) ?_
                refine L0 (wanted_none rfl) rfl (y_extract rfl rfl rfl) ?_
                refine L0 (wanted_none rfl) rfl (y_assign (v := Value.string ⟨⟨_⟩⟩) rfl rfl) ?_
                refine L0 (wanted_none rfl) rfl (y_assign (v := _) rfl rfl) ?_
                refine Lnil ?_
                refine W_seq ?_
                refine W_region ?_
                refine L0 (wanted_none rfl) rfl (y_move (v := _) rfl rfl) ?_
                refine L0 (wanted_none rfl) rfl (y_neNilNil rfl Tryd.underlying32 rfl) ?_
                refine L0 (wanted_none rfl) rfl (y_move (v := Value.bool _) rfl rfl) ?_
                refine L0 (wanted_yesB rfl rfl rfl rfl) rfl (y_move (v := Value.string ⟨⟨_⟩⟩) rfl rfl) ?_
                refine L0 (wanted_yesB rfl rfl rfl rfl) rfl (y_move (v := Value.int _ _) rfl rfl) ?_
                refine L0 (wanted_yesB rfl rfl rfl rfl) rfl (y_indexArr rfl Tryd.underlying29 sz22 rfl rfl (by omega) (by omega)) ?_
                refine L1 (wanted_yesB rfl rfl rfl rfl) rfl hs73 (y_load 0 rfl Tryd.underlying22 rfl rfl rfl (wz_at vh (by omega) (by omega))) ?_
                refine L0 (wanted_yesB rfl rfl rfl rfl) rfl (y_move (v := Value.int _ _) rfl rfl) ?_
                refine L0 (wanted_yesB rfl rfl rfl rfl) rfl (y_indexRow rfl Tryd.underlying22 sz9 rfl rfl (hR z (by omega)) (by omega) (by omega)) ?_
                refine L1 (wanted_yesB rfl rfl rfl rfl) rfl hs73 ((y_loadAny c rfl Tryd.underlying9 rfl rfl (fun w2 h2 => (RowIn.ofRow (hR z (by omega))).sl h2 (fun x hx => List.mem_append_left _ (List.mem_cons_of_mem _ (eall_mem (by omega) x hx)))) rfl (by omega))) ?_
                refine L0 (wanted_yesB rfl rfl rfl rfl) rfl (y_sne rfl rfl rfl) ?_
                refine L0 (wanted_none rfl) rfl (y_pickF rfl rfl (rfl : false = false) rfl) ?_
                refine Lnil ?_
                refine Wkn (t := 154) (b0 := false) rfl (by exact bnF rfl) (fun h74 => ?_)
                refine W_condF rfl h74 ?_
                refine W_skip ?_
                refine W_region ?_
                refine L0 (wanted_none rfl) rfl (y_move (v := Value.int _ _) rfl rfl) ?_
                refine L0 (wanted_none rfl) rfl (y_add64 rfl rfl rfl (by omega)) ?_
                refine L0 (wanted_none rfl) rfl (y_assign (v := Value.int _ _) rfl rfl) ?_
                refine Lnil ?_
                exact ⟨c + 1, by first | omega | (dsimp only; done) | (dsimp only; omega), _, A_c (iv_eq (by first | omega | (dsimp only; done) | (dsimp only; omega))) (A_c rfl (A_c rfl (A_c rfl (A_c rfl (rfl))))), by omega, hs73⟩
              · have h70' := h70
                first | replace h70' := of_decide_eq_false h70' | replace h70' := bnF' h70' | skip
                refine W_condF rfl h70 ?_
                refine W_exit ?_
                refine W_seq ?_
                obtain rfl : c = (D.z z).length := by omega
                refine W_region ?_
                refine L0 (wanted_none rfl) rfl (y_move (v := Value.pointer _) rfl rfl) ?_
                refine L0 (wanted_none rfl) rfl (y_move (v := Value.int _ _) rfl rfl) ?_
                refine L0 (wanted_none rfl) rfl (y_move (v := Value.int _ _) rfl rfl) ?_
                refine Lc (wanted_none rfl) (c_call rfl rfl rfl Tryd.func19 (by kernel_rfl) rfl (read_off b vz D.sure D.slot (.slice none 0 0) D.fuse w68 (hD.drewn hs69).has z ((D.z z).length : Int) (by omega) (by omega) (D.z z) ((hD.drewn hs69).sl (j := z) (by omega)) (.inr (Int.le_refl _))) rfl ?_)
                rintro _ w75 ⟨rfl, hc76⟩
                have hs77 := hs69.call0 hc76
                refine L0 (wanted_none rfl) rfl (y_move (v := Value.tuple ⟨_⟩) rfl rfl) ?_
                refine L0 (wanted_none rfl) rfl (y_extract rfl rfl rfl) ?_
                refine L0 (wanted_none rfl) rfl (y_extract rfl rfl rfl) ?_
                refine L0 (wanted_none rfl) rfl (y_assign (v := Value.string ⟨⟨_⟩⟩) rfl rfl) ?_
                refine L0 (wanted_none rfl) rfl (y_assign (v := _) rfl rfl) ?_
                refine Lnil ?_
                refine W_seq ?_
                refine W_region ?_
                refine L0 (wanted_none rfl) rfl (y_move (v := _) rfl rfl) ?_
                refine Lc (wanted_none rfl) (c_call rfl rfl rfl Tryd.func16 (by kernel_rfl) rfl (tell_errno 7 w75 (he.keep hs77 (fun hm => by obtain ⟨x, hx, e⟩ := List.mem_map.1 hm; have h7 := (List.mem_append.1 hx).elim (hKf x) (hD.fresh x); omega))) rfl ?_)
                rintro _ w78 ⟨rfl, hc79⟩
                have hs80 := hs77.call0 hc79
                refine L0 (wanted_none rfl) rfl (y_ne rfl rfl rfl) ?_
                refine Lnil ?_
                refine Wkn (t := 164) (b0 := false) rfl (by exact bnF rfl) (fun h81 => ?_)
                refine W_condF rfl h81 ?_
                refine W_skip ?_
                refine W_region ?_
                refine L0 (wanted_none rfl) rfl (y_move (v := Value.int _ _) rfl rfl) ?_
                refine L0 (wanted_none rfl) rfl (y_add64 rfl rfl rfl (by omega)) ?_
                refine L0 (wanted_none rfl) rfl (y_assign (v := Value.int _ _) rfl rfl) ?_
                refine Lnil ?_
                exact ⟨z + 1, by first | omega | (dsimp only; done) | (dsimp only; omega), _, A_c (iv_eq (by first | omega | (dsimp only; done) | (dsimp only; omega))) (A_c rfl (A_c rfl (rfl))), by omega, hs80⟩
            · have h63' := h63
              first | replace h63' := of_decide_eq_false h63' | replace h63' := bnF' h63' | skip
              refine W_condF rfl h63 ?_
              refine W_exit ?_
              refine W_seq ?_
              refine W_region ?_
              refine L0 (wanted_none rfl) rfl (y_assign (v := Value.bool _) rfl rfl) ?_
              refine Lnil ?_
              refine W_ret ?_
              refine fin1 (fn := Tryd.f3) rfl rfl ?_
              first | exact ⟨rfl, hs62⟩ | exact ⟨rfl, hD.forget hs62 hKf⟩
end Go.Proofs.YtkolfgmpmnelmabDoor
