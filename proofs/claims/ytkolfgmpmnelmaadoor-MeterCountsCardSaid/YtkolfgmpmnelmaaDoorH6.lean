/-
  Walks: keep.summed, keep.SumApart; the plain law: texts that are marked are one just if their parts are.
-/
import Derived.Test.YtkolfgmpmnelmaaDoorH5
namespace Go.Proofs.YtkolfgmpmnelmaaDoor
open Go Vx Go.Proofs
set_option linter.unusedVariables false
set_option maxRecDepth 4000
set_option maxHeartbeats 400000

def body : List (List UInt8) → List UInt8
  | [] => []
  | p :: l => numOf p.length ++ p ++ body l
theorem markS_body (l : List (List UInt8)) : ∀ s, markS s l = s ++ body l := by
  induction l with
  | nil => intro s; simp [markS, body]
  | cons p l ih =>
    intro s
    have h := ih (s ++ (numOf p.length ++ p))
    simp only [markS, List.foldl_cons] at h ⊢
    rw [h, body]; simp only [List.append_assoc]
theorem numOf_inj {a b : Nat} (ha : a ≤ 100) (hb : b ≤ 100) (h : numOf a = numOf b) : a = b := by
  have h1 : (numOf a).getD 7 0 = (numOf b).getD 7 0 := by rw [h]
  have h2 : ∀ n : Nat, n ≤ 100 → (numOf n).getD 7 0 = UInt8.ofNat n := by decide
  rw [h2 a ha, h2 b hb] at h1
  have h3 : (UInt8.ofNat a).toNat = (UInt8.ofNat b).toNat := by rw [h1]
  simp at h3; omega
theorem body_inj : ∀ (a b : List (List UInt8)), (∀ s ∈ a, s.length ≤ 100) → (∀ s ∈ b, s.length ≤ 100) → body a = body b → a = b
  | [], [], _, _, _ => rfl
  | [], q :: m, _, _, h => by
    have := congrArg List.length h
    simp only [body, List.length_append, numOf_len, List.length_nil] at this; omega
  | p :: l, [], _, _, h => by
    have := congrArg List.length h
    simp only [body, List.length_append, numOf_len, List.length_nil] at this; omega
  | p :: l, q :: m, ha, hb, h => by
    simp only [body, List.append_assoc] at h
    obtain ⟨h1, h2⟩ := List.append_inj h (by rw [numOf_len, numOf_len])
    have hl := numOf_inj (ha p (by simp)) (hb q (by simp)) h1
    obtain ⟨h3, h4⟩ := List.append_inj h2 hl
    rw [h3, body_inj l m (fun s hs => ha s (by simp [hs])) (fun s hs => hb s (by simp [hs])) h4]
theorem mark_inj (k k' : UInt8) (a b : List (List UInt8)) (ha : ∀ s ∈ a, s.length ≤ 100) (hb : ∀ s ∈ b, s.length ≤ 100) : markS [k] a = markS [k'] b ↔ k = k' ∧ a = b := by
  constructor
  · intro h
    rw [markS_body, markS_body] at h
    simp only [List.cons_append, List.nil_append, List.cons.injEq] at h
    exact ⟨h.1, body_inj a b ha hb h.2⟩
  · rintro ⟨rfl, rfl⟩; rfl
theorem body_len : ∀ (a : List (List UInt8)), (∀ s ∈ a, s.length ≤ 100) → (body a).length ≤ 108 * a.length
  | [], _ => by simp [body]
  | p :: l, ha => by
    have h1 := body_len l (fun s hs => ha s (by simp [hs]))
    have h2 := ha p (by simp)
    simp only [body, List.length_append, numOf_len, List.length_cons]
    omega
theorem markS_len (k : UInt8) (a : List (List UInt8)) (ha : ∀ s ∈ a, s.length ≤ 100) (hl : a.length ≤ 10) : (markS [k] a).length ≤ 1099511627776 := by
  have := body_len a ha
  rw [markS_body, List.length_append]
  simp only [List.length_cons, List.length_nil]; omega
def isLong (s : List UInt8) : Bool := decide (100 < (s.length : Int))
theorem short_of {a : List (List UInt8)} (h : a.any isLong = false) : ∀ s ∈ a, s.length ≤ 100 := by
  intro s hs
  have h1 : isLong s = false := by
    rw [List.any_eq_false] at h
    simpa using h s hs
  have h2 := of_decide_eq_false h1
  omega

theorem known_sum : hexOf (shaOf [97, 98, 99]) = [98, 97, 55, 56, 49, 54, 98, 102, 56, 102, 48, 49, 99, 102, 101, 97, 52, 49, 52, 49, 52, 48, 100, 101, 53, 100, 97, 101, 50, 50, 50, 51, 98, 48, 48, 51, 54, 49, 97, 51, 57, 54, 49, 55, 55, 97, 57, 99, 98, 52, 49, 48, 102, 102, 54, 49, 102, 50, 48, 48, 49, 53, 97, 100] := by kernel_rfl
theorem known_num : numOf 258 = [0, 0, 0, 0, 0, 0, 1, 2] := by kernel_rfl
theorem markOf_eq {k k' : UInt8} {a b : List (List UInt8)} (h : markS [k] a = markS [k'] b ↔ k = k' ∧ a = b) (hx : markS [k] a = markS [k'] b) : markOf k a = markOf k' b := by rw [markOf, hx]; rfl
theorem ap_T {x y : List UInt8} {k k' : UInt8} {a b : List (List UInt8)} (h : x = y ↔ k = k' ∧ a = b) (hk : (k.toNat : Int) = k'.toNat) : (!(decide (x = y) == decide (a = b))) = false := by
  have : k = k' := UInt8.toNat_inj.1 (by omega)
  simp [h, this]
theorem ap_F {x y : List UInt8} {k k' : UInt8} {a b : List (List UInt8)} (h : x = y ↔ k = k' ∧ a = b) (hk : ¬ (k.toNat : Int) = k'.toNat) : (!(decide (x = y) == false)) = false := by
  have : ¬ k = k' := fun he => hk (by rw [he])
  simp [h, this]
theorem summed_any (w : World) (hr : RoundsAt w) : C Tryd.prog 12 ⟨[]⟩ w fun v w' => v = .bool true ∧ St w [] w' := by
  refine C_enter (n := 14) Tryd.func12 rfl rfl rfl (fun w1 hs1 => ?_)
  refine W_seq ?_
  refine W_region ?_
  refine L0 (wanted_none rfl) rfl (y_assign (v := Value.bool _) rfl rfl) ?_
  refine Lnil ?_
  refine W_seq ?_
  refine W_region ?_
  refine Lc (wanted_none rfl) (c_call rfl rfl rfl Tryd.func14 (by kernel_rfl) rfl (sum_any [97, 98, 99] (by decide) w1 (hr.keep hs1 (by simp [keys]))) rfl ?_)
  rintro _ w2 ⟨rfl, hc3⟩
  have hs4 := hs1.call0 hc3
  refine Lc (wanted_none rfl) (c_call rfl rfl rfl Tryd.func30 (by kernel_rfl) rfl (hex_any (shaOf [97, 98, 99]) (by rw [shaOf_len]; decide) w2) rfl ?_)
  rintro _ w5 ⟨rfl, hc6⟩
  have hs7 := hs4.call0 hc6
  refine L0 (wanted_none rfl) rfl (y_seq rfl rfl rfl) ?_
  refine L0 (wanted_none rfl) rfl (y_move (v := Value.bool _) rfl rfl) ?_
  refine Lkn (t := 4) (b0 := true) rfl (by exact decide_eq_true known_sum) (fun h8 => ?_)
  refine Lc (wanted_yesB rfl rfl rfl h8) (c_call rfl rfl rfl Tryd.func32 (by kernel_rfl) rfl (num_any 258 w5) rfl ?_)
  rintro _ w9 ⟨rfl, hc10⟩
  have hs11 := hs7.call0 hc10
  refine L0 (wanted_yesB rfl rfl rfl h8) rfl (y_seq rfl rfl rfl) ?_
  refine L0 (wanted_none rfl) rfl (y_pickT rfl rfl h8 rfl) ?_
  refine L0 (wanted_none rfl) rfl (y_move (v := Value.bool _) rfl rfl) ?_
  refine Lkn (t := 8) (b0 := true) rfl (by exact decide_eq_true known_num) (fun h12 => ?_)
  refine Lc (wanted_yesB rfl rfl rfl h12) (c_call rfl rfl rfl Tryd.func15 (by kernel_rfl) rfl (mark_any 97 [] (.slice none 0 0) (by decide) (by decide) w9 (hr.keep hs11 (by simp [keys])) (Sl.nil _ _ _ _)) rfl ?_)
  rintro _ w13 ⟨rfl, hc14⟩
  have hs15 := hs11.call0 hc14
  refine Lc (wanted_yesB rfl rfl rfl h12) (c_call rfl rfl rfl Tryd.func14 (by kernel_rfl) rfl (sum_any [97] (by decide) w13 (hr.keep hs15 (by simp [keys]))) rfl ?_)
  rintro _ w16 ⟨rfl, hc17⟩
  have hs18 := hs15.call0 hc17
  refine L0 (wanted_yesB rfl rfl rfl h12) rfl (y_sslice_hi rfl Tryd.underlying9 rfl rfl (by rw [shaOf_len]; decide)) ?_
  refine L0 (wanted_yesB rfl rfl rfl h12) rfl (y_seq rfl rfl rfl) ?_
  refine L0 (wanted_none rfl) rfl (y_pickT rfl rfl h12 rfl) ?_
  refine L0 (wanted_none rfl) rfl (y_assign (v := Value.bool _) rfl rfl) ?_
  refine Lnil ?_
  refine W_ret ?_
  refine fin1 (fn := Tryd.f12) rfl rfl ?_
  exact ⟨congrArg Value.bool (by assumption), hs18⟩
theorem sal1_any (s : List UInt8) (w : World) : C Tryd.prog 10 ⟨[str s]⟩ w fun v w' => v = .bool (isLong s) ∧ St w [] w' := by
  refine C_enter (n := 6) Tryd.func10 rfl rfl rfl (fun w1 hs1 => ?_)
  refine W_seq ?_
  refine W_region ?_
  refine L0 (wanted_none rfl) rfl (y_assign (v := Value.bool _) rfl rfl) ?_
  refine Lnil ?_
  refine W_seq ?_
  refine W_region ?_
  refine L0 (wanted_none rfl) rfl (y_move (v := Value.string ⟨⟨_⟩⟩) rfl rfl) ?_
  refine L0 (wanted_none rfl) rfl (y_len rfl Tryd.underlying9 rfl) ?_
  refine L0 (wanted_none rfl) rfl (y_gt rfl rfl rfl) ?_
  refine L0 (wanted_none rfl) rfl (y_assign (v := Value.bool _) rfl rfl) ?_
  refine Lnil ?_
  refine W_ret ?_
  refine fin1 (fn := Tryd.f10) rfl rfl ?_
  exact ⟨rfl, hs1⟩
theorem sal2_any (s : List UInt8) (w : World) : C Tryd.prog 11 ⟨[str s]⟩ w fun v w' => v = .bool (isLong s) ∧ St w [] w' := by
  refine C_enter (n := 6) Tryd.func11 rfl rfl rfl (fun w1 hs1 => ?_)
  refine W_seq ?_
  refine W_region ?_
  refine L0 (wanted_none rfl) rfl (y_assign (v := Value.bool _) rfl rfl) ?_
  refine Lnil ?_
  refine W_seq ?_
  refine W_region ?_
  refine L0 (wanted_none rfl) rfl (y_move (v := Value.string ⟨⟨_⟩⟩) rfl rfl) ?_
  refine L0 (wanted_none rfl) rfl (y_len rfl Tryd.underlying9 rfl) ?_
  refine L0 (wanted_none rfl) rfl (y_gt rfl rfl rfl) ?_
  refine L0 (wanted_none rfl) rfl (y_assign (v := Value.bool _) rfl rfl) ?_
  refine Lnil ?_
  refine W_ret ?_
  refine fin1 (fn := Tryd.f11) rfl rfl ?_
  exact ⟨rfl, hs1⟩
theorem sumApart_any (a b : List (List UInt8)) (k k' : UInt8) (va vb : Value) (w : World) (hr : RoundsAt w) (hla : a.length ≤ 9223372036854775807) (hlb : b.length ≤ 9223372036854775807) (hSa : Sl w va a.length (strs a)) (hSb : Sl w vb b.length (strs b)) :
    C Tryd.prog 3 ⟨[va, vb, bv k, bv k']⟩ w fun v w' => v = .bool true ∧ St w [] w' := by
  refine C_enter (n := 96) Tryd.func3 rfl rfl rfl (fun w1 hs1 => ?_)
  refine W_seq ?_
  refine W_region ?_
  refine L0 (wanted_none rfl) rfl (y_assign (v := Value.bool _) rfl rfl) ?_
  refine Lnil ?_
  refine W_seq ?_
  refine W_seq ?_
  refine W_region ?_
  refine L0 (wanted_none rfl) rfl (y_move (v := va) rfl rfl) ?_
  refine L0 (wanted_none rfl) rfl (y_slenSl rfl Tryd.underlying22 rfl hSa) ?_
  refine L0 (wanted_none rfl) rfl (y_gt rfl rfl rfl) ?_
  refine L0 (wanted_none rfl) rfl (y_move (v := Value.bool _) rfl rfl) ?_
  refine Lsp (t := 18) rfl (fun h2 => ?_) (fun h2 => ?_)
  · have h2' := h2
    first | replace h2' := of_decide_eq_true h2' | replace h2' := bnT' h2' | skip
    refine Lno (wanted_noB rfl rfl rfl h2 (by decide)) rfl ?_
    refine Lno (wanted_noB rfl rfl rfl h2 (by decide)) rfl ?_
    refine Lno (wanted_noB rfl rfl rfl h2 (by decide)) rfl ?_
    refine L0 (wanted_none rfl) rfl (y_pickT rfl rfl h2 rfl) ?_
    refine L0 (wanted_none rfl) rfl (y_move (v := Value.bool _) rfl rfl) ?_
    refine Lno (wanted_noB rfl rfl rfl rfl (by decide)) rfl ?_
    refine Lno (wanted_noB rfl rfl rfl rfl (by decide)) rfl ?_
    refine L0 (wanted_none rfl) rfl (y_pickT rfl rfl (rfl : true = true) rfl) ?_
    refine L0 (wanted_none rfl) rfl (y_move (v := Value.bool _) rfl rfl) ?_
    refine Lno (wanted_noB rfl rfl rfl rfl (by decide)) rfl ?_
    refine Lno (wanted_noB rfl rfl rfl rfl (by decide)) rfl ?_
    refine L0 (wanted_none rfl) rfl (y_pickT rfl rfl (rfl : true = true) rfl) ?_
    refine Lnil ?_
    refine W_condT rfl rfl ?_
    refine W_seq ?_
    refine W_region ?_
    refine L0 (wanted_none rfl) rfl (y_assign (v := Value.bool _) rfl rfl) ?_
    refine Lnil ?_
    refine W_ret ?_
    refine fin1 (fn := Tryd.f3) rfl rfl ?_
    first | exact ⟨congrArg Value.bool (by assumption), hs1⟩ | exact ⟨congrArg Value.bool (decide_eq_true (markOf_eq hinj (by assumption))), hs1⟩ | exact ⟨rfl, hs1⟩
  · have h2' := h2
    first | replace h2' := of_decide_eq_false h2' | replace h2' := bnF' h2' | skip
    refine L0 (wanted_yesB rfl rfl rfl h2) rfl (y_move (v := vb) rfl rfl) ?_
    refine L0 (wanted_yesB rfl rfl rfl h2) rfl (y_slenSl rfl Tryd.underlying22 rfl hSb) ?_
    refine L0 (wanted_yesB rfl rfl rfl h2) rfl (y_gt rfl rfl rfl) ?_
    refine L0 (wanted_none rfl) rfl (y_pickF rfl rfl h2 rfl) ?_
    refine L0 (wanted_none rfl) rfl (y_move (v := Value.bool _) rfl rfl) ?_
    refine Lsp (t := 23) rfl (fun h3 => ?_) (fun h3 => ?_)
    · have h3' := h3
      first | replace h3' := of_decide_eq_true h3' | replace h3' := bnT' h3' | skip
      refine Lno (wanted_noB rfl rfl rfl h3 (by decide)) rfl ?_
      refine Lno (wanted_noB rfl rfl rfl h3 (by decide)) rfl ?_
      refine L0 (wanted_none rfl) rfl (y_pickT rfl rfl h3 rfl) ?_
      refine L0 (wanted_none rfl) rfl (y_move (v := Value.bool _) rfl rfl) ?_
      refine Lno (wanted_noB rfl rfl rfl rfl (by decide)) rfl ?_
      refine Lno (wanted_noB rfl rfl rfl rfl (by decide)) rfl ?_
      refine L0 (wanted_none rfl) rfl (y_pickT rfl rfl (rfl : true = true) rfl) ?_
      refine Lnil ?_
      refine W_condT rfl rfl ?_
      refine W_seq ?_
      refine W_region ?_
      refine L0 (wanted_none rfl) rfl (y_assign (v := Value.bool _) rfl rfl) ?_
      refine Lnil ?_
      refine W_ret ?_
      refine fin1 (fn := Tryd.f3) rfl rfl ?_
      first | exact ⟨congrArg Value.bool (by assumption), hs1⟩ | exact ⟨congrArg Value.bool (decide_eq_true (markOf_eq hinj (by assumption))), hs1⟩ | exact ⟨rfl, hs1⟩
    · have h3' := h3
      first | replace h3' := of_decide_eq_false h3' | replace h3' := bnF' h3' | skip
      refine L0 (wanted_yesB rfl rfl rfl h3) rfl (y_move (v := va) rfl rfl) ?_
      refine Lc (wanted_yesB rfl rfl rfl h3) (c_call rfl rfl rfl Tryd.func9 (by kernel_rfl) rfl (containsFunc_any a va 10 Tryd.f10 isLong hla Tryd.func10 (by kernel_rfl) rfl sal1_any w1 (hSa.keep0 hs1)) rfl ?_)
      rintro _ w4 ⟨rfl, hc5⟩
      have hs6 := hs1.call0 hc5
      refine L0 (wanted_none rfl) rfl (y_pickF rfl rfl h3 rfl) ?_
      refine L0 (wanted_none rfl) rfl (y_move (v := Value.bool _) rfl rfl) ?_
      refine Lsp (t := 27) rfl (fun h7 => ?_) (fun h7 => ?_)
      · have h7' := h7
        refine Lno (wanted_noB rfl rfl rfl h7 (by decide)) rfl ?_
        refine Lno (wanted_noB rfl rfl rfl h7 (by decide)) rfl ?_
        refine L0 (wanted_none rfl) rfl (y_pickT rfl rfl h7 rfl) ?_
        refine Lnil ?_
        refine W_condT rfl rfl ?_
        refine W_seq ?_
        refine W_region ?_
        refine L0 (wanted_none rfl) rfl (y_assign (v := Value.bool _) rfl rfl) ?_
        refine Lnil ?_
        refine W_ret ?_
        refine fin1 (fn := Tryd.f3) rfl rfl ?_
        first | exact ⟨congrArg Value.bool (by assumption), hs6⟩ | exact ⟨congrArg Value.bool (decide_eq_true (markOf_eq hinj (by assumption))), hs6⟩ | exact ⟨rfl, hs6⟩
      · have h7' := h7
        refine L0 (wanted_yesB rfl rfl rfl h7) rfl (y_move (v := vb) rfl rfl) ?_
        refine Lc (wanted_yesB rfl rfl rfl h7) (c_call rfl rfl rfl Tryd.func9 (by kernel_rfl) rfl (containsFunc_any b vb 11 Tryd.f11 isLong hlb Tryd.func11 (by kernel_rfl) rfl sal2_any w4 (hSb.keep0 hs6)) rfl ?_)
        rintro _ w8 ⟨rfl, hc9⟩
        have hs10 := hs6.call0 hc9
        refine L0 (wanted_none rfl) rfl (y_pickF rfl rfl h7 rfl) ?_
        refine Lnil ?_
        refine Wsp (t := 30) rfl (fun h11 => ?_) (fun h11 => ?_)
        · have h11' := h11
          refine W_condT rfl h11 ?_
          refine W_seq ?_
          refine W_region ?_
          refine L0 (wanted_none rfl) rfl (y_assign (v := Value.bool _) rfl rfl) ?_
          refine Lnil ?_
          refine W_ret ?_
          refine fin1 (fn := Tryd.f3) rfl rfl ?_
          first | exact ⟨congrArg Value.bool (by assumption), hs10⟩ | exact ⟨congrArg Value.bool (decide_eq_true (markOf_eq hinj (by assumption))), hs10⟩ | exact ⟨rfl, hs10⟩
        · have h11' := h11
          refine W_condF rfl h11 ?_
          refine W_skip ?_
          refine W_seq ?_
          refine W_seq ?_
          refine W_region ?_
          refine Lc (wanted_none rfl) (c_call rfl rfl rfl Tryd.func12 (by kernel_rfl) rfl (summed_any w8 (hr.keep hs10 (by simp [keys]))) rfl ?_)
          rintro _ w12 ⟨rfl, hc13⟩
          have hs14 := hs10.call0 hc13
          refine L0 (wanted_none rfl) rfl (y_not rfl rfl) ?_
          refine Lnil ?_
          refine Wkn (t := 32) (b0 := false) rfl (by rfl) (fun h15 => ?_)
          refine W_condF rfl h15 ?_
          refine W_skip ?_
          refine W_seq ?_
          have sa := short_of (a := a) (by assumption)
          have sb := short_of (a := b) (by assumption)
          have hinj := mark_inj k k' a b sa sb
          refine W_region ?_
          refine L0 (wanted_none rfl) rfl (y_move (v := Value.int _ _) rfl rfl) ?_
          refine L0 (wanted_none rfl) rfl (y_move (v := va) rfl rfl) ?_
          refine Lc (wanted_none rfl) (c_call rfl rfl rfl Tryd.func13 (by kernel_rfl) rfl (marked_any k a va (markS_len k a sa (by omega)) hla w12 (hSa.keep0 hs14)) rfl ?_)
          rintro _ w16 ⟨rfl, hc17⟩
          have hs18 := hs14.call0 hc17
          refine L0 (wanted_none rfl) rfl (y_move (v := Value.int _ _) rfl rfl) ?_
          refine L0 (wanted_none rfl) rfl (y_move (v := vb) rfl rfl) ?_
          refine Lc (wanted_none rfl) (c_call rfl rfl rfl Tryd.func13 (by kernel_rfl) rfl (marked_any k' b vb (markS_len k' b sb (by omega)) hlb w16 (hSb.keep0 hs18)) rfl ?_)
          rintro _ w19 ⟨rfl, hc20⟩
          have hs21 := hs18.call0 hc20
          refine L0 (wanted_none rfl) rfl (y_assign (v := Value.string ⟨⟨_⟩⟩) rfl rfl) ?_
          refine L0 (wanted_none rfl) rfl (y_assign (v := Value.string ⟨⟨_⟩⟩) rfl rfl) ?_
          refine Lnil ?_
          refine W_seq ?_
          refine W_region ?_
          refine L0 (wanted_none rfl) rfl (y_move (v := Value.string ⟨⟨_⟩⟩) rfl rfl) ?_
          refine Lc (wanted_none rfl) (c_call rfl rfl rfl Tryd.func14 (by kernel_rfl) rfl (sum_any _ (markS_len k a sa (by omega)) w19 (hr.keep hs21 (by simp [keys]))) rfl ?_)
          rintro _ w22 ⟨rfl, hc23⟩
          have hs24 := hs21.call0 hc23
          refine L0 (wanted_none rfl) rfl (y_move (v := Value.string ⟨⟨_⟩⟩) rfl rfl) ?_
          refine Lc (wanted_none rfl) (c_call rfl rfl rfl Tryd.func14 (by kernel_rfl) rfl (sum_any _ (markS_len k' b sb (by omega)) w22 (hr.keep hs24 (by simp [keys]))) rfl ?_)
          rintro _ w25 ⟨rfl, hc26⟩
          have hs27 := hs24.call0 hc26
          refine L0 (wanted_none rfl) rfl (y_assign (v := Value.string ⟨⟨_⟩⟩) rfl rfl) ?_
          refine L0 (wanted_none rfl) rfl (y_assign (v := Value.string ⟨⟨_⟩⟩) rfl rfl) ?_
          refine Lnil ?_
          refine W_seq ?_
          refine W_region ?_
          refine L0 (wanted_none rfl) rfl (y_move (v := Value.int _ _) rfl rfl) ?_
          refine L0 (wanted_none rfl) rfl (y_move (v := va) rfl rfl) ?_
          refine Lc (wanted_none rfl) (c_call rfl rfl rfl Tryd.func15 (by kernel_rfl) rfl (mark_any k a va (markS_len k a sa (by omega)) hla w25 (hr.keep hs27 (by simp [keys])) (hSa.keep0 hs27)) rfl ?_)
          rintro _ w28 ⟨rfl, hc29⟩
          have hs30 := hs27.call0 hc29
          refine L0 (wanted_none rfl) rfl (y_move (v := Value.int _ _) rfl rfl) ?_
          refine L0 (wanted_none rfl) rfl (y_move (v := vb) rfl rfl) ?_
          refine Lc (wanted_none rfl) (c_call rfl rfl rfl Tryd.func15 (by kernel_rfl) rfl (mark_any k' b vb (markS_len k' b sb (by omega)) hlb w28 (hr.keep hs30 (by simp [keys])) (hSb.keep0 hs30)) rfl ?_)
          rintro _ w31 ⟨rfl, hc32⟩
          have hs33 := hs30.call0 hc32
          refine L0 (wanted_none rfl) rfl (y_assign (v := Value.string ⟨⟨_⟩⟩) rfl rfl) ?_
          refine L0 (wanted_none rfl) rfl (y_assign (v := Value.string ⟨⟨_⟩⟩) rfl rfl) ?_
          refine Lnil ?_
          refine W_seq ?_
          refine W_seq ?_
          refine W_region ?_
          refine L0 (wanted_none rfl) rfl (y_move (v := Value.string ⟨⟨_⟩⟩) rfl rfl) ?_
          refine L0 (wanted_none rfl) rfl (y_len rfl Tryd.underlying9 rfl) ?_
          refine L0 (wanted_none rfl) rfl (y_ne rfl rfl rfl) ?_
          refine L0 (wanted_none rfl) rfl (y_move (v := Value.bool _) rfl rfl) ?_
          refine Lkn (t := 52) (b0 := false) rfl (by exact bnF (by rw [shaOf_len]; rfl)) (fun h34 => ?_)
          refine L0 (wanted_yesB rfl rfl rfl h34) rfl (y_move (v := Value.string ⟨⟨_⟩⟩) rfl rfl) ?_
          refine L0 (wanted_yesB rfl rfl rfl h34) rfl (y_len rfl Tryd.underlying9 rfl) ?_
          refine L0 (wanted_yesB rfl rfl rfl h34) rfl (y_ne rfl rfl rfl) ?_
          refine L0 (wanted_none rfl) rfl (y_pickF rfl rfl h34 rfl) ?_
          refine L0 (wanted_none rfl) rfl (y_move (v := Value.bool _) rfl rfl) ?_
          refine Lkn (t := 57) (b0 := false) rfl (by exact bnF (by rw [shaOf_len]; rfl)) (fun h35 => ?_)
          refine L0 (wanted_yesB rfl rfl rfl h35) rfl (y_move (v := Value.string ⟨⟨_⟩⟩) rfl rfl) ?_
          refine L0 (wanted_yesB rfl rfl rfl h35) rfl (y_move (v := Value.string ⟨⟨_⟩⟩) rfl rfl) ?_
          refine L0 (wanted_yesB rfl rfl rfl h35) rfl (y_sslice_hi rfl Tryd.underlying9 rfl rfl (by rw [shaOf_len]; decide)) ?_
          refine L0 (wanted_yesB rfl rfl rfl h35) rfl (y_sne rfl rfl rfl) ?_
          refine L0 (wanted_none rfl) rfl (y_pickF rfl rfl h35 rfl) ?_
          refine L0 (wanted_none rfl) rfl (y_move (v := Value.bool _) rfl rfl) ?_
          refine Lkn (t := 63) (b0 := false) rfl (by exact bnF rfl) (fun h36 => ?_)
          refine L0 (wanted_yesB rfl rfl rfl h36) rfl (y_move (v := Value.string ⟨⟨_⟩⟩) rfl rfl) ?_
          refine L0 (wanted_yesB rfl rfl rfl h36) rfl (y_move (v := Value.string ⟨⟨_⟩⟩) rfl rfl) ?_
          refine L0 (wanted_yesB rfl rfl rfl h36) rfl (y_sslice_hi rfl Tryd.underlying9 rfl rfl (by rw [shaOf_len]; decide)) ?_
          refine L0 (wanted_yesB rfl rfl rfl h36) rfl (y_sne rfl rfl rfl) ?_
          refine L0 (wanted_none rfl) rfl (y_pickF rfl rfl h36 rfl) ?_
          refine L0 (wanted_none rfl) rfl (y_move (v := Value.bool _) rfl rfl) ?_
          refine Lkn (t := 69) (b0 := false) rfl (by exact bnF rfl) (fun h37 => ?_)
          refine L0 (wanted_yesB rfl rfl rfl h37) rfl (y_move (v := Value.string ⟨⟨_⟩⟩) rfl rfl) ?_
          refine L0 (wanted_yesB rfl rfl rfl h37) rfl (y_move (v := Value.string ⟨⟨_⟩⟩) rfl rfl) ?_
          refine L0 (wanted_yesB rfl rfl rfl h37) rfl (y_seq rfl rfl rfl) ?_
          refine L0 (wanted_yesB rfl rfl rfl h37) rfl (y_move (v := Value.int _ _) rfl rfl) ?_
          refine L0 (wanted_yesB rfl rfl rfl h37) rfl (y_move (v := Value.int _ _) rfl rfl) ?_
          refine L0 (wanted_yesB rfl rfl rfl h37) rfl (y_eq rfl rfl rfl) ?_
          refine L0 (wanted_yesB rfl rfl rfl h37) rfl (y_move (v := Value.bool _) rfl rfl) ?_
          refine Lsp (t := 76) rfl (fun h38 => ?_) (fun h38 => ?_)
          · have h38' := h38
            first | replace h38' := of_decide_eq_true h38' | replace h38' := bnT' h38' | skip
            refine L0 (wanted_yesB rfl rfl rfl h38) rfl (y_move (v := va) rfl rfl) ?_
            refine L0 (wanted_yesB rfl rfl rfl h38) rfl (y_move (v := vb) rfl rfl) ?_
            refine Lc (wanted_yesB rfl rfl rfl h38) (c_call rfl rfl rfl Tryd.func16 (by kernel_rfl) rfl (equal_any a b va vb hla w31 (hSa.keep0 hs33) (hSb.keep0 hs33)) rfl ?_)
            rintro _ w39 ⟨rfl, hc40⟩
            have hs41 := hs33.call0 hc40
            refine L0 (wanted_yesB rfl rfl rfl h37) rfl (y_pickT rfl rfl h38 rfl) ?_
            refine L0 (wanted_yesB rfl rfl rfl h37) rfl (y_bne rfl Tryd.underlying4 rfl rfl) ?_
            refine L0 (wanted_none rfl) rfl (y_pickF rfl rfl h37 rfl) ?_
            refine Lnil ?_
            refine Wkn (t := 82) (b0 := false) rfl (by first | exact ap_T hinj (by assumption) | exact ap_F hinj (by assumption)) (fun h42 => ?_)
            refine W_condF rfl h42 ?_
            refine W_skip ?_
            refine W_seq ?_
            refine W_region ?_
            refine L0 (wanted_none rfl) rfl (y_move (v := Value.string ⟨⟨_⟩⟩) rfl rfl) ?_
            refine L0 (wanted_none rfl) rfl (y_move (v := Value.string ⟨⟨_⟩⟩) rfl rfl) ?_
            refine L0 (wanted_none rfl) rfl (y_sne rfl rfl rfl) ?_
            refine L0 (wanted_none rfl) rfl (y_move (v := Value.bool _) rfl rfl) ?_
            refine Lsp (t := 86) rfl (fun h43 => ?_) (fun h43 => ?_)
            · have h43' := h43
              first | replace h43' := of_decide_eq_true h43' | replace h43' := bnT' h43' | skip
              refine Lno (wanted_noB rfl rfl rfl h43 (by decide)) rfl ?_
              refine Lno (wanted_noB rfl rfl rfl h43 (by decide)) rfl ?_
              refine Lno (wanted_noB rfl rfl rfl h43 (by decide)) rfl ?_
              refine Lno (wanted_noB rfl rfl rfl h43 (by decide)) rfl ?_
              refine Lno (wanted_noU rfl rfl rfl) rfl ?_
              refine Lno (wanted_noU rfl rfl rfl) rfl ?_
              refine Lno (wanted_noU rfl rfl rfl) rfl ?_
              refine Lno (wanted_noB rfl rfl rfl h43 (by decide)) rfl ?_
              refine L0 (wanted_none rfl) rfl (y_pickT rfl rfl h43 rfl) ?_
              refine L0 (wanted_none rfl) rfl (y_assign (v := Value.bool _) rfl rfl) ?_
              refine Lnil ?_
              refine W_ret ?_
              refine fin1 (fn := Tryd.f3) rfl rfl ?_
              first | exact ⟨congrArg Value.bool (by assumption), hs41⟩ | exact ⟨congrArg Value.bool (decide_eq_true (markOf_eq hinj (by assumption))), hs41⟩ | exact ⟨rfl, hs41⟩
            · have h43' := h43
              first | replace h43' := of_decide_eq_false h43' | replace h43' := bnF' h43' | skip
              refine L0 (wanted_yesB rfl rfl rfl h43) rfl (y_move (v := Value.string ⟨⟨_⟩⟩) rfl rfl) ?_
              refine L0 (wanted_yesB rfl rfl rfl h43) rfl (y_move (v := Value.string ⟨⟨_⟩⟩) rfl rfl) ?_
              refine L0 (wanted_yesB rfl rfl rfl h43) rfl (y_seq rfl rfl rfl) ?_
              refine L0 (wanted_yesB rfl rfl rfl h43) rfl (y_move (v := Value.bool _) rfl rfl) ?_
              refine Lkn (t := 90) (b0 := true) rfl (by exact decide_eq_true (by simp only [*])) (fun h44 => ?_)
              refine L0 (wanted_yesB rfl rfl rfl h44) rfl (y_move (v := Value.string ⟨⟨_⟩⟩) rfl rfl) ?_
              refine L0 (wanted_yesB rfl rfl rfl h44) rfl (y_move (v := Value.string ⟨⟨_⟩⟩) rfl rfl) ?_
              refine L0 (wanted_yesB rfl rfl rfl h44) rfl (y_seq rfl rfl rfl) ?_
              refine L0 (wanted_yesB rfl rfl rfl h43) rfl (y_pickT rfl rfl h44 rfl) ?_
              refine L0 (wanted_none rfl) rfl (y_pickF rfl rfl h43 rfl) ?_
              refine L0 (wanted_none rfl) rfl (y_assign (v := Value.bool _) rfl rfl) ?_
              refine Lnil ?_
              refine W_ret ?_
              refine fin1 (fn := Tryd.f3) rfl rfl ?_
              first | exact ⟨congrArg Value.bool (by assumption), hs41⟩ | exact ⟨congrArg Value.bool (decide_eq_true (markOf_eq hinj (by assumption))), hs41⟩ | exact ⟨rfl, hs41⟩
          · have h38' := h38
            first | replace h38' := of_decide_eq_false h38' | replace h38' := bnF' h38' | skip
            refine Lno (wanted_noB rfl rfl rfl h38 (by decide)) rfl ?_
            refine Lno (wanted_noB rfl rfl rfl h38 (by decide)) rfl ?_
            refine Lno (wanted_noB rfl rfl rfl h38 (by decide)) rfl ?_
            refine L0 (wanted_yesB rfl rfl rfl h37) rfl (y_pickF rfl rfl h38 rfl) ?_
            refine L0 (wanted_yesB rfl rfl rfl h37) rfl (y_bne rfl Tryd.underlying4 rfl rfl) ?_
            refine L0 (wanted_none rfl) rfl (y_pickF rfl rfl h37 rfl) ?_
            refine Lnil ?_
            refine Wkn (t := 82) (b0 := false) rfl (by first | exact ap_T hinj (by assumption) | exact ap_F hinj (by assumption)) (fun h45 => ?_)
            refine W_condF rfl h45 ?_
            refine W_skip ?_
            refine W_seq ?_
            refine W_region ?_
            refine L0 (wanted_none rfl) rfl (y_move (v := Value.string ⟨⟨_⟩⟩) rfl rfl) ?_
            refine L0 (wanted_none rfl) rfl (y_move (v := Value.string ⟨⟨_⟩⟩) rfl rfl) ?_
            refine L0 (wanted_none rfl) rfl (y_sne rfl rfl rfl) ?_
            refine L0 (wanted_none rfl) rfl (y_move (v := Value.bool _) rfl rfl) ?_
            refine Lsp (t := 86) rfl (fun h46 => ?_) (fun h46 => ?_)
            · have h46' := h46
              first | replace h46' := of_decide_eq_true h46' | replace h46' := bnT' h46' | skip
              refine Lno (wanted_noB rfl rfl rfl h46 (by decide)) rfl ?_
              refine Lno (wanted_noB rfl rfl rfl h46 (by decide)) rfl ?_
              refine Lno (wanted_noB rfl rfl rfl h46 (by decide)) rfl ?_
              refine Lno (wanted_noB rfl rfl rfl h46 (by decide)) rfl ?_
              refine Lno (wanted_noU rfl rfl rfl) rfl ?_
              refine Lno (wanted_noU rfl rfl rfl) rfl ?_
              refine Lno (wanted_noU rfl rfl rfl) rfl ?_
              refine Lno (wanted_noB rfl rfl rfl h46 (by decide)) rfl ?_
              refine L0 (wanted_none rfl) rfl (y_pickT rfl rfl h46 rfl) ?_
              refine L0 (wanted_none rfl) rfl (y_assign (v := Value.bool _) rfl rfl) ?_
              refine Lnil ?_
              refine W_ret ?_
              refine fin1 (fn := Tryd.f3) rfl rfl ?_
              first | exact ⟨congrArg Value.bool (by assumption), hs33⟩ | exact ⟨congrArg Value.bool (decide_eq_true (markOf_eq hinj (by assumption))), hs33⟩ | exact ⟨rfl, hs33⟩
            · have h46' := h46
              first | replace h46' := of_decide_eq_false h46' | replace h46' := bnF' h46' | skip
              refine L0 (wanted_yesB rfl rfl rfl h46) rfl (y_move (v := Value.string ⟨⟨_⟩⟩) rfl rfl) ?_
              refine L0 (wanted_yesB rfl rfl rfl h46) rfl (y_move (v := Value.string ⟨⟨_⟩⟩) rfl rfl) ?_
              refine L0 (wanted_yesB rfl rfl rfl h46) rfl (y_seq rfl rfl rfl) ?_
              refine L0 (wanted_yesB rfl rfl rfl h46) rfl (y_move (v := Value.bool _) rfl rfl) ?_
              refine Lkn (t := 90) (b0 := true) rfl (by exact decide_eq_true (by simp only [*])) (fun h47 => ?_)
              refine L0 (wanted_yesB rfl rfl rfl h47) rfl (y_move (v := Value.string ⟨⟨_⟩⟩) rfl rfl) ?_
              refine L0 (wanted_yesB rfl rfl rfl h47) rfl (y_move (v := Value.string ⟨⟨_⟩⟩) rfl rfl) ?_
              refine L0 (wanted_yesB rfl rfl rfl h47) rfl (y_seq rfl rfl rfl) ?_
              refine L0 (wanted_yesB rfl rfl rfl h46) rfl (y_pickT rfl rfl h47 rfl) ?_
              refine L0 (wanted_none rfl) rfl (y_pickF rfl rfl h46 rfl) ?_
              refine L0 (wanted_none rfl) rfl (y_assign (v := Value.bool _) rfl rfl) ?_
              refine Lnil ?_
              refine W_ret ?_
              refine fin1 (fn := Tryd.f3) rfl rfl ?_
              first | exact ⟨congrArg Value.bool (by assumption), hs33⟩ | exact ⟨congrArg Value.bool (decide_eq_true (markOf_eq hinj (by assumption))), hs33⟩ | exact ⟨rfl, hs33⟩
end Go.Proofs.YtkolfgmpmnelmaaDoor
