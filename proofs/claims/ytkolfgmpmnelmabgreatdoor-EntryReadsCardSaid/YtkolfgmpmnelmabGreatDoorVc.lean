/-
  A small frame for walks, 3: a region whose order is open, walked in one order: first whatever is quiet, one changing operation at a time.
-/
import Derived.Test.YtkolfgmpmnelmabGreatDoorVb
namespace Go.Proofs.YtkolfgmpmnelmabGreatDoor.Vx
open Go

section
variable {P : Program} {ops : Array Oper} {Q : Exit → Act → World → Prop} {S : World → Prop} {kd : Nat → Nat}

/-- Whatever comes up: behind it S holds still, unless it is of kind 2. Kinds: 0 quiet in any world, 1 quiet in worlds of S, 2 the last that may turn what S tells, 3 any other. -/
def wpM (P : Program) (ops : Array Oper) (Q : Exit → Act → World → Prop) (S : World → Prop) (kd : Nat → Nat) : Nat → Array Bool → Act → World → Prop
  | 0, l, a, w => Region.ready .any ops l = [] ∧ Q .normal a w
  | f + 1, l, a, w => (Region.ready .any ops l = [] → Q .normal a w) ∧
    ∀ i ∈ Region.ready .any ops l, wpOp P ops Q i (fun a' w' => (kd i ≠ 2 → S w → S w') ∧ wpM P ops Q S kd f (l.setIfInBounds i true) a' w') a w

theorem wpAny_of_M : ∀ (f : Nat) (l : Array Bool) (a : Act) (w : World), wpM P ops Q S kd f l a w → wpAny P .any ops Q f l a w
  | 0, _, _, _, h => h
  | f + 1, _, _, _, h => ⟨h.1, fun i hi => wpOp_mono (fun a' w' h' => wpAny_of_M f _ a' w' h'.2) (h.2 i hi)⟩

theorem wpM_first {i : Nat} {oi : Oper} {v : Value} (hi : ops[i]? = some oi) (hs : Region.noSelect ops = true)
    (hQ : ∀ c a w, Q (.panic c) (a.put oi.dst v) w → Q (.panic c) a w)
    (hd : ∀ j oj, ops[j]? = some oj → kd j = 2 → kd i = 1 → j ≠ i → ∃ e ∈ oj.after, Region.binds .any e = true ∧ e.on = i) :
    ∀ (f : Nat) (l : Array Bool) (a : Act) (w : World),
      (∀ j oj, ops[j]? = some oj → j ≠ i → l.getD j true = false → (∀ e ∈ oj.after, Region.binds .any e = true → e.on ≠ i) → oi.apart ops oj = true) →
      i ∈ Region.ready .any ops l → YieldsIf P ops (fun w => kd i = 1 → S w) oi v a → (kd i = 1 → S w) →
      wpM P ops Q S kd f (l.setIfInBounds i true) (a.put oi.dst v) w → wpM P ops Q S kd (f + 1) l a w := by
  have hsel := Region.noSelect_spec hs
  intro f
  induction f with
  | zero =>
    intro l a w _ hr hy hS H
    refine ⟨fun h => (by rw [h] at hr; cases hr), fun j hj => ?_⟩
    by_cases hji : j = i
    · subst hji
      exact hy.wpOp hi hS ⟨fun _ h => h, H⟩
    · exact absurd (ready_mono hj hji) (by rw [H.1]; simp)
  | succ f ih =>
    intro l a w hfree hr hy hS H
    refine ⟨fun h => (by rw [h] at hr; cases hr), fun j hj => ?_⟩
    by_cases hji : j = i
    · subst hji
      exact hy.wpOp hi hS ⟨fun _ h => h, H⟩
    · have h1 := H.2 j (ready_mono hj hji)
      have hun : l.getD i true = false := (mem_ready.1 hr).1
      obtain ⟨hjun, oj, hoj, hall⟩ := mem_ready.1 hj
      have hunf : l.getD i false = false := by
        rcases Nat.lt_or_ge i l.size with h' | h'
        · simpa [h'] using hun
        · simp [Array.getElem?_eq_none h']
      have hnot : ∀ e ∈ oj.after, Region.binds .any e = true → e.on ≠ i := fun e he hb heq => by
        have h2 := hall e he hb
        rw [heq, hunf] at h2
        cases h2
      have h2 := wpOp_putIf hoj (hfree j oj hoj hji hjun hnot) (fun cs b => hsel i oi cs b hi) (fun cs b => hsel j oj cs b hoj) hQ hy h1
      have hk : kd i = 1 → kd j ≠ 2 := fun hk1 hk2 => by
        obtain ⟨e, he, hb, hon⟩ := hd j oj hoj hk2 hk1 hji
        exact hnot e he hb hon
      refine wpOp_mono (fun a' w' h3 => ⟨h3.2.1, ih (l.setIfInBounds j true) a' w' ?_ (ready_mono hr (Ne.symm hji)) h3.1 (fun hk1 => h3.2.1 (hk hk1) (hS hk1)) ?_⟩) h2
      · intro k ok hko hki hun' hno
        refine hfree k ok hko hki ?_ hno
        by_cases hjk : j = k
        · subst hjk; exact hjun
        · rw [getD_set_ne true hjk] at hun'; exact hun'
      · rw [Array.setIfInBounds_comm _ _ hji]
        exact h3.2.2

/-- One walk, in a given order: (kind, number, operation). -/
def wpE0 (P : Program) (ops : Array Oper) (p : Post) (S : World → Prop) : List (Nat × Nat × Oper) → Act → World → Prop
  | [], a, w => p.nrm a w
  | (k, _, o) :: r, a, w => match k with
    | 0 => ∃ v, YieldsIf P ops (fun _ => True) o v a ∧ wpE0 P ops p S r (a.put o.dst v) w
    | 1 => S w ∧ ∃ v, YieldsIf P ops S o v a ∧ wpE0 P ops p S r (a.put o.dst v) w
    | 2 => (if Region.wanted o (yielded ops a.tmps) then o.wp P a w (fun a' w' => wpE0 P ops p S r a' w') p.Q else wpE0 P ops p S r (a.put o.dst undef) w)
    | _ => (if Region.wanted o (yielded ops a.tmps) then o.wp P a w (fun a' w' => (S w → S w') ∧ wpE0 P ops p S r a' w') p.Q else wpE0 P ops p S r (a.put o.dst undef) w)

def kindOf (perm : List (Nat × Nat)) (i : Nat) : Nat := ((perm.find? (·.2 == i)).map (·.1)).getD 3
def dirB (ops : Array Oper) (kd : Nat → Nat) (i : Nat) : Bool :=
  kd i != 1 || (List.range ops.size).all fun j => j == i || kd j != 2 || match ops[j]? with
    | some oj => oj.after.any fun e => Region.binds .any e && e.on == i
    | none => true
def okE (ops : Array Oper) (kd : Nat → Nat) : List (Nat × Nat) → Array Bool → Bool
  | [], l => (Region.ready .any ops l).isEmpty
  | (k, i) :: r, l => kd i == k && decide (i < ops.size) && (match k with
    | 0 | 1 => (Region.ready .any ops l).contains i && Region.free .any ops l i && dirB ops kd i
    | 2 | 3 => Region.ready .any ops l == [i]
    | _ => false) && okE ops kd r (l.setIfInBounds i true)
def mkE (ops : Array Oper) : List (Nat × Nat) → List (Nat × Nat × Oper)
  | [] => []
  | (k, i) :: r => (k, i, ops.getD i default) :: mkE ops r

theorem dirB_spec {i : Nat} (h : dirB ops kd i = true) : ∀ j oj, ops[j]? = some oj → kd j = 2 → kd i = 1 → j ≠ i → ∃ e ∈ oj.after, Region.binds .any e = true ∧ e.on = i := by
  intro j oj hj hk2 hk1 hji
  simp only [dirB, hk1, bne_self_eq_false, Bool.false_or, List.all_eq_true, List.mem_range] at h
  have h1 := h j (Array.getElem?_eq_some_iff.1 hj).1
  simp only [hj, hk2, bne_self_eq_false, Bool.or_false, Bool.or_eq_true, beq_iff_eq, hji, false_or] at h1
  obtain ⟨e, he, hb⟩ := Array.any_eq_true'.1 h1
  simp only [Bool.and_eq_true, beq_iff_eq] at hb
  exact ⟨e, he, hb.1, hb.2⟩

theorem wpOp_of {p : Post} {i : Nat} {o : Oper} {K K' : Act → World → Prop} {a : Act} {w : World} (ho : ops[i]? = some o)
    (h : if Region.wanted o (yielded ops a.tmps) then o.wp P a w K' p.Q else K' (a.put o.dst undef) w) (key : ∀ a' w', K' a' w' → K a' w') : wpOp P ops p.Q i K a w := by
  unfold wpOp
  simp only [ho]
  split
  · rename_i hw
    rw [if_pos hw] at h
    refine .inl ?_
    revert h
    unfold Oper.wp
    generalize (execOp a.eval o).run P w = rr
    intro h
    cases rr with
    | ok x w' =>
      cases x <;> simp only [Oper.upon] at h ⊢
      case enter f args =>
        refine Calls.mono h fun e w'' he => ?_
        cases e with
        | returned u => exact key _ _ he
        | panicked c => exact he
        | outgrown => exact he
      case row row args => exact Rows.mono h fun u w'' he => key _ _ he
      all_goals exact key _ _ h
    | halt x w' => cases x <;> exact h
  · rename_i hw
    rw [if_neg hw] at h
    exact key _ _ h

theorem wpM_of_E {p : Post} (hs : Region.noSelect ops = true) : ∀ (perm : List (Nat × Nat)) (l : Array Bool) (a : Act) (w : World),
    okE ops kd perm l = true → wpE0 P ops p S (mkE ops perm) a w → wpM P ops p.Q S kd perm.length l a w
  | [], l, a, w, hB, h => ⟨by simpa [okE] using hB, h⟩
  | (k, i) :: r, l, a, w, hB, h => by
    simp only [okE, Bool.and_eq_true, beq_iff_eq, decide_eq_true_eq] at hB
    obtain ⟨⟨⟨hk, hlt⟩, hB1⟩, hB2⟩ := hB
    have ho : ops[i]? = some (ops.getD i default) := by simp [hlt]
    have ih := fun a w => wpM_of_E (p := p) hs r (l.setIfInBounds i true) a w hB2
    have quiet : k ≤ 1 → ∀ v, YieldsIf P ops (fun w => kd i = 1 → S w) (ops.getD i default) v a → (kd i = 1 → S w) → wpE0 P ops p S (mkE ops r) (a.put (ops.getD i default).dst v) w →
        (Region.ready .any ops l).contains i = true → Region.free .any ops l i = true → dirB ops kd i = true → wpM P ops p.Q S kd (r.length + 1) l a w := by
      intro _ v hy hS hr h1 h2 h3
      exact wpM_first ho hs (fun _ _ _ h => h) (dirB_spec h3) r.length l a w (Region.free_spec ho h2) (by simpa using h1) hy hS (ih _ _ hr)
    match k, hk, hB1, h with
    | 0, hk, hB1, h =>
      simp only [Bool.and_eq_true] at hB1
      obtain ⟨v, hy, hr⟩ := h
      refine quiet (by omega) v (hy.imp (fun ⟨h1, h2⟩ => ⟨h1, fun w _ => h2 w trivial⟩) id) (fun h => by omega) hr hB1.1.1 hB1.1.2 hB1.2
    | 1, hk, hB1, h =>
      simp only [Bool.and_eq_true] at hB1
      obtain ⟨hS, v, hy, hr⟩ := h
      refine quiet (by omega) v (hy.imp (fun ⟨h1, h2⟩ => ⟨h1, fun w h3 => h2 w (h3 hk)⟩) id) (fun _ => hS) hr hB1.1.1 hB1.1.2 hB1.2
    | 2, hk, hB1, h =>
      simp only [beq_iff_eq] at hB1
      refine ⟨fun h0 => (by rw [h0] at hB1; cases hB1), ?_⟩
      rw [hB1]
      intro j hj
      simp only [List.mem_singleton] at hj
      subst hj
      exact wpOp_of (K' := fun a' w' => wpE0 P ops p S (mkE ops r) a' w') ho h fun a' w' h => ⟨fun h1 => absurd hk h1, ih _ _ h⟩
    | 3, hk, hB1, h =>
      simp only [beq_iff_eq] at hB1
      refine ⟨fun h0 => (by rw [h0] at hB1; cases hB1), ?_⟩
      rw [hB1]
      intro j hj
      simp only [List.mem_singleton] at hj
      subst hj
      simp only [mkE, wpE0] at h
      obtain ⟨oj, hoj⟩ : ∃ oj, ops.getD j default = oj := ⟨_, rfl⟩
      rw [hoj] at h ho
      refine wpOp_of (K' := fun a' w' => (S w → S w') ∧ wpE0 P ops p S (mkE ops r) a' w') ho ?_ fun a' w' h => ⟨fun _ => h.1, ih _ _ h.2⟩
      by_cases hw : Region.wanted oj (yielded ops a.tmps) = true
      · rw [if_pos hw] at h ⊢; exact h
      · rw [if_neg hw] at h ⊢; exact ⟨fun h => h, h⟩
    | k + 4, _, hB1, _ => cases hB1
end

/-- The same, closed: nothing lays it open by itself. -/
structure wpE (P : Program) (ops : Array Oper) (p : Post) (S : World → Prop) (l : List (Nat × Nat × Oper)) (a : Act) (w : World) : Prop where
  out : wpE0 P ops p S l a w
/-- A region whose order is open. -/
theorem W_draw {P : Program} {p : Post} {id : Nat} {ops : Array Oper} {a : Act} {w : World} (perm : List (Nat × Nat)) (S : World → Prop) (hm : P.follows .mixedOrders = true)
    (hs : (Region.noSelect ops && (perm.length == ops.size) && okE ops (kindOf perm) perm (Array.replicate ops.size false)) = true)
    (h : wpE P ops p S (mkE ops perm) a { w with drawn := w.drawn + 1 }) : W P (.region id ops true) p a w := by
  replace h := h.out
  simp only [Bool.and_eq_true, beq_iff_eq] at hs
  refine wp_region_any hm (wpAny_of_M (S := S) (kd := kindOf perm) _ _ _ _ ?_)
  have h1 := wpM_of_E hs.1.1 perm _ a _ hs.2 h
  rw [hs.1.2] at h1
  exact h1

/-- A region in the text's order. -/
def wpL0 (P : Program) (ops : Array Oper) (p : Post) : List Oper → Act → World → Prop
  | [], a, w => p.nrm a w
  | o :: r, a, w => if Region.wanted o (yielded ops a.tmps) then o.wp P a w (wpL0 P ops p r) p.Q else wpL0 P ops p r (a.put o.dst undef) w
theorem wpList_of_L {P : Program} {ops : Array Oper} {p : Post} : ∀ (l : List Oper) (a : Act) (w : World), wpL0 P ops p l a w → wpList P ops p.Q l a w
  | [], _, _, h => h
  | o :: r, a, w, h => by
    simp only [wpL0] at h
    simp only [wpList]
    split
    · rename_i hw
      rw [if_pos hw] at h
      refine .inl ?_
      revert h
      unfold Oper.wp
      generalize (execOp a.eval o).run P w = rr
      intro h
      cases rr with
      | ok x w' =>
        cases x <;> simp only [Oper.upon] at h ⊢
        case enter f args =>
          refine Calls.mono h fun e w'' he => ?_
          cases e with
          | returned u => exact wpList_of_L _ _ _ he
          | panicked c => exact he
          | outgrown => exact he
        case row row args => exact Rows.mono h fun u w'' he => wpList_of_L _ _ _ he
        all_goals exact wpList_of_L _ _ _ h
      | halt x w' => cases x <;> exact h
    · rename_i hw
      rw [if_neg hw] at h
      exact wpList_of_L _ _ _ h
structure wpL (P : Program) (ops : Array Oper) (p : Post) (l : List Oper) (a : Act) (w : World) : Prop where
  out : wpL0 P ops p l a w
theorem W_region {P : Program} {p : Post} {id : Nat} {l : List Oper} {a : Act} {w : World} (h : wpL P l.toArray p l a w) : W P (.region id l.toArray false) p a w :=
  wp_region_lit (wpList_of_L _ _ _ h.out)
end Go.Proofs.YtkolfgmpmnelmabGreatDoor.Vx
