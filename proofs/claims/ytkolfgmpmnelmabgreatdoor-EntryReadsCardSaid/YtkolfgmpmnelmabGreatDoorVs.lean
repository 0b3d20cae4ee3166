/-
  A small frame for walks, 14: a region whose order is open, in which several operations that turn the world may come up: all their orders.
-/
import Derived.Test.YtkolfgmpmnelmabGreatDoorVr
namespace Go.Proofs.YtkolfgmpmnelmabGreatDoor.Vx
open Go

inductive Plan where
  | nil
  | one (k i : Nat) (o : Oper) (r : Plan)
  | fork (l r : Plan)
/-- The plan without the operations themselves. -/
inductive Pl where
  | nil
  | one (k i : Nat) (r : Pl)
  | fork (l r : Pl)
def mkT (ops : Array Oper) : Pl → Plan
  | .nil => .nil
  | .one k i r => .one k i (ops.getD i default) (mkT ops r)
  | .fork l r => .fork (mkT ops l) (mkT ops r)
def Pl.heads : Pl → List Nat
  | .one 3 i _ => [i]
  | .fork l r => l.heads ++ r.heads
  | _ => []
def Pl.depth : Pl → Nat
  | .nil => 0
  | .one _ _ r => r.depth + 1
  | .fork l _ => l.depth

section
variable {P : Program} {ops : Array Oper} {S : World → Prop} {kd : Nat → Nat}
def wpT0 (P : Program) (ops : Array Oper) (p : Post) (S : World → Prop) : Plan → Act → World → Prop
  | .nil, a, w => p.nrm a w
  | .fork l r, a, w => wpT0 P ops p S l a w ∧ wpT0 P ops p S r a w
  | .one k _ o r, a, w => match k with
    | 0 => ∃ v, YieldsIf P ops (fun _ => True) o v a ∧ wpT0 P ops p S r (a.put o.dst v) w
    | 1 => S w ∧ ∃ v, YieldsIf P ops S o v a ∧ wpT0 P ops p S r (a.put o.dst v) w
    | 2 => (if Region.wanted o (yielded ops a.tmps) then o.wp P a w (fun a' w' => wpT0 P ops p S r a' w') p.Q else wpT0 P ops p S r (a.put o.dst undef) w)
    | _ => (if Region.wanted o (yielded ops a.tmps) then o.wp P a w (fun a' w' => (S w → S w') ∧ wpT0 P ops p S r a' w') p.Q else wpT0 P ops p S r (a.put o.dst undef) w)
/-- All branches of a fork, one operation each; d: how many operations are to come behind this one. -/
def okB (ops : Array Oper) (kd : Nat → Nat) (rec : Pl → Array Bool → Nat → Bool) (d : Nat) (l : Array Bool) : Pl → Bool
  | .one k i r => k == 3 && kd i == 3 && decide (i < ops.size) && rec r (l.setIfInBounds i true) d
  | .fork a b => okB ops kd rec d l a && okB ops kd rec d l b
  | .nil => false
def okT (ops : Array Oper) (kd : Nat → Nat) : Nat → Pl → Array Bool → Nat → Bool
  | 0, _, _, _ => false
  | f + 1, .nil, l, d => (Region.ready .any ops l).isEmpty && d == 0
  | f + 1, .one k i r, l, d => kd i == k && decide (i < ops.size) && (match k with
    | 0 | 1 => (Region.ready .any ops l).contains i && Region.free .any ops l i && dirB ops kd i
    | 2 | 3 => Region.ready .any ops l == [i]
    | _ => false) && (match d with | 0 => false | d + 1 => okT ops kd f r (l.setIfInBounds i true) d)
  | f + 1, .fork a b, l, d => !(Region.ready .any ops l).isEmpty && (Region.ready .any ops l).all (fun i => (Pl.fork a b).heads.contains i) && (match d with | 0 => false | d + 1 => okB ops kd (okT ops kd f) d l (.fork a b))

theorem heads_op {p : Post} {rec : Pl → Array Bool → Nat → Bool} {d : Nat} {l : Array Bool} {a : Act} {w : World} (ih : ∀ r l a w, rec r l d = true → wpT0 P ops p S (mkT ops r) a w → wpM P ops p.Q S kd d l a w) :
    ∀ (t : Pl) (i : Nat), i ∈ t.heads → okB ops kd rec d l t = true → wpT0 P ops p S (mkT ops t) a w → wpOp P ops p.Q i (fun a' w' => (kd i ≠ 2 → S w → S w') ∧ wpM P ops p.Q S kd d (l.setIfInBounds i true) a' w') a w
  | .nil, i, h, _, _ => by cases h
  | .fork x y, i, h, hB, hw => by
    simp only [okB, Bool.and_eq_true] at hB
    rcases List.mem_append.1 h with h' | h'
    · exact heads_op ih x i h' hB.1 hw.1
    · exact heads_op ih y i h' hB.2 hw.2
  | .one k j r, i, h, hB, hw => by
    simp only [okB, Bool.and_eq_true, beq_iff_eq, decide_eq_true_eq] at hB
    obtain ⟨⟨⟨rfl, hk⟩, hlt⟩, hr⟩ := hB
    have hij : i = j := by simpa [Pl.heads] using h
    subst hij
    have ho : ops[i]? = some (ops.getD i default) := by simp [hlt]
    simp only [mkT, wpT0] at hw
    obtain ⟨oj, hoj⟩ : ∃ oj, ops.getD i default = oj := ⟨_, rfl⟩
    rw [hoj] at hw ho
    refine wpOp_of (K' := fun a' w' => (S w → S w') ∧ wpT0 P ops p S (mkT ops r) a' w') ho ?_ fun a' w' h => ⟨fun _ => h.1, ih _ _ _ _ hr h.2⟩
    by_cases hwt : Region.wanted oj (yielded ops a.tmps) = true
    · rw [if_pos hwt] at hw ⊢; exact hw
    · rw [if_neg hwt] at hw ⊢; exact ⟨fun h => h, hw⟩
theorem wpM_of_T {p : Post} (hs : Region.noSelect ops = true) : ∀ (f : Nat) (t : Pl) (l : Array Bool) (d : Nat) (a : Act) (w : World),
    okT ops kd f t l d = true → wpT0 P ops p S (mkT ops t) a w → wpM P ops p.Q S kd d l a w
  | 0, _, _, _, _, _, hB, _ => by simp [okT] at hB
  | f + 1, .nil, l, d, a, w, hB, h => by
    simp only [okT, Bool.and_eq_true, beq_iff_eq] at hB
    obtain ⟨h1, rfl⟩ := hB
    exact ⟨by simpa using h1, h⟩
  | f + 1, .fork x y, l, d, a, w, hB, h => by
    simp only [okT, Bool.and_eq_true] at hB
    match d, hB with
    | 0, hB => cases hB.2
    | d + 1, hB =>
      have hh := hB.1.2
      rw [List.all_eq_true] at hh
      refine ⟨fun h0 => ?_, fun i hi => ?_⟩
      · have h1 := hB.1.1
        rw [h0] at h1; cases h1
      · have hc := hh i hi
        simp only [List.contains_iff_mem] at hc
        exact heads_op (fun r l a w hr hw => wpM_of_T hs f r l d a w hr hw) (.fork x y) i hc hB.2 h
  | f + 1, .one k i r, l, d, a, w, hB, h => by
    match d, hB with
    | 0, hB => simp [okT] at hB
    | d + 1, hB =>
      simp only [okT, Bool.and_eq_true, beq_iff_eq, decide_eq_true_eq] at hB
      obtain ⟨⟨⟨hk, hlt⟩, hB1⟩, hB2⟩ := hB
      have ho : ops[i]? = some (ops.getD i default) := by simp [hlt]
      have ih := fun a w => wpM_of_T (p := p) hs f r (l.setIfInBounds i true) d a w hB2
      have quiet : k ≤ 1 → ∀ v, YieldsIf P ops (fun w => kd i = 1 → S w) (ops.getD i default) v a → (kd i = 1 → S w) → wpT0 P ops p S (mkT ops r) (a.put (ops.getD i default).dst v) w →
          (Region.ready .any ops l).contains i = true → Region.free .any ops l i = true → dirB ops kd i = true → wpM P ops p.Q S kd (d + 1) l a w := by
        intro _ v hy hS hr h1 h2 h3
        exact wpM_first ho hs (fun _ _ _ h => h) (dirB_spec h3) d l a w (Region.free_spec ho h2) (by simpa using h1) hy hS (ih _ _ hr)
      match k, hk, hB1, h with
      | 0, hk, hB1, h =>
        simp only [Bool.and_eq_true] at hB1
        obtain ⟨v, hy, hr⟩ := h
        exact quiet (by omega) v (hy.imp (fun ⟨h1, h2⟩ => ⟨h1, fun w _ => h2 w trivial⟩) id) (fun h => by omega) hr hB1.1.1 hB1.1.2 hB1.2
      | 1, hk, hB1, h =>
        simp only [Bool.and_eq_true] at hB1
        obtain ⟨hS, v, hy, hr⟩ := h
        exact quiet (by omega) v (hy.imp (fun ⟨h1, h2⟩ => ⟨h1, fun w h3 => h2 w (h3 hk)⟩) id) (fun _ => hS) hr hB1.1.1 hB1.1.2 hB1.2
      | 2, hk, hB1, h =>
        simp only [beq_iff_eq] at hB1
        refine ⟨fun h0 => (by rw [h0] at hB1; cases hB1), ?_⟩
        rw [hB1]
        intro j hj
        simp only [List.mem_singleton] at hj
        subst hj
        exact wpOp_of (K' := fun a' w' => wpT0 P ops p S (mkT ops r) a' w') ho h fun a' w' h => ⟨fun h1 => absurd hk h1, ih _ _ h⟩
      | 3, hk, hB1, h =>
        simp only [beq_iff_eq] at hB1
        refine ⟨fun h0 => (by rw [h0] at hB1; cases hB1), ?_⟩
        rw [hB1]
        intro j hj
        simp only [List.mem_singleton] at hj
        subst hj
        simp only [mkT, wpT0] at h
        obtain ⟨oj, hoj⟩ : ∃ oj, ops.getD j default = oj := ⟨_, rfl⟩
        rw [hoj] at h ho
        refine wpOp_of (K' := fun a' w' => (S w → S w') ∧ wpT0 P ops p S (mkT ops r) a' w') ho ?_ fun a' w' h => ⟨fun _ => h.1, ih _ _ h.2⟩
        by_cases hw : Region.wanted oj (yielded ops a.tmps) = true
        · rw [if_pos hw] at h ⊢; exact h
        · rw [if_neg hw] at h ⊢; exact ⟨fun h => h, h⟩
      | k + 4, _, hB1, _ => cases hB1
end

/-- The same, closed. -/
structure wpT (P : Program) (ops : Array Oper) (p : Post) (S : World → Prop) (t : Plan) (a : Act) (w : World) : Prop where
  out : wpT0 P ops p S t a w
theorem W_drawT {P : Program} {p : Post} {id : Nat} {ops : Array Oper} {a : Act} {w w0 : World} {L : Blocks} (S : World → Prop) (perm : List (Nat × Nat)) (t : Pl) (hs : St w0 L w) (hm : P.follows .mixedOrders = true)
    (hst : (Region.noSelect ops && okT ops (kindOf perm) 1000 t (Array.replicate ops.size false) ops.size) = true)
    (h : ∀ w', St w0 L w' → wpT P ops p S (mkT ops t) a w') : W P (.region id ops true) p a w := by
  simp only [Bool.and_eq_true] at hst
  exact wp_region_any hm (wpAny_of_M (S := S) (kd := kindOf perm) _ _ _ _ (wpM_of_T hst.1 1000 t _ _ _ _ hst.2 (h _ (hs.drewN _)).out))

section
variable {P : Program} {ops : Array Oper} {p : Post} {n : Nat} {e : Env} {ds : List Deferred} {o : Oper} {S : World → Prop} {w : World} {r r' : Plan} {i d : Nat} {v : Value}
theorem Tfork (h1 : wpT P ops p S r (A n e ds) w) (h2 : wpT P ops p S r' (A n e ds) w) : wpT P ops p S (.fork r r') (A n e ds) w := ⟨⟨h1.out, h2.out⟩⟩
theorem T0 (hw : Region.wanted o (yielded ops (A n e ds).tmps) = true) (hd : o.dst = some d) (h : Y0 P n e o v) (k : wpT P ops p S r (A n ((d, v) :: e) ds) w) : wpT P ops p S (.one 0 i o r) (A n e ds) w :=
  ⟨⟨v, .inl ⟨hw, fun w _ => by rw [A_eval]; exact h w⟩, by rw [hd, A_put]; exact k.out⟩⟩
theorem Tno (hw : Region.wanted o (yielded ops (A n e ds).tmps) = false) (hd : o.dst = some d) (k : wpT P ops p S r (A n ((d, undef) :: e) ds) w) : wpT P ops p S (.one 0 i o r) (A n e ds) w :=
  ⟨⟨undef, .inr ⟨hw, rfl⟩, by rw [hd, A_put]; exact k.out⟩⟩
theorem T1no (hS : S w) (hw : Region.wanted o (yielded ops (A n e ds).tmps) = false) (hd : o.dst = some d) (k : wpT P ops p S r (A n ((d, undef) :: e) ds) w) : wpT P ops p S (.one 1 i o r) (A n e ds) w :=
  ⟨⟨hS, undef, .inr ⟨hw, rfl⟩, by rw [hd, A_put]; exact k.out⟩⟩
theorem T1 (hS : S w) (hw : Region.wanted o (yielded ops (A n e ds).tmps) = true) (hd : o.dst = some d) (h : Y1 P n e o S v) (k : wpT P ops p S r (A n ((d, v) :: e) ds) w) : wpT P ops p S (.one 1 i o r) (A n e ds) w :=
  ⟨⟨hS, v, .inl ⟨hw, fun w hs => by rw [A_eval]; exact h w hs⟩, by rw [hd, A_put]; exact k.out⟩⟩
theorem T2 (hw : Region.wanted o (yielded ops (A n e ds).tmps) = true) (h : OW P o (A n e ds) w (wpT P ops p S r) p.Q) : wpT P ops p S (.one 2 i o r) (A n e ds) w := by
  refine ⟨?_⟩
  simp only [wpT0]; rw [if_pos hw]; exact wp_K h.out fun _ _ h => h.out
theorem T2no (hw : Region.wanted o (yielded ops (A n e ds).tmps) = false) (hd : o.dst = some d) (k : wpT P ops p S r (A n ((d, undef) :: e) ds) w) : wpT P ops p S (.one 2 i o r) (A n e ds) w := by
  refine ⟨?_⟩
  simp only [wpT0]; rw [if_neg (by rw [hw]; simp), hd, A_put]; exact k.out
theorem T3no (hw : Region.wanted o (yielded ops (A n e ds).tmps) = false) (hd : o.dst = some d) (k : wpT P ops p S r (A n ((d, undef) :: e) ds) w) : wpT P ops p S (.one 3 i o r) (A n e ds) w := by
  refine ⟨?_⟩
  simp only [wpT0]; rw [if_neg (by rw [hw]; simp), hd, A_put]; exact k.out
theorem T3 (hw : Region.wanted o (yielded ops (A n e ds).tmps) = true) (h : OW P o (A n e ds) w (fun a' w' => (S w → S w') ∧ wpT P ops p S r a' w') p.Q) : wpT P ops p S (.one 3 i o r) (A n e ds) w := by
  refine ⟨?_⟩
  simp only [wpT0]; rw [if_pos hw]; exact wp_K h.out fun _ _ h => ⟨h.1, h.2.out⟩
theorem Tnil (h : p.nrm (A n e ds) w) : wpT P ops p S .nil (A n e ds) w := ⟨h⟩
theorem Tsp {t : Nat} {b : Bool} (hb : opv n e (.tmp t) = .bool b) (h1 : b = true → wpT P ops p S r (A n e ds) w) (h2 : b = false → wpT P ops p S r (A n e ds) w) : wpT P ops p S r (A n e ds) w := by
  cases b
  · exact h2 rfl
  · exact h1 rfl
theorem Tkn {t : Nat} {b b0 : Bool} (_ : opv n e (.tmp t) = .bool b) (h : b = b0) (k : b = b0 → wpT P ops p S r (A n e ds) w) : wpT P ops p S r (A n e ds) w := k h
/-- What only reads, where it stands. -/
theorem c_ofY {S' : World → Prop} {K : Act → World → Prop} {Q : Exit → Act → World → Prop} (hd : o.dst = some d) (hS : S' w) (h : Y1 P n e o S' v) (k : K (A n ((d, v) :: e) ds) w) : OW P o (A n e ds) w K Q := by
  refine ⟨?_⟩
  unfold Oper.wp
  rw [A_eval, h w hS]
  simp only [Oper.upon, hd, A_put]; exact k
end
end Go.Proofs.YtkolfgmpmnelmabGreatDoor.Vx
