/-
  A small frame for walks, 16: the same walk within a round of a range over a function: the frame's rules at the wide fence's round.
-/
import Derived.TacticsIn
import Derived.Sort.LoopGhostIn
import Derived.RangeFuncCalls
import Derived.OrdersIn
import Derived.Test.YtkolfgmpmnelmabGreatDoorVs
namespace Go.Proofs.YtkolfgmpmnelmabGreatDoor.Vx
open Go

def isDefer : Op → Bool | .defer _ => true | _ => false
def noDefer (ops : Array Oper) : Bool := ops.all fun o => !isDefer o.op
theorem rowsIn_of {n l : Nat} {P : Program} {row : String} {args : Array Value} {w : World} {R : Value → World → Prop} (h : Rows P row args w R) : RowsIn (Fence.wide.inRound l) n P row args w R :=
  fun c cs _ => let ⟨v, w', r, s⟩ := h c cs; ⟨v, w', r, stepsIn_wide.2 s⟩
theorem opIn {P : Program} {l n : Nat} {o : Oper} {a : Act} {w : World} {K : Act → World → Prop} {Q : Exit → Act → World → Prop} (hd : isDefer o.op = false) (h : o.wp P a w K Q) : o.wpIn (Fence.wide.inRound l) n P a w K Q := by
  unfold Oper.wp at h
  unfold Oper.wpIn
  refine ⟨fun _ _ => trivial, ?_⟩
  rw [show (Fence.wide.inRound l).round = some l from rfl, Oper.semAt_some l _ _ (fun c hc => by rw [hc] at hd; cases hd)]
  revert h
  generalize (execOp a.eval o).run P w = r
  intro h
  have hdp : (Fence.wide.inRound l).depth.isSome = true → 1 ≤ n := fun h => by cases h
  cases r with
  | ok x w' =>
    cases x <;> simp only [Oper.upon, Oper.uponIn] at h ⊢ <;>
      first
        | exact h
        | exact ⟨hdp, CallsIn.inRound l (callsIn_wide.2 h)⟩
        | exact ⟨hdp, rowsIn_of h⟩
  | halt x w' => cases x <;> simp only [Oper.upon, Oper.uponIn] at h ⊢ <;> exact h
theorem opIn_i {P : Program} {ops : Array Oper} {l n i : Nat} {a : Act} {w : World} {K : Act → World → Prop} {Q : Exit → Act → World → Prop} (hno : ¬ LetsOut Q) (hd : noDefer ops = true) (h : wpOp P ops Q i K a w) : wpOpIn (Fence.wide.inRound l) n P ops Q i K a w := by
  unfold wpOp at h
  unfold wpOpIn
  cases ho : ops[i]? with
  | none => rw [ho] at h; exact h
  | some o =>
    rw [ho] at h
    have hdo : isDefer o.op = false := by
      have h1 := Array.all_eq_true'.1 hd o (Array.mem_of_getElem? ho)
      simpa using h1
    simp only at h ⊢
    split
    · rename_i hw
      rw [if_pos hw] at h
      exact opIn hdo (h.elim id fun h => absurd h.2 hno)
    · rename_i hw
      rw [if_neg hw] at h
      exact ⟨fun _ _ => trivial, h⟩
theorem anyIn {P : Program} {ops : Array Oper} {l n : Nat} {Q : Exit → Act → World → Prop} (hno : ¬ LetsOut Q) (hd : noDefer ops = true) : ∀ (f : Nat) (ls : Array Bool) (a : Act) (w : World), wpAny P .any ops Q f ls a w → wpAnyIn (Fence.wide.inRound l) n P .any ops Q f ls a w
  | 0, _, _, _, h => h
  | f + 1, _, _, _, h => ⟨h.1, fun i hi => wpOpIn_mono (fun a' w' h' => anyIn hno hd f _ a' w' h') (opIn_i hno hd (h.2 i hi))⟩
theorem listIn {P : Program} {ops : Array Oper} {l n : Nat} {Q : Exit → Act → World → Prop} (hno : ¬ LetsOut Q) : ∀ (r : List Oper) (a : Act) (w : World), (r.all fun o => !isDefer o.op) = true → wpList P ops Q r a w → wpListIn (Fence.wide.inRound l) n P ops Q r a w
  | [], _, _, _, h => h
  | o :: r, a, w, hd, h => by
    simp only [List.all_cons, Bool.and_eq_true] at hd
    simp only [wpList] at h
    simp only [wpListIn]
    have hdo : isDefer o.op = false := by simpa using hd.1
    split
    · rename_i hw
      rw [if_pos hw] at h
      exact Oper.wpIn_mono (fun a' w' h' => listIn hno r a' w' hd.2 h') (opIn hdo (h.elim id fun h => absurd h.2 hno))
    · rename_i hw
      rw [if_neg hw] at h
      exact ⟨fun _ _ => trivial, listIn hno r _ _ hd.2 h⟩

theorem not_out {p : Post} : ¬ LetsOut p.Q := fun ⟨_, _, h⟩ => h
/-- A walk within a round. -/
def WI (l n : Nat) (P : Program) (c : Code) (p : Post) (a : Act) (w : World) : Prop := c.wpIn (Fence.wide.inRound l) n P p.Q a w
section
variable {l m : Nat} {P : Program} {p : Post} {n : Nat} {e : Env} {ds : List Deferred} {a : Act} {w : World} {c x y : Code}
theorem WI_seq (h : WI l m P x ⟨fun a w => WI l m P y p a w, p.ext, p.ret⟩ a w) : WI l m P (.seq x y) p a w := by
  refine wpIn_seq (wpIn_mono h fun e a w hq => ?_)
  cases e with
  | normal => exact hq
  | exit i => exact hq
  | ret => exact hq
  | _ => exact (hq : False).elim
theorem WI_skip (h : p.nrm a w) : WI l m P .skip p a w := wpIn_skip h
theorem WI_ret (h : p.ret a w) : WI l m P .ret p a w := wpIn_ret h
theorem WI_exit {i : Nat} (h : p.ext i a w) : WI l m P (.exit i) p a w := wpIn_exit h
theorem WI_block {id : Nat} (h : WI l m P c (p.blk id) a w) : WI l m P (.block id c) p a w := by
  refine wpIn_block (wpIn_mono h fun e a w hq => ?_)
  cases e with
  | normal => exact hq
  | exit i =>
    simp only [Post.Q, Post.blk] at hq
    simp only [Exit.inBlock]
    by_cases hi : i = id
    · subst hi
      have : Nat.beq i i = true := by simp
      rw [this] at hq
      rw [if_pos rfl]; exact hq
    · have : Nat.beq i id = false := beq_ne hi
      rw [this] at hq
      rw [if_neg hi]; exact hq
  | ret => exact hq
  | _ => exact (hq : False).elim
theorem WI_cond {c : Operand} {b : Bool} (hc : opv n e c = .bool b) (ht : b = true → WI l m P x p (A n e ds) w) (hf : b = false → WI l m P y p (A n e ds) w) : WI l m P (.cond c x y) p (A n e ds) w :=
  wpIn_cond_split (by rw [A_eval]; exact hc) ht hf
theorem WI_condT {c : Operand} {x y : Code} {b : Bool} (hc : opv n e c = .bool b) (h : b = true) (k : WI l m P x p (A n e ds) w) : WI l m P (.cond c x y) p (A n e ds) w :=
  WI_cond hc (fun _ => k) (fun h' => by rw [h] at h'; cases h')
theorem WI_condF {c : Operand} {x y : Code} {b : Bool} (hc : opv n e c = .bool b) (h : b = false) (k : WI l m P y p (A n e ds) w) : WI l m P (.cond c x y) p (A n e ds) w :=
  WI_cond hc (fun h' => by rw [h] at h'; cases h') (fun _ => k)
theorem WI_loop {G : Type} (I : G → Act → World → Prop) (μ : G → Nat) (g0 : G) (h0 : I g0 a w)
    (round : ∀ g a w, I g a w → WI l m P c ⟨fun a' w' => ∃ g', μ g' < μ g ∧ I g' a' w', p.ext, p.ret⟩ a w) : WI l m P (.loop c) p a w := by
  refine wpIn_loop_ghost (fun k a w => ∃ g, μ g = k ∧ I g a w) (μ g0) ⟨g0, rfl, h0⟩ ?_
  rintro k a w ⟨g, rfl, hg⟩
  refine wpIn_mono (round g a w hg) fun e a w hq => ?_
  cases e with
  | normal => obtain ⟨g', h1, h2⟩ := hq; exact ⟨_, h1, g', rfl, h2⟩
  | exit i => exact hq
  | ret => exact hq
  | _ => exact (hq : False).elim
theorem WI_region {id : Nat} {ls : List Oper} (hd : (ls.all fun o => !isDefer o.op) = true) (h : wpL P ls.toArray p ls a w) : WI l m P (.region id ls.toArray false) p a w :=
  wpIn_region_lit (listIn not_out _ _ _ hd (wpList_of_L _ _ _ h.out))
theorem WI_drawSt {ops : Array Oper} {w0 : World} {L : Blocks} {id : Nat} (perm : List (Nat × Nat)) (hs : St w0 L w) (hm : P.follows .mixedOrders = true)
    (hst : (Region.noSelect ops && (perm.length == ops.size) && okE ops (kindOf perm) perm (Array.replicate ops.size false)) = true) (hd : noDefer ops = true)
    (h : ∀ w', St w0 L w' → wpE P ops p (St w0 L) (mkE ops perm) a w') : WI l m P (.region id ops true) p a w := by
  replace h := (h _ (hs.drewN (w.drawn + 1))).out
  simp only [Bool.and_eq_true, beq_iff_eq] at hst
  refine wpIn_region_any hm (anyIn not_out hd _ _ _ _ (wpAny_of_M (S := St w0 L) (kd := kindOf perm) _ _ _ _ ?_))
  have h1 := wpM_of_E hst.1.1 perm _ a _ hst.2 h
  rw [hst.1.2] at h1
  exact h1
theorem WI_drawT {ops : Array Oper} {w0 : World} {L : Blocks} {id : Nat} (S : World → Prop) (perm : List (Nat × Nat)) (t : Pl) (hs : St w0 L w) (hm : P.follows .mixedOrders = true)
    (hst : (Region.noSelect ops && okT ops (kindOf perm) 1000 t (Array.replicate ops.size false) ops.size) = true) (hd : noDefer ops = true)
    (h : ∀ w', St w0 L w' → wpT P ops p S (mkT ops t) a w') : WI l m P (.region id ops true) p a w := by
  simp only [Bool.and_eq_true] at hst
  exact wpIn_region_any hm (anyIn not_out hd _ _ _ _ (wpAny_of_M (S := S) (kd := kindOf perm) _ _ _ _ (wpM_of_T hst.1 1000 t _ _ _ _ hst.2 (h _ (hs.drewN _)).out)))
theorem WIsp {c : Code} {t : Nat} {b : Bool} (hb : opv n e (.tmp t) = .bool b) (h1 : b = true → WI l m P c p (A n e ds) w) (h2 : b = false → WI l m P c p (A n e ds) w) : WI l m P c p (A n e ds) w := by
  cases b
  · exact h2 rfl
  · exact h1 rfl
theorem WIkn {c : Code} {t : Nat} {b b0 : Bool} (_ : opv n e (.tmp t) = .bool b) (h : b = b0) (k : b = b0 → WI l m P c p (A n e ds) w) : WI l m P c p (A n e ds) w := k h
end
end Go.Proofs.YtkolfgmpmnelmabGreatDoor.Vx
