/-
  A small frame for walks, 17: a range over a function at the wide fence: its assignment and its body walked by the frame, over the world in which the round begins.
-/
import Derived.RangeFuncNested
import Derived.RangeFuncBound
import Derived.RangeFuncLeaves
import Derived.RangeFuncBox
import Derived.Test.YtkolfgmpmnelmabGreatDoorVu
namespace Go.Proofs.YtkolfgmpmnelmabGreatDoor.Vx
open Go Go.RowKit

theorem St.self {w0 w : World} {L : Blocks} (h : St w0 L w) : St w L w := ⟨rfl, rfl, rfl, Nat.le_refl _, h.has, h.nd, fun _ _ _ => rfl⟩
/-- A block that is known to lie so, and is new. -/
theorem St.know {w0 w : World} {L : Blocks} (h : St w0 L w) {b : Nat} {o : Obj} (hb : w.heap[b]? = some o) (hn : b ∉ keys L) (hnew : w0.heap.size ≤ b) : St w0 ((b, o) :: L) w := by
  refine ⟨h.os, h.tape, h.output, h.size, ?_, ?_, ?_⟩
  · intro x hx
    rcases List.mem_cons.1 hx with rfl | hx
    · exact hb
    · exact h.has x hx
  · simp only [keys, List.map_cons, List.nodup_cons]; exact ⟨hn, h.nd⟩
  · intro k hk hkn
    simp only [keys, List.map_cons, List.mem_cons, not_or] at hkn
    exact h.fr k hk hkn.2
/-- From one world to the next, and on: whatever the second part does not know any more is new. -/
theorem St.compose {w0 w w' : World} {L L' : Blocks} (h : St w0 L w) (h' : St w L' w') (hk : ∀ b ∈ keys L, b ∈ keys L' ∨ w0.heap.size ≤ b) : St w0 L' w' := by
  refine ⟨h'.os.trans h.os, h'.tape.trans h.tape, h'.output.trans h.output, Nat.le_trans h.size h'.size, h'.has, h'.nd, fun b hb hn => ?_⟩
  have h1 : b ∉ keys L := fun hm => by
    rcases hk b hm with h2 | h2
    · exact hn h2
    · omega
  rw [h'.fr b (by have := h.size; omega) hn, h.fr b hb h1]
def isC : Obj → Bool | .cells _ _ _ => true | _ => false
theorem isC_of {o : Obj} (h : isC o = true) : o.isCells = true := by cases o <;> first | rfl | cases h
theorem St.grown {w0 A B : World} {L : Blocks} {row : Option Nat} (h : St w0 L A) (hg : A.grownBy B row) (hr : ∀ r, row = some r → w0.heap.size ≤ r ∧ ∃ o : Obj, A.heap[r]? = some o ∧ o.isCells = false) (hc : ∀ x ∈ L, isC x.2 = true) : St w0 L B := by
  have hne : ∀ x ∈ L, some x.1 ≠ row := fun x hx e => by
    obtain ⟨_, o, ho, hf⟩ := hr x.1 e.symm
    rw [h.has x hx] at ho
    cases ho
    rw [isC_of (hc x hx)] at hf; cases hf
  refine ⟨hg.os.trans h.os, hg.tape.trans h.tape, hg.output.trans h.output, Nat.le_trans h.size hg.size, fun x hx => ?_, h.nd, fun b hb hn => ?_⟩
  · rw [hg.block x.1 (lt_of_has (h.has x hx)) (hne x hx)]; exact h.has x hx
  · rw [hg.block b (by have := h.size; omega) (fun e => by have := (hr b e.symm).1; omega), h.fr b hb hn]
theorem block_grown {A B : World} {b : Nat} {o : Obj} {row : Option Nat} (h : A.heap[b]? = some o) (hg : A.grownBy B row) (hr : ∀ r, row = some r → ∃ o : Obj, A.heap[r]? = some o ∧ o.isCells = false) (hc : isC o = true) : B.heap[b]? = some o := by
  rw [hg.block b (lt_of_has h) (fun e => ?_)]; · exact h
  obtain ⟨o', h1, h2⟩ := hr b e.symm
  rw [h] at h1; cases h1
  rw [isC_of hc] at h2; cases h2
theorem KeepsFrom.ofSt {B : Nat} {W W' : World} {L : Blocks} (h : St W L W') (hL : ∀ x ∈ L, W.heap.size ≤ x.1 ∨ ∃ o, W.heap[x.1]? = some o ∧ isC o = true) : KeepsFrom B W W' :=
  ⟨h.size, fun k o _ hk ho => by
    have hn : k ∉ keys L := fun hm => by
      obtain ⟨x, hx, rfl⟩ := List.mem_map.1 hm
      rcases hL x hx with h1 | ⟨o', h1, h2⟩
      · have := lt_of_has hk; omega
      · rw [hk] at h1; cases h1; rw [isC_of h2] at ho; cases ho
    rw [h.fr k (lt_of_has hk) hn]; exact hk⟩
theorem Below.ofSt {n0 : Nat} {W W' : World} {L : Blocks} (h : St W L W') (hL : ∀ x ∈ L, n0 ≤ x.1) (hn : n0 ≤ W.heap.size) : Below n0 W W' :=
  ⟨h.os, h.tape, h.output, h.size, fun k hk => h.fr k (by omega) (fun hm => by obtain ⟨x, hx, rfl⟩ := List.mem_map.1 hm; have := hL x hx; omega)⟩
theorem St.ofBelow {W W' : World} (h : Below W.heap.size W W') : St W [] W' := ⟨h.os, h.tape, h.output, h.size, fun _ h => (by cases h), List.nodup_nil, fun b hb' _ => h.block b hb'⟩

/-- How a round may be left, as the frame says it. -/
def roundPost {α : Type} (B : Nat) (Kp : World → World → Prop) (I : List α → World → Prop) (Ix : Code → List α → World → Prop) (xs : List α) (W : World) : Post :=
  ⟨fun _ W' => KeepsFrom B W W' ∧ Kp W W' ∧ I xs W', fun id _ W' => KeepsFrom B W W' ∧ Ix (.exit id) xs W', fun _ W' => KeepsFrom B W W' ∧ Ix .ret xs W'⟩
theorem wpIn_of_WI {α : Type} {l m : Nat} {P : Program} {c : Code} {a : Act} {B : Nat} {Kp : World → World → Prop} {I : List α → World → Prop} {Ix : Code → List α → World → Prop} {xs : List α} {W : World}
    (h : WI l m P c (roundPost B Kp I Ix xs W) a W) : c.wpIn (Fence.wide.inRound l) m P (ownPostG B Kp I Ix xs W) a W :=
  wpIn_mono h fun e a w hq => by
    cases e with
    | normal => exact hq
    | ret => exact hq
    | exit i => exact hq
    | _ => exact (hq : False).elim
theorem foldl_tm {n : Nat} : ∀ (l : List (Tmp × Value)) (e : Env), l.foldl (fun t (p, v) => t.setIfInBounds p v) (tm n e) = tm n (l.reverse ++ e)
  | [], _ => rfl
  | (p, v) :: r, e => by
    rw [List.foldl_cons]
    show List.foldl _ ((tm n e).setIfInBounds p v) r = _
    rw [tm_set, foldl_tm r]; simp
theorem foldl_zip {n : Nat} {e : Env} {ps : Array Tmp} {vs : Array Value} {l : Env} (h : (ps.zip vs).toList.reverse ++ e = l) : (⟨(ps.zip vs).foldl (fun t (p, v) => t.setIfInBounds p v) (tm n e), []⟩ : Act) = A n l := by
  rw [← Array.foldl_toList, foldl_tm, h]; rfl

/-- THE RANGE: at the wide fence. -/
theorem W_rangeFunc {α : Type} {P : Program} {g : Operand} {ps : Array Tmp} {assign body : Code} {Q : Exit → Act → World → Prop} {n : Nat} {e : Env} {w : World} {gf : Nat} {lb : Array Value}
    (hg : opv n e g = .func (.func gf) #[] lb) (eg : ∀ args w, (callFunc gf args).run P w = .ok (.enter gf args) w)
    {encs : α → Array Value} {S Sp : List α → Prop} {N : Nat} (hseq : SeqStopsK Fence.wide 2 P gf lb encs (Below w.heap.size) S Sp N w) (hps : ∀ x, (encs x).size = ps.size)
    (I : List α → World → Prop) (Ix : Code → List α → World → Prop) (hI : OwnFrom w.heap.size I) (hIx : ∀ c, OwnFrom w.heap.size (Ix c)) (h0 : I [] w)
    (Ax : α → Env → Nat → World → Prop) (hAx : ∀ x e' b, OwnFrom w.heap.size (fun (_ : Unit) W => Ax x e' b W))
    (hassign : ∀ (l : Nat) (pre : List α) (x : α) (W : World), I pre W → WI l 1 P assign ⟨fun a' W' => KeepsFrom w.heap.size W W' ∧ Below w.heap.size W W' ∧ I pre W' ∧ ∃ e' b, a' = A n e' ∧ Ax x e' b W', fun _ _ _ => False, fun _ _ => False⟩ (A n ((ps.zip (encs x)).toList.reverse ++ e)) W)
    (hbody : ∀ (l : Nat) (pre : List α) (x : α) (e' : Env) (b : Nat) (W : World), I pre W → Ax x e' b W → pre.length < N → WI l 1 P body (roundPost w.heap.size (Below w.heap.size) I Ix (pre ++ [x]) W) (A n e') W)
    (hdone : ∀ (D : Nat) (xs : List α) (W : World), w.heap.size ≤ D → S xs → I xs W → W.heap[D]? = some (.deferred (some [])) → Q .normal { A n e with defers := { target := .collected D, args := #[] } :: (A n e).defers } W)
    (hstop : ∀ (D : Nat) (c : Code) (pre : List α) (W : World), w.heap.size ≤ D → Sp pre → Ix c pre W → W.heap[D]? = some (.deferred (some [])) → c.wpIn Fence.wide 3 P Q { A n e with defers := { target := .collected D, args := #[] } :: (A n e).defers } W) :
    (Code.rangeFunc g ps assign body).wpIn Fence.wide 3 P Q (A n e) w := by
  refine wpIn_rangeFunc_ownH (F := Fence.wide) (n := 3) rfl (by decide) (gf := gf) (lb := lb) (by rw [A_eval]; exact hg) trivial eg hseq belowK_t (belowK_b (Nat.le_refl _)) (Below.refl _ _) hps I Ix hI hIx h0
    (fun x a' W => ∃ e' b, a' = A n e' ∧ Ax x e' b W) (fun x a' => ?_) ?_ ?_ hdone hstop
  · rintro s X Y row ⟨e', b, he, hx⟩ hgr hr
    exact ⟨e', b, he, hAx x e' b () X Y row hx hgr hr⟩
  · intro l pre x W K hi hK
    have h1 := hassign l pre x W hi
    have h2 : ({ tmps := (ps.zip (encs x)).foldl (fun t (p, v) => t.setIfInBounds p v) (A n e).tmps, defers := [] } : Act) = A n ((ps.zip (encs x)).toList.reverse ++ e) := foldl_zip rfl
    rw [h2]
    refine wpIn_mono h1 fun ex a' W' hq => ?_
    cases ex with
    | normal => exact hK _ _ hq.1 hq.2.1 hq.2.2.1 hq.2.2.2
    | exit i => exact (hq : False).elim
    | ret => exact (hq : False).elim
    | _ => exact (hq : False).elim
  · rintro l pre x a' W _ _ hi ⟨e', b, rfl, hx⟩ hlen
    exact wpIn_of_WI (hbody l pre x e' b W hi hx hlen)
/-! A function in which a range over a function stands -/
structure MarkRet (P : Program) (fn : Func) (R : Value → World → Prop) (a : Act) (w : World) : Prop where
  out : LeavesInM Fence.wide 3 P fn a.tmps (fun e w' => ∃ v, e = .returned v ∧ R v w') a.defers .returning w
def marksPost (P : Program) (fn : Func) (R : Value → World → Prop) : Post := ⟨MarkRet P fn R, fun _ _ _ => False, MarkRet P fn R⟩
theorem C_marks {P : Program} {f : FuncId} {fn : Func} {c : Code} {args : List Value} {n : Nat} {w : World} {R : Value → World → Prop}
    (hf : P.funcs[f]? = some fn) (hb : fn.body = some c) (hn : fn.ntmps = n) (hl : Nat.ble args.length n = true)
    (h : ∀ w1, St w [] w1 → W P c (marksPost P fn R) (A n (argEnv 0 args)) w1) : C P f ⟨args⟩ w R := by
  refine callsIn_wide.1 (callsIn_of_wp_marks (F := Fence.wide) (n := 3) hf hb trivial ?_ rfl)
  have hl' := Nat.le_of_ble_eq_true hl
  have ha : ({ tmps := args.toArray ++ Array.replicate (fn.ntmps - args.toArray.size) undef, defers := [] } : Act) = A n (argEnv 0 args) := by
    simp only [A, Act.mk.injEq, and_true, hn]
    apply Array.ext
    · simp [tm_size]; omega
    · intro i h1 h2
      simp only [tm, Array.getElem_ofFn, lk_argEnv]
      rw [Array.getElem_append]
      simp only [List.size_toArray, List.getElem_toArray, Array.getElem_replicate]
      split
      · rename_i h3; simp [h3]
      · rename_i h3; simp; rw [List.getElem?_eq_none (by omega)]; rfl
  have ha' : ({ tmps := (⟨args⟩ : Array Value) ++ Array.replicate (fn.ntmps - (⟨args⟩ : Array Value).size) undef, defers := [] } : Act) = A n (argEnv 0 args) := ha
  rw [ha']
  refine wpIn_wide.2 (wp_mono (h w (St.init w)) fun e a w hq => ?_)
  cases e with
  | normal => exact MarkRet.out hq
  | ret => exact MarkRet.out hq
  | exit i => exact (hq : False).elim
  | _ => exact (hq : False).elim
theorem marks_fin2 {P : Program} {fn : Func} {R : Value → World → Prop} {n : Nat} {e : Env} {w : World} {p q t u : Nat} {b c : Nat} {cb cc : Array Value} {T U : TypeId} {fz fz' : Nat × Nat} {x y : Value} {d d' : TypeDesc}
    (h : fn.results = #[.cell p t, .cell q u]) (hp : opv n e (.tmp p) = pv b 0) (hq : opv n e (.tmp q) = pv c 0) (hb : w.heap[b]? = some (.cells cb T fz)) (hc : w.heap[c]? = some (.cells cc U fz')) (hx : cb[0]? = some x) (hy : cc[0]? = some y)
    (ht : P.underlying t = some d) (hd : isAggB d = false) (hu : P.underlying u = some d') (hd' : isAggB d' = false) (hR : R (.tuple #[x, y]) w) : MarkRet P fn R (A n e) w := by
  have e1 : (A n e).tmps.getD p undef = pv b 0 := by rw [← hp, ← A_eval]; rfl
  have e2 : (A n e).tmps.getD q undef = pv c 0 := by rw [← hq, ← A_eval]; rfl
  refine ⟨.tuple #[x, y], ?_, _, rfl, hR⟩
  show (results fn (A n e).tmps).run P w = _
  simp only [results, h]
  rw [Array.getD_eq_getD_getElem?] at e1 e2
  simp [Sem.run_bind, Result.andThen, e1, e2, asAddr, run_loadVar1 ht hd ((cell_of_has hb).trans hx), run_loadVar1 hu hd' ((cell_of_has hc).trans hy)]
theorem St.notKey {w0 w : World} {L : Blocks} (h : St w0 L w) {b : Nat} {o : Obj} (hb : w.heap[b]? = some o) (hc : ∀ x ∈ L, isC x.2 = true) (ho : isC o = false) : b ∉ keys L := fun hm => by
  obtain ⟨x, hx, rfl⟩ := List.mem_map.1 hm
  rw [h.has x hx] at hb; cases hb
  rw [hc x hx] at ho; cases ho
theorem St.away {w0 w w' : World} {L : Blocks} {D : Nat} (h : St w0 L w) (hn : ∀ x ∈ L, w0.heap.size ≤ x.1) (hg : w.grownBy w' (some D)) (hD : w0.heap.size ≤ D) : St w0 [] w' := by
  refine ⟨hg.os.trans h.os, hg.tape.trans h.tape, hg.output.trans h.output, Nat.le_trans h.size hg.size, fun x hx => (by cases hx), List.nodup_nil, fun b hb _ => ?_⟩
  rw [hg.block b (by have := h.size; omega) (fun e => by cases e; omega)]
  exact h.fr b hb (fun hm => by obtain ⟨x, hx, rfl⟩ := List.mem_map.1 hm; have := hn x hx; omega)
/-- Behind the range, the mark is still to be taken. -/
theorem marks_fin2D {P : Program} {fn : Func} {R : Value → World → Prop} {n : Nat} {e : Env} {w : World} {p q t u D : Nat} {b c : Nat} {cb cc : Array Value} {T U : TypeId} {fz fz' : Nat × Nat} {x y : Value} {d d' : TypeDesc}
    (h : fn.results = #[.cell p t, .cell q u]) (hp : opv n e (.tmp p) = pv b 0) (hq : opv n e (.tmp q) = pv c 0) (hb : w.heap[b]? = some (.cells cb T fz)) (hc : w.heap[c]? = some (.cells cc U fz')) (hx : cb[0]? = some x) (hy : cc[0]? = some y)
    (ht : P.underlying t = some d) (hd : isAggB d = false) (hu : P.underlying u = some d') (hd' : isAggB d' = false) (hK : w.heap[D]? = some (.deferred (some []))) (hR : ∀ w', w.grownBy w' (some D) → R (.tuple #[x, y]) w') : MarkRet P fn R (A n e [{ target := .collected D, args := #[] }]) w := by
  have e1 : (A n e).tmps.getD p undef = pv b 0 := by rw [← hp, ← A_eval]; rfl
  have e2 : (A n e).tmps.getD q undef = pv c 0 := by rw [← hq, ← A_eval]; rfl
  have hg := grownBy_putObj' w D (.deferred none)
  have hb' := block_grown hb hg (fun r e => by cases e; exact ⟨_, hK, rfl⟩) rfl
  have hc' := block_grown hc hg (fun r e => by cases e; exact ⟨_, hK, rfl⟩) rfl
  refine ⟨by simp, .inl ⟨_, _, rfl, run_takeDeferred hK, .tuple #[x, y], ?_, _, rfl, hR _ hg⟩⟩
  show (results fn (A n e).tmps).run P _ = _
  simp only [results, h]
  rw [Array.getD_eq_getD_getElem?] at e1 e2
  simp [Sem.run_bind, Result.andThen, e1, e2, asAddr, run_loadVar1 ht hd ((cell_of_has hb').trans hx), run_loadVar1 hu hd' ((cell_of_has hc').trans hy)]
/-- Where it comes to the range. -/
theorem W_rf {P : Program} {p : Post} {c : Code} {a : Act} {w : World} (h : c.wpIn Fence.wide 3 P p.Q a w) : W P c p a w := wpIn_wide.1 h
/-- What stands behind the range goes on by the kit's own walk. -/
theorem W_on {P : Program} {p : Post} {c : Code} {a : Act} {w : World} (h : c.wpIn Fence.wide 3 P p.Q a w) : W P c p a w := wpIn_wide.1 h
end Go.Proofs.YtkolfgmpmnelmabGreatDoor.Vx
