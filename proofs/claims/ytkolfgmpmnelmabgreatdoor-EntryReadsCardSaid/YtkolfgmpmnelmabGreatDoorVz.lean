/-
  A small frame for walks, 18: a range over a function that keeps what it has yet to give in a cell of its own.
-/
import Derived.Test.YtkolfgmpmnelmabGreatDoorVv
namespace Go.Proofs.YtkolfgmpmnelmabGreatDoor.Vx
open Go Go.RowKit

/-- The blocks of this list lie as they lay. -/
def Same (ks : List Nat) (W W' : World) : Prop := ∀ k ∈ ks, W'.heap[k]? = W.heap[k]?
/-- What such an iterator does: it hands out only what may come next, turns no block but its own cell, and needs but a few blocks kept. -/
def SeqCell {α : Type} (P : Program) (gf : Nat) (lb : Array Value) (encs : α → Array Value) (bs : Nat) (ks : List Nat) (S Sp : List α → Prop) (Nx : List α → α → Prop) (w : World) : Prop :=
  ∀ (l : Nat) (J Jx : List α → World → Prop) (W : World), Same ks w W → (∀ pre A v, J pre A → J pre (A.setCell ⟨bs, 0, none⟩ v)) →
    (∀ pre x W1, J pre W1 → Nx pre x → YieldAt Fence.wide 1 P l (encs x) W1 fun e W' => (e = .returned (.bool true) ∧ J (pre ++ [x]) W' ∧ Same ks W1 W') ∨ (e = .returned (.bool false) ∧ Jx (pre ++ [x]) W')) →
    J [] W → CallsIn Fence.wide 2 P gf (#[.func (.yield l) #[] #[]] ++ lb) W fun e W' => (∃ v, e = .returned v) ∧ ((∃ xs, S xs ∧ J xs W') ∨ (∃ pre, Sp pre ∧ Jx pre W'))
/-- The post of a round, where it is left by 'next' or by a return. -/
def cellPost {α : Type} (B : Nat) (ks : List Nat) (I Ix : List α → World → Prop) (xs : List α) (W : World) : Post :=
  ⟨fun _ W' => KeepsFrom B W W' ∧ Same ks W W' ∧ I xs W', fun _ _ _ => False, fun _ W' => KeepsFrom B W W' ∧ Ix xs W'⟩
/-- The loop's own record. -/
def recOf (fn : FuncId) (ts : Array Value) (ps : Array Tmp) (ac bc : Code) (D : Nat) (st : LoopState) (pe : Option Code) : Loop := { state := st, pending := pe, fn := fn, tmps := ts, params := ps, assign := ac, body := bc, defers := D }
theorem same_putObj {ks : List Nat} {W : World} {L : Nat} (o : Obj) (h : ∀ k ∈ ks, k < L) : Same ks W (W.putObj L o) := fun k hk => World.putObj_heap_other (by have := h k hk; omega)
theorem setCell_far {W : World} {b k : Nat} {v : Value} (h : k ≠ b) : (W.setCell ⟨b, 0, none⟩ v).heap[k]? = W.heap[k]? := Below.heap_setCell _ _ _ k h
/-- The two blocks that the loop itself has laid. -/
structure Book (P : Program) (fn : FuncId) (ts : Array Value) (ps : Array Tmp) (ac bc : Code) (D : Nat) (st : LoopState) (pe : Option Code) (W : World) : Prop where
  rcd : W.heap[D + 1]? = some (.loop (recOf fn ts ps ac bc D st pe))
  dfr : W.heap[D]? = some (.deferred (some []))
theorem Book.turn {P : Program} {fn : FuncId} {ts : Array Value} {ps : Array Tmp} {ac bc : Code} {D : Nat} {st st' : LoopState} {pe pe' : Option Code} {W : World} (h : Book P fn ts ps ac bc D st pe W) : Book P fn ts ps ac bc D st' pe' (W.putObj (D + 1) (.loop (recOf fn ts ps ac bc D st' pe'))) :=
  ⟨World.putObj_heap_same (lt_of_has h.rcd), (World.putObj_heap_other (by omega)).trans h.dfr⟩
theorem Book.keep {P : Program} {fn : FuncId} {ts : Array Value} {ps : Array Tmp} {ac bc : Code} {D : Nat} {st : LoopState} {pe : Option Code} {W W' : World} (h : Book P fn ts ps ac bc D st pe W) (hk : KeepsFrom D W W') : Book P fn ts ps ac bc D st pe W' :=
  ⟨hk.same _ _ (by omega) h.rcd rfl, hk.same _ _ (Nat.le_refl _) h.dfr rfl⟩
theorem W_rangeCell {α : Type} {P : Program} {g : Operand} {ps : Array Tmp} {ac bc : Code} {Q : Exit → Act → World → Prop} {n : Nat} {e : Env} {w : World} {gf : Nat} {lb : Array Value}
    (hg : opv n e g = .func (.func gf) #[] lb) (eg : ∀ args w, (callFunc gf args).run P w = .ok (.enter gf args) w)
    {encs : α → Array Value} {bs : Nat} {ks : List Nat} {S Sp : List α → Prop} {Nx : List α → α → Prop} (hseq : SeqCell P gf lb encs bs ks S Sp Nx w) (hks : ∀ k ∈ ks, k < w.heap.size) (hbs : bs < w.heap.size) (hps : ∀ x, (encs x).size = ps.size)
    (I Ix : List α → World → Prop) (hI : OwnFrom w.heap.size I) (hIx : OwnFrom w.heap.size Ix) (hIs : ∀ pre A v, I pre A → I pre (A.setCell ⟨bs, 0, none⟩ v)) (h0 : I [] w)
    (Ax : α → Env → Prop)
    (hassign : ∀ (l : Nat) (x : α) (W : World), WI l 1 P ac ⟨fun a' W' => W' = W ∧ ∃ e', a' = A n e' ∧ Ax x e', fun _ _ _ => False, fun _ _ => False⟩ (A n ((ps.zip (encs x)).toList.reverse ++ e)) W)
    (hbody : ∀ (l : Nat) (pre : List α) (x : α) (e' : Env) (W : World), I pre W → Ax x e' → Nx pre x → WI l 1 P bc (cellPost w.heap.size ks I Ix (pre ++ [x]) W) (A n e') W)
    (hdone : ∀ (xs : List α) (W : World), S xs → I xs W → W.heap[w.heap.size]? = some (.deferred (some [])) → Q .normal (A n e [{ target := .collected w.heap.size, args := #[] }]) W)
    (hstop : ∀ (pre : List α) (W : World), Sp pre → Ix pre W → W.heap[w.heap.size]? = some (.deferred (some [])) → Code.ret.wpIn Fence.wide 3 P Q (A n e [{ target := .collected w.heap.size, args := #[] }]) W) :
    (Code.rangeFunc g ps ac bc).wpIn Fence.wide 3 P Q (A n e) w := by
  refine wpIn_rangeFunc ?_
  intro fn hfn
  have hro : Fence.wide.round = none := rfl
  rw [hro]
  obtain ⟨D, hD⟩ : ∃ D, D = w.heap.size := ⟨_, rfl⟩
  obtain ⟨W1, hW1⟩ : ∃ W1, W1 = (w.alloc (.deferred (some []))).alloc (.loop (recOf fn (A n e).tmps ps ac bc D .ready none)) := ⟨_, rfl⟩
  have hB1 : Book P fn (A n e).tmps ps ac bc D .ready none W1 := by
    rw [hW1, hD]
    refine ⟨?_, ?_⟩
    · have := World.alloc_heap_new (w.alloc (.deferred (some []))) (.loop (recOf fn (A n e).tmps ps ac bc w.heap.size .ready none))
      rwa [World.size_alloc] at this
    · exact (Below.heap_alloc _ _ _ (by simp)).trans (World.alloc_heap_new w _)
  have hI1 : I [] W1 := by rw [hW1]; exact hI.alloc _ (hI.alloc _ h0)
  have hS1 : Same ks w W1 := fun k hk => by
    have := hks k hk
    rw [hW1]; exact (Below.heap_alloc _ _ _ (by rw [World.size_alloc]; omega)).trans (Below.heap_alloc _ _ _ this)
  have hput : ∀ {pre : List α} {W : World} {st st' : LoopState} {pe pe' : Option Code}, I pre W → Book P fn (A n e).tmps ps ac bc D st pe W → I pre (W.putObj (D + 1) (.loop (recOf fn (A n e).tmps ps ac bc D st' pe'))) :=
    fun h1 h2 => hI.putObj _ h1 (by omega) h2.rcd rfl
  have hputx : ∀ {pre : List α} {W : World} {st st' : LoopState} {pe pe' : Option Code}, Ix pre W → Book P fn (A n e).tmps ps ac bc D st pe W → Ix pre (W.putObj (D + 1) (.loop (recOf fn (A n e).tmps ps ac bc D st' pe'))) :=
    fun h1 h2 => hIx.putObj _ h1 (by omega) h2.rcd rfl
  have hksD : ∀ k ∈ ks, k < D + 1 := fun k hk => by have := hks k hk; omega
  refine ⟨D + 1, [{ target := .collected D, args := #[] }], W1, { target := .fn (.func gf) lb, args := #[.func (.yield (D + 1)) #[] #[]] }, W1, gf, #[.func (.yield (D + 1)) #[] #[]] ++ lb, W1, ?_, ?_, fun _ _ => trivial, ?_, fun _ => by decide, ?_⟩
  · rw [hW1, hD]; exact run_enterLoop_outer _ _ _ _ _
  · have hg' : (A n e).eval g = .func (.func gf) #[] lb := by rw [A_eval]; exact hg
    simp only [resolve, hg']
    simp [go_sem]
  · simp [invoke, go_sem, eg]
  refine (hseq (D + 1) (fun pre W => I pre W ∧ Book P fn (A n e).tmps ps ac bc D .ready none W) (fun pre W => Ix pre W ∧ Book P fn (A n e).tmps ps ac bc D .done (some .ret) W) W1 hS1 ?_ ?_ ⟨hI1, hB1⟩).mono ?_
  · rintro pre X v ⟨h1, h2⟩
    exact ⟨hIs pre X v h1, (setCell_far (by omega)).trans h2.rcd, (setCell_far (by omega)).trans h2.dfr⟩
  · rintro pre x W ⟨hi, hb⟩ hnx
    have hy := run_yield (P := P) (args := encs x) hb.rcd (hps x)
    refine ⟨fn, _, ac, bc, hy, roundIn_of_wpIn hfn ?_⟩
    have e2 : ({ tmps := (ps.zip (encs x)).foldl (fun t (p, v) => t.setIfInBounds p v) (A n e).tmps, defers := [] } : Act) = A n ((ps.zip (encs x)).toList.reverse ++ e) := foldl_zip rfl
    show ac.wpIn _ _ _ _ ({ tmps := (ps.zip (encs x)).foldl (fun t (p, v) => t.setIfInBounds p v) (A n e).tmps, defers := [] } : Act) W
    rw [e2]
    refine wpIn_mono (hassign (D + 1) x W) fun ex a' W' hq => ?_
    cases ex with
    | normal =>
      obtain ⟨rfl, e', rfl, hax⟩ := hq
      have hb2 := hb.turn (st' := .busy) (pe' := none)
      refine ⟨_, run_beginRound hb.rcd rfl, ?_⟩
      refine wpIn_mono (hbody (D + 1) pre x e' _ (hput hi hb) hax hnx) fun ex a3 W3 hp => ?_
      cases ex with
      | normal =>
        obtain ⟨hk3, hs3, hi3⟩ := hp
        have hb3 := hb2.keep ⟨hk3.size, fun k o hk => hk3.same k o (by omega)⟩
        exact ⟨_, _, run_endRound none hb3.rcd, .inl ⟨rfl, ⟨hput hi3 hb3, hb3.turn⟩, fun k hk => (same_putObj _ hksD k hk).trans ((hs3 k hk).trans (same_putObj _ hksD k hk))⟩⟩
      | ret =>
        obtain ⟨hk3, hi3⟩ := hp
        have hb3 := hb2.keep ⟨hk3.size, fun k o hk => hk3.same k o (by omega)⟩
        exact ⟨_, _, run_endRound (some .ret) hb3.rcd, .inr ⟨rfl, hputx hi3 hb3, hb3.turn⟩⟩
      | exit i => exact (hp : False).elim
      | _ => exact (hp : False).elim
    | exit i => exact (hq : False).elim
    | ret => exact (hq : False).elim
    | _ => exact (hq : False).elim
  · rintro ex W2 ⟨⟨v, rfl⟩, (⟨xs, hS, hi, hb⟩ | ⟨pre, hSp, hi, hb⟩)⟩
    · refine ⟨none, _, run_endLoop hb.rcd (by simp [recOf]), ?_⟩
      have h1 := hdone xs _ hS (hput (st' := .exhausted) (pe' := none) hi hb) (hD ▸ (World.putObj_heap_other (by omega)).trans hb.dfr)
      rw [← hD] at h1
      exact h1
    · refine ⟨some .ret, _, run_endLoop hb.rcd (by simp [recOf]), ?_⟩
      have h1 := hstop pre _ hSp (hputx (st' := .exhausted) (pe' := some .ret) hi hb) (hD ▸ (World.putObj_heap_other (by omega)).trans hb.dfr)
      rw [← hD] at h1
      exact h1
/-! A region in which a round is called -/
theorem opWide {P : Program} {n : Nat} {o : Oper} {a : Act} {w : World} {K : Act → World → Prop} {Q : Exit → Act → World → Prop} (h : o.wp P a w K Q) : o.wpIn Fence.wide n P a w K Q := by
  unfold Oper.wp at h
  unfold Oper.wpIn
  refine ⟨fun _ _ => trivial, ?_⟩
  rw [show Fence.wide.round = none from rfl, Oper.semAt_none]
  revert h
  generalize (execOp a.eval o).run P w = r
  intro h
  have hdp : Fence.wide.depth.isSome = true → 1 ≤ n := fun h => by cases h
  cases r with
  | ok x w' =>
    cases x <;> simp only [Oper.upon, Oper.uponIn] at h ⊢ <;>
      first
        | exact h
        | exact ⟨hdp, callsIn_wide.2 h⟩
        | exact ⟨hdp, fun c cs _ => let ⟨v, w', r, s⟩ := h c cs; ⟨v, w', r, stepsIn_wide.2 s⟩⟩
  | halt x w' => cases x <;> simp only [Oper.upon, Oper.uponIn] at h ⊢ <;> exact h
structure wpY (P : Program) (ops : Array Oper) (p : Post) (l : List Oper) (a : Act) (w : World) : Prop where
  out : wpListIn Fence.wide 2 P ops p.Q l a w
section
variable {P : Program} {ops : Array Oper} {p : Post} {n : Nat} {e : Env} {ds : List Deferred} {o : Oper} {w : World} {S : World → Prop} {v : Value} {d : Nat} {r : List Oper}
theorem W_regionY {id : Nat} {l : List Oper} {a : Act} (h : wpY P l.toArray p l a w) : W P (.region id l.toArray false) p a w := wpIn_wide.1 (wpIn_region_lit h.out)
theorem YL0 (hw : Region.wanted o (yielded ops (A n e ds).tmps) = true) (hd : o.dst = some d) (h : Y0 P n e o v) (k : wpY P ops p r (A n ((d, v) :: e) ds) w) : wpY P ops p (o :: r) (A n e ds) w := by
  refine ⟨?_⟩
  simp only [wpListIn]; rw [if_pos hw]
  refine opWide ?_
  unfold Oper.wp
  rw [A_eval, h w]
  simp only [Oper.upon, hd, A_put]; exact k.out
theorem YL1 (hw : Region.wanted o (yielded ops (A n e ds).tmps) = true) (hd : o.dst = some d) (hS : S w) (h : Y1 P n e o S v) (k : wpY P ops p r (A n ((d, v) :: e) ds) w) : wpY P ops p (o :: r) (A n e ds) w := by
  refine ⟨?_⟩
  simp only [wpListIn]; rw [if_pos hw]
  refine opWide ?_
  unfold Oper.wp
  rw [A_eval, h w hS]
  simp only [Oper.upon, hd, A_put]; exact k.out
theorem YLkn {t : Nat} {b b0 : Bool} (_ : opv n e (.tmp t) = .bool b) (h : b = b0) (k : b = b0 → wpY P ops p r (A n e ds) w) : wpY P ops p r (A n e ds) w := k h
theorem C_enterX {f : FuncId} {fn : Func} {c : Code} {args : List Value} {R : Value → World → Prop} (hf : P.funcs[f]? = some fn) (hb : fn.body = some c) (hn : fn.ntmps = n) (hl : Nat.ble args.length n = true) (h : W P c ⟨fin P fn R, fun _ _ _ => False, fin P fn R⟩ (A n (argEnv 0 args)) w) : C P f ⟨args⟩ w R :=
  C_of_W hf hb hn (Nat.le_of_ble_eq_true hl) h
theorem YLnil (h : p.nrm (A n e ds) w) : wpY P ops p [] (A n e ds) w := ⟨h⟩
theorem YLc (hw : Region.wanted o (yielded ops (A n e ds).tmps) = true) {f : Operand} {args : Array Operand} {ats : Array TypeId} {l : Nat} {vs : List Value} {X Z : World → Prop} (ho : o.op = .call { callee := .value f, args := args, argTypes := ats }) (hd : o.dst = some d)
    (hf : opv n e f = .func (.yield l) #[] #[]) (hargs : args.toList.map (opv n e) = vs) (hy : YieldAt Fence.wide 1 P l ⟨vs⟩ w fun e W' => (e = .returned (.bool true) ∧ X W') ∨ (e = .returned (.bool false) ∧ Z W'))
    (k1 : ∀ w', X w' → wpY P ops p r (A n ((d, .bool true) :: e) ds) w') (k2 : ∀ w', Z w' → wpY P ops p r (A n ((d, .bool false) :: e) ds) w') : wpY P ops p (o :: r) (A n e ds) w := by
  refine ⟨?_⟩
  simp only [wpListIn]; rw [if_pos hw]
  have ha : args.map (opv n e) = ⟨vs⟩ := by
    apply Array.ext'
    rw [Array.toList_map]; exact hargs
  obtain ⟨fn, tmps, ac, bc, hy1, hy2⟩ := hy
  unfold Oper.wpIn
  refine ⟨fun _ _ => trivial, ?_⟩
  rw [show Fence.wide.round = none from rfl, Oper.semAt_none]
  have hx : (execOp (A n e ds).eval o).run P w = .ok (.round l fn tmps ac bc) w := by
    simp only [A_eval, execOp, ho, resolve, hf, Deferred.ofValue, Sem.run_bind, Sem.run_pure, Result.andThen_ok, invoke, ha, Array.empty_append, Array.append_empty]
    exact hy1
  rw [hx]
  simp only [Oper.uponIn]
  refine ⟨fun h => (by cases h), RoundIn.mono hy2 ?_⟩
  rintro e' w' (⟨rfl, h⟩ | ⟨rfl, h⟩)
  · simp only [hd, A_put]; exact (k1 w' h).out
  · simp only [hd, A_put]; exact (k2 w' h).out
theorem c_storeX {w0 : World} {L : Blocks} {K : Act → World → Prop} {Q : Exit → Act → World → Prop} {x y : Operand} {ty : TypeId} {i b off : Nat} {c : Array Value} {T : TypeId} {fz : Nat × Nat} (hs : St w0 L w) (ho : o.op = .store ty x y) (hdst : o.dst = none) (hx : opv n e x = pv b off) (hy : opv n e y = v) (hsz : (P.info? ty).map (·.size) = some 1) (hv : v.oneCell' = true)
    (hi : L[i]? = some (b, .cells c T fz)) (hoff : off < c.size) (hf : Fz fz c.size) (k : St w0 (L.set i (b, .cells (c.setIfInBounds off v) T fz)) (w.setCell ⟨b, off, none⟩ v) → K (A n e ds) (w.setCell ⟨b, off, none⟩ v)) : OW P o (A n e ds) w K Q := by
  refine ⟨?_⟩
  have hc : v.cells = #[v] := by cases v <;> first | rfl | cases hv
  have hst := run_store' P (off := off) (hs.get i hi) hf hoff hv
  unfold Oper.wp
  simp only [A_eval, execOp, ho, hx, hy, Instr.storeAt, Instr.sureAddr, storeVar, run_sizeOf' hsz, Sem.run_bind, Sem.run_pure, Result.andThen_ok, hc, List.size_toArray, List.length_cons, List.length_nil, ne_eq, not_true_eq_false, if_false, storeCells, add_lit, Nat.add_zero, hst, Oper.upon, hdst, A_put_none]
  exact k (hs.ofUpd i hi (upd_setCell (hs.get i hi) v))
end
end Go.Proofs.YtkolfgmpmnelmabGreatDoor.Vx
