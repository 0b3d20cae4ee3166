/-
  A small frame for walks: slots as a list, worlds as a list of known blocks. No program in sight.
-/
import Derived.WalkKit
import Derived.OrdersHeld
import Derived.Deep.LoopGhost
import Derived.KernelRfl
namespace Go.Proofs.YtkolfgmpmnelmabGreatDoor.Vx
open Go

/-! ### Slots -/
abbrev Env := List (Nat × Value)
def lk : Env → Nat → Value
  | [], _ => undef
  | (d, v) :: r, t => match Nat.beq d t with | true => v | false => lk r t
def opv (n : Nat) (e : Env) : Operand → Value
  | .tmp t => match Nat.blt t n with | true => lk e t | false => undef
  | .const v => v
  | .global g => .pointer (some ⟨g, 0, none⟩)
  | .func f => .func (.func f) #[] #[]
def tm (n : Nat) (e : Env) : Array Value := Array.ofFn (n := n) fun i => lk e i.val
def A (n : Nat) (e : Env) (ds : List Deferred := []) : Act := ⟨tm n e, ds⟩

theorem beq_ne {a b : Nat} (h : a ≠ b) : Nat.beq a b = false := by
  cases hb : Nat.beq a b
  · rfl
  · exact absurd (Nat.eq_of_beq_eq_true hb) h
theorem lk_cons_eq (d : Nat) (v : Value) (r : Env) : lk ((d, v) :: r) d = v := by
  simp only [lk]
  have : Nat.beq d d = true := by simp
  rw [this]
theorem lk_cons_ne {d t : Nat} (h : d ≠ t) (v : Value) (r : Env) : lk ((d, v) :: r) t = lk r t := by
  simp only [lk]
  have : Nat.beq d t = false := beq_ne h
  rw [this]
theorem tm_size (n : Nat) (e : Env) : (tm n e).size = n := by simp [tm]
theorem tm_get (n : Nat) (e : Env) (t : Nat) : (tm n e).getD t undef = if t < n then lk e t else undef := by
  unfold tm
  by_cases h : t < n
  · simp [h]
  · simp [h]
theorem tm_set {n d : Nat} (e : Env) (v : Value) : (tm n e).setIfInBounds d v = tm n ((d, v) :: e) := by
  apply Array.ext
  · simp [tm_size]
  · intro i h1 h2
    rw [Array.getElem_setIfInBounds]
    · simp only [tm, Array.getElem_ofFn]
      by_cases h : d = i
      · subst h; simp [lk_cons_eq]
      · rw [if_neg h, lk_cons_ne h]
    · simpa using h1
theorem opv_tmp (n : Nat) (e : Env) (t : Nat) : opv n e (.tmp t) = if t < n then lk e t else undef := by
  simp only [opv]
  by_cases h : t < n
  · have : Nat.blt t n = true := by simpa [Nat.blt_eq] using h
    rw [this, if_pos h]
  · have : Nat.blt t n = false := by
      cases hb : Nat.blt t n
      · rfl
      · rw [Nat.blt_eq] at hb; exact absurd hb h
    rw [this, if_neg h]
theorem A_eval (n : Nat) (e : Env) {ds : List Deferred} : (A n e ds).eval = opv n e := by
  funext x
  cases x with
  | tmp t => rw [opv_tmp]; exact tm_get n e t
  | _ => rfl
theorem A_put (n : Nat) (e : Env) {ds : List Deferred} (d : Nat) (v : Value) : (A n e ds).put (some d) v = A n ((d, v) :: e) ds := by
  simp only [Act.put, A, tm_set]
theorem A_put_none (n : Nat) (e : Env) {ds : List Deferred} (v : Value) : (A n e ds).put none v = A n e ds := rfl
theorem A_congr {n : Nat} {e e' : Env} {ds : List Deferred} (h : ∀ t, t < n → lk e t = lk e' t) : A n e ds = A n e' ds := by
  simp only [A, Act.mk.injEq, and_true]
  apply Array.ext
  · simp [tm_size]
  · intro i h1 h2
    simp only [tm, Array.getElem_ofFn]
    exact h i (by simpa [tm_size] using h1)
theorem A_pin (n : Nat) (e : Env) {ds : List Deferred} (d : Nat) : A n e ds = A n ((d, lk e d) :: e) ds := by
  apply A_congr
  intro t _
  by_cases h : d = t
  · subst h; rw [lk_cons_eq]
  · rw [lk_cons_ne h]
def pins (e : Env) : List Nat → Env
  | [] => e
  | d :: r => (d, lk e d) :: pins e r
theorem lk_pins (e : Env) (t : Nat) : ∀ l, lk (pins e l) t = lk e t
  | [] => rfl
  | d :: r => by
    simp only [pins]
    by_cases h : d = t
    · subst h; rw [lk_cons_eq]
    · rw [lk_cons_ne h, lk_pins e t r]
/-- The slots written out anew, in whatever order. -/
theorem A_pins (n : Nat) (e : Env) {ds : List Deferred} (l : List Nat) : A n e ds = A n (pins e l) ds := A_congr fun t _ => (lk_pins e t l).symm

/-- One slot written out, and on. -/
theorem A_c {n : Nat} {e e' : Env} {ds : List Deferred} {t : Nat} {v : Value} (h : lk e t = v) (k : A n e ds = A n e' ds) : A n e ds = A n ((t, v) :: e') ds := by
  rw [← A_put, ← k, A_put, ← h]
  exact A_pin n e t
theorem bnT {p : Prop} [Decidable p] (h : ¬ p) : (!decide p) = true := by simp [h]
theorem bnF {p : Prop} [Decidable p] (h : p) : (!decide p) = false := by simp [h]
theorem bnT' {p : Prop} [Decidable p] (h : (!decide p) = true) : ¬ p := by simpa using h
theorem bnF' {p : Prop} [Decidable p] (h : (!decide p) = false) : p := by simpa using h
theorem iv_eq {k : IntKind} {a b : Int} (h : a = b) : Value.int k a = Value.int k b := by rw [h]
/-! ### Posts -/
structure Post where
  nrm : Act → World → Prop
  ext : Nat → Act → World → Prop
  ret : Act → World → Prop
def Post.Q (p : Post) : Exit → Act → World → Prop
  | .normal, a, w => p.nrm a w
  | .exit i, a, w => p.ext i a w
  | .ret, a, w => p.ret a w
  | _, _, _ => False
def W (P : Program) (c : Code) (p : Post) (a : Act) (w : World) : Prop := c.wp P p.Q a w

section
variable {P : Program} {p : Post} {n : Nat} {e : Env} {ds : List Deferred} {a : Act} {w : World} {c x y : Code}
theorem W_mono {p' : Post} (h : W P c p a w) (h1 : ∀ a w, p.nrm a w → p'.nrm a w) (h2 : ∀ i a w, p.ext i a w → p'.ext i a w) (h3 : ∀ a w, p.ret a w → p'.ret a w) : W P c p' a w :=
  wp_mono h fun e a w hq => by
    cases e with
    | normal => exact h1 _ _ hq
    | exit i => exact h2 _ _ _ hq
    | ret => exact h3 _ _ hq
    | _ => exact hq
theorem W_seq (h : W P x ⟨fun a w => W P y p a w, p.ext, p.ret⟩ a w) : W P (.seq x y) p a w := by
  refine wp_seq (wp_mono h fun e a w hq => ?_)
  cases e with
  | normal => exact hq
  | exit i => exact hq
  | ret => exact hq
  | _ => exact (hq : False).elim
theorem W_skip (h : p.nrm a w) : W P .skip p a w := wp_skip h
theorem W_ret (h : p.ret a w) : W P .ret p a w := wp_ret h
theorem W_exit {i : Nat} (h : p.ext i a w) : W P (.exit i) p a w := wp_exit h
def Post.blk (p : Post) (id : Nat) : Post := ⟨p.nrm, fun i a w => match Nat.beq i id with | true => p.nrm a w | false => p.ext i a w, p.ret⟩
theorem W_block {id : Nat} (h : W P c (p.blk id) a w) : W P (.block id c) p a w := by
  refine wp_block (wp_mono h fun e a w hq => ?_)
  cases e with
  | normal => exact hq
  | exit i =>
    simp only [Post.Q, Post.blk] at hq
    simp only [Exit.inBlock]
    by_cases hi : i = id
    · subst hi
      have : Nat.beq i i = true := by simp
      rw [this] at hq
      rw [if_pos rfl]; exact hq
    · have : Nat.beq i id = false := beq_ne hi
      rw [this] at hq
      rw [if_neg hi]; exact hq
  | ret => exact hq
  | _ => exact (hq : False).elim
theorem W_cond {c : Operand} {b : Bool} (hc : opv n e c = .bool b) (ht : b = true → W P x p (A n e ds) w) (hf : b = false → W P y p (A n e ds) w) : W P (.cond c x y) p (A n e ds) w :=
  wp_cond_split (by rw [A_eval]; exact hc) ht hf
/-- A loop: a relation with a ghost and a measure on the ghost. -/
theorem W_loop {G : Type} (I : G → Act → World → Prop) (m : G → Nat) (g0 : G) (h0 : I g0 a w)
    (round : ∀ g a w, I g a w → W P c ⟨fun a' w' => ∃ g', m g' < m g ∧ I g' a' w', p.ext, p.ret⟩ a w) : W P (.loop c) p a w := by
  refine wp_loop_ghost (fun k a w => ∃ g, m g = k ∧ I g a w) (m g0) ⟨g0, rfl, h0⟩ ?_
  rintro k a w ⟨g, rfl, hg⟩
  refine wp_mono (round g a w hg) fun e a w hq => ?_
  cases e with
  | normal => obtain ⟨g', h1, h2⟩ := hq; exact ⟨_, h1, g', rfl, h2⟩
  | exit i => exact hq
  | ret => exact hq
  | _ => exact (hq : False).elim
end

/-! ### Contracts -/
def C (P : Program) (f : FuncId) (args : Array Value) (w : World) (R : Value → World → Prop) : Prop :=
  Calls P f args w fun e w' => ∃ v, e = .returned v ∧ R v w'
theorem C.mono {P : Program} {f : FuncId} {args : Array Value} {w : World} {R R' : Value → World → Prop} (h : C P f args w R) (hr : ∀ v w', R v w' → R' v w') : C P f args w R' :=
  Calls.mono h fun _ _ ⟨v, he, hv⟩ => ⟨v, he, hr _ _ hv⟩
def argEnv (i : Nat) : List Value → Env
  | [] => []
  | v :: r => (i, v) :: argEnv (i + 1) r
theorem lk_argEnv (t : Nat) : ∀ (l : List Value) (i : Nat), lk (argEnv i l) t = if i ≤ t then l.getD (t - i) undef else undef
  | [], i => by simp [argEnv, lk]
  | v :: r, i => by
    simp only [argEnv]
    by_cases h : i = t
    · subst h; simp [lk_cons_eq]
    · rw [lk_cons_ne h, lk_argEnv t r (i + 1)]
      by_cases h2 : i ≤ t
      · rw [if_pos (by omega), if_pos h2, show t - i = (t - (i + 1)) + 1 by omega]; simp
      · rw [if_neg (by omega), if_neg h2]
structure fin (P : Program) (fn : Func) (R : Value → World → Prop) (a : Act) (w : World) : Prop where
  dn : a.defers = []
  ex : ∃ v, (results fn a.tmps).run P w = .ok v w ∧ R v w
theorem C_of_W {P : Program} {f : FuncId} {fn : Func} {c : Code} {args : List Value} {n : Nat} {w : World} {R : Value → World → Prop}
    (hf : P.funcs[f]? = some fn) (hb : fn.body = some c) (hn : fn.ntmps = n) (hl : args.length ≤ n)
    (h : W P c ⟨fin P fn R, fun _ _ _ => False, fin P fn R⟩ (A n (argEnv 0 args)) w) : C P f args.toArray w R := by
  refine calls_of_wp hf hb ?_
  have ha : ({ tmps := args.toArray ++ Array.replicate (fn.ntmps - args.toArray.size) undef, defers := [] } : Act) = A n (argEnv 0 args) := by
    simp only [A, Act.mk.injEq, and_true, hn]
    apply Array.ext
    · simp [tm_size]; omega
    · intro i h1 h2
      simp only [tm, Array.getElem_ofFn, lk_argEnv]
      rw [Array.getElem_append]
      simp only [List.size_toArray, List.getElem_toArray, Array.getElem_replicate]
      split
      · rename_i h3; simp [h3]
      · rename_i h3; simp; rw [List.getElem?_eq_none (by omega)]; rfl
  rw [ha]
  refine wp_mono h fun e a w hq => ?_
  cases e with
  | normal => obtain ⟨hd, v, hr, hR⟩ := hq; exact ⟨hd, v, hr, v, rfl, hR⟩
  | ret => obtain ⟨hd, v, hr, hR⟩ := hq; exact ⟨hd, v, hr, v, rfl, hR⟩
  | exit i => exact (hq : False).elim
  | _ => exact (hq : False).elim
theorem fin0 {P : Program} {fn : Func} {R : Value → World → Prop} {n : Nat} {e : Env} {w : World} (h : fn.results = #[]) (hR : R (.tuple #[]) w) : fin P fn R (A n e) w :=
  ⟨rfl, _, results_none h _ _ _, hR⟩
theorem fin1 {P : Program} {fn : Func} {R : Value → World → Prop} {n : Nat} {e : Env} {w : World} {t : Nat} {v : Value} (h : fn.results = #[.tmp t]) (hv : opv n e (.tmp t) = v) (hR : R v w) : fin P fn R (A n e) w :=
  ⟨rfl, v, by rw [results_tmp h, ← hv, ← A_eval]; rfl, hR⟩
theorem fin2 {P : Program} {fn : Func} {R : Value → World → Prop} {n : Nat} {e : Env} {w : World} {t u : Nat} {v1 v2 : Value} (h : fn.results = #[.tmp t, .tmp u]) (hv : opv n e (.tmp t) = v1) (hu : opv n e (.tmp u) = v2) (hR : R (.tuple #[v1, v2]) w) : fin P fn R (A n e) w :=
  ⟨rfl, .tuple #[v1, v2], by rw [results_tmp2 h, ← hv, ← hu, ← A_eval]; rfl, hR⟩
theorem results_tmp3 {fn : Func} {t u v : Tmp} (h : fn.results = #[.tmp t, .tmp u, .tmp v]) (tmps : Array Value) (P : Program) (w : World) :
    (results fn tmps).run P w = .ok (.tuple #[tmps.getD t undef, tmps.getD u undef, tmps.getD v undef]) w := by simp [results, h]
theorem fin3 {P : Program} {fn : Func} {R : Value → World → Prop} {n : Nat} {e : Env} {w : World} {t u s : Nat} {v1 v2 v3 : Value} (h : fn.results = #[.tmp t, .tmp u, .tmp s]) (hv : opv n e (.tmp t) = v1) (hu : opv n e (.tmp u) = v2) (hs : opv n e (.tmp s) = v3) (hR : R (.tuple #[v1, v2, v3]) w) : fin P fn R (A n e) w :=
  ⟨rfl, .tuple #[v1, v2, v3], by rw [results_tmp3 h, ← hv, ← hu, ← hs, ← A_eval]; rfl, hR⟩
end Go.Proofs.YtkolfgmpmnelmabGreatDoor.Vx
