/-
  A small frame for walks, 2: what a world is, seen from the world in which a call began: a list of blocks that are known; all others are as they were.
-/
import Derived.Test.YtkolfgmpmnelmabGreatDoorVa
namespace Go.Proofs.YtkolfgmpmnelmabGreatDoor.Vx
open Go

abbrev Blocks := List (Nat × Obj)
def keys (L : Blocks) : List Nat := L.map (·.1)
structure St (w0 : World) (L : Blocks) (w : World) : Prop where
  os : w.os = w0.os
  tape : w.tape = w0.tape
  output : w.output = w0.output
  size : w0.heap.size ≤ w.heap.size
  has : ∀ x ∈ L, w.heap[x.1]? = some x.2
  nd : (keys L).Nodup
  fr : ∀ b, b < w0.heap.size → b ∉ keys L → w.heap[b]? = w0.heap[b]?

theorem St.init (w : World) : St w [] w := ⟨rfl, rfl, rfl, Nat.le_refl _, fun _ h => (by cases h), List.nodup_nil, fun _ _ _ => rfl⟩
theorem St.drewN {w0 w : World} {L : Blocks} (h : St w0 L w) (k : Nat) : St w0 L { w with drawn := k } := ⟨h.os, h.tape, h.output, h.size, h.has, h.nd, h.fr⟩
theorem St.ofDrewN {w0 w : World} {L : Blocks} {k : Nat} (h : St w0 L { w with drawn := k }) : St w0 L w := ⟨h.os, h.tape, h.output, h.size, h.has, h.nd, h.fr⟩
theorem St.startDrewN {w0 w : World} {L : Blocks} {k : Nat} (h : St { w0 with drawn := k } L w) : St w0 L w := ⟨h.os, h.tape, h.output, h.size, h.has, h.nd, h.fr⟩
theorem lt_of_has {w : World} {b : Nat} {o : Obj} (h : w.heap[b]? = some o) : b < w.heap.size := by
  rcases Nat.lt_or_ge b w.heap.size with h' | h'
  · exact h'
  · rw [Array.getElem?_eq_none h'] at h; cases h
theorem St.get {w0 w : World} {L : Blocks} (h : St w0 L w) (i : Nat) {b : Nat} {o : Obj} (hi : L[i]? = some (b, o)) : w.heap[b]? = some o :=
  h.has (b, o) (List.mem_of_getElem? hi)
theorem St.lt {w0 w : World} {L : Blocks} (h : St w0 L w) (i : Nat) {b : Nat} {o : Obj} (hi : L[i]? = some (b, o)) : b < w.heap.size := lt_of_has (h.get i hi)
theorem St.old {w0 w : World} {L : Blocks} (h : St w0 L w) {b : Nat} {o : Obj} (hb : w0.heap[b]? = some o) (hn : b ∉ keys L) : w.heap[b]? = some o := by
  rw [h.fr b (lt_of_has hb) hn]; exact hb
theorem keys_lt {w0 w : World} {L : Blocks} (h : St w0 L w) {b : Nat} (hb : b ∈ keys L) : b < w.heap.size := by
  obtain ⟨x, hx, rfl⟩ := List.mem_map.1 hb
  exact lt_of_has (h.has x hx)
/-- A new block. -/
theorem St.alloc {w0 w : World} {L : Blocks} (h : St w0 L w) (o : Obj) : St w0 ((w.heap.size, o) :: L) { w with heap := w.heap.push o } := by
  refine ⟨h.os, h.tape, h.output, ?_, ?_, ?_, ?_⟩
  · have := h.size; simp; omega
  · intro x hx
    rcases List.mem_cons.1 hx with rfl | hx
    · simp
    · have := lt_of_has (h.has x hx)
      simp only [Array.getElem?_push]; rw [if_neg (by omega)]; exact h.has x hx
  · simp only [keys, List.map_cons, List.nodup_cons]
    exact ⟨fun hm => by have := keys_lt h hm; omega, h.nd⟩
  · intro b hb hn
    simp only [keys, List.map_cons, List.mem_cons, not_or] at hn
    have := h.size
    simp only [Array.getElem?_push]; rw [if_neg (by omega)]
    exact h.fr b hb hn.2
theorem keys_set {L : Blocks} {i b : Nat} {o o' : Obj} (hi : L[i]? = some (b, o)) : keys (L.set i (b, o')) = keys L := by
  unfold keys
  rw [List.map_set]
  apply List.ext_getElem?
  intro j
  rw [List.getElem?_set]
  split
  · rename_i hj
    subst hj
    obtain ⟨h1, h2⟩ := List.getElem?_eq_some_iff.1 hi
    simp [h1, h2]
  · rfl
theorem nodup_get {L : List Nat} (h : L.Nodup) {i j : Nat} {a : Nat} (hi : L[i]? = some a) (hj : L[j]? = some a) : i = j := by
  obtain ⟨h1, h2⟩ := List.getElem?_eq_some_iff.1 hi
  obtain ⟨h3, h4⟩ := List.getElem?_eq_some_iff.1 hj
  rcases Nat.lt_trichotomy i j with hij | hij | hij
  · exact absurd (h2.trans h4.symm) (List.pairwise_iff_getElem.1 h i j h1 h3 hij)
  · exact hij
  · exact absurd (h4.trans h2.symm) (List.pairwise_iff_getElem.1 h j i h3 h1 hij)
/-- A block is another one. -/
theorem St.upd {w0 w : World} {L : Blocks} (h : St w0 L w) (i : Nat) {b : Nat} {o o' : Obj} (hi : L[i]? = some (b, o)) {w' : World} (hos : w'.os = w.os) (htape : w'.tape = w.tape) (hout : w'.output = w.output)
    (hsize : w.heap.size ≤ w'.heap.size) (hb : w'.heap[b]? = some o') (ho : ∀ k, k < w.heap.size → k ≠ b → w'.heap[k]? = w.heap[k]?) : St w0 (L.set i (b, o')) w' := by
  refine ⟨hos.trans h.os, htape.trans h.tape, hout.trans h.output, Nat.le_trans h.size hsize, ?_, ?_, ?_⟩
  · intro x hx
    obtain ⟨j, hj⟩ := List.mem_iff_getElem?.1 hx
    rw [List.getElem?_set] at hj
    split at hj
    · split at hj
      · cases hj; exact hb
      · cases hj
    · rename_i hij
      have hne : x.1 ≠ b := by
        intro he
        apply hij
        refine nodup_get h.nd (a := b) ?_ ?_
        · simp [keys, hi]
        · simp [keys, hj, he]
      have hx' := h.has x (List.mem_of_getElem? hj)
      rw [ho _ (lt_of_has hx') hne]; exact hx'
  · rw [keys_set hi]; exact h.nd
  · intro k hk hn
    rw [keys_set hi] at hn
    have hne : k ≠ b := by
      rintro rfl
      exact hn (List.mem_map.2 ⟨(k, o), List.mem_of_getElem? hi, rfl⟩)
    rw [ho k (by have := h.size; omega) hne]; exact h.fr k hk hn
theorem heap_modify_self {w : World} {b : Nat} {c : Array Value} {T : TypeId} {fz : Nat × Nat} (f : Obj → Obj) (h : w.heap[b]? = some (.cells c T fz)) : (w.heap.modify b f)[b]? = some (f (.cells c T fz)) := by
  rw [Array.getElem?_modify]; simp [h]
theorem St.setCell {w0 w : World} {L : Blocks} (h : St w0 L w) (i : Nat) {b : Nat} {c : Array Value} {T : TypeId} {fz : Nat × Nat} (hi : L[i]? = some (b, .cells c T fz)) (off : Nat) (v : Value) :
    St w0 (L.set i (b, .cells (c.setIfInBounds off v) T fz)) (w.setCell ⟨b, off, none⟩ v) := by
  refine h.upd i hi rfl rfl rfl (by simp [World.setCell]) ?_ ?_
  · simp only [World.setCell]
    rw [heap_modify_self _ (h.get i hi)]
    simp
  · intro k hk hne
    simp only [World.setCell, Array.getElem?_modify]
    rw [if_neg (fun he => hne he.symm)]
/-- A call that leaves all as it was; what it hands back (M) is new. -/
theorem St.call_new {w0 w w' : World} {L M : Blocks} (h : St w0 L w) (h' : St w M w') (hM : ∀ b ∈ keys M, w.heap.size ≤ b) : St w0 (M ++ L) w' := by
  refine ⟨h'.os.trans h.os, h'.tape.trans h.tape, h'.output.trans h.output, Nat.le_trans h.size h'.size, ?_, ?_, ?_⟩
  · intro x hx
    rcases List.mem_append.1 hx with hx | hx
    · exact h'.has x hx
    · have h1 := h.has x hx
      exact h'.old h1 (fun hm => by have := hM _ hm; have := lt_of_has h1; omega)
  · simp only [keys, List.map_append]
    refine List.nodup_append.2 ⟨h'.nd, h.nd, ?_⟩
    intro a ha b hb hab
    subst hab
    have := hM a ha
    have := keys_lt h (b := a) hb
    omega
  · intro b hb hn
    simp only [keys, List.map_append, List.mem_append, not_or] at hn
    rw [h'.fr b (by have := h.size; omega) hn.1]
    exact h.fr b hb hn.2
theorem St.call0 {w0 w w' : World} {L : Blocks} (h : St w0 L w) (h' : St w [] w') : St w0 L w' := h.call_new (M := []) h' (fun _ hb => by cases hb)
/-- A call that turned one known block. -/
theorem St.call1 {w0 w w' : World} {L : Blocks} (h : St w0 L w) (i : Nat) {b : Nat} {o o' : Obj} (hi : L[i]? = some (b, o)) (h' : St w [(b, o')] w') : St w0 (L.set i (b, o')) w' := by
  refine h.upd i hi h'.os h'.tape h'.output h'.size (h'.has (b, o') (by simp)) ?_
  intro k hk hne
  exact h'.fr k hk (by simp [keys, hne])
/-- What is known may be put in another order, or forgotten where it is new, or as it was. -/
theorem St.perm {w0 w : World} {L L' : Blocks} (h : St w0 L w) (hp : L.Perm L') : St w0 L' w := by
  have hk : (keys L).Perm (keys L') := hp.map _
  exact ⟨h.os, h.tape, h.output, h.size, fun x hx => h.has x (hp.mem_iff.2 hx), hk.nodup_iff.1 h.nd, fun b hb hn => h.fr b hb (fun hm => hn (hk.mem_iff.1 hm))⟩
theorem St.drop {w0 w : World} {L : Blocks} {x : Nat × Obj} (h : St w0 (x :: L) w) (hx : w0.heap.size ≤ x.1 ∨ w0.heap[x.1]? = some x.2) : St w0 L w := by
  refine ⟨h.os, h.tape, h.output, h.size, fun y hy => h.has y (List.mem_cons_of_mem _ hy), ?_, ?_⟩
  · have := h.nd; simp only [keys, List.map_cons, List.nodup_cons] at this; exact this.2
  · intro b hb hn
    by_cases he : b = x.1
    · subst he
      rcases hx with hx | hx
      · omega
      · rw [h.has x (by simp), hx]
    · exact h.fr b hb (by simp only [keys, List.map_cons, List.mem_cons, not_or]; exact ⟨he, hn⟩)
/-- All that is known is new, or as it was. -/
theorem St.drops {w0 w : World} : ∀ {L : Blocks}, St w0 L w → (∀ x ∈ L, w0.heap.size ≤ x.1 ∨ w0.heap[x.1]? = some x.2) → St w0 [] w
  | [], h, _ => h
  | x :: L, h, hx => St.drops (h.drop (hx x (by simp))) (fun y hy => hx y (List.mem_cons_of_mem _ hy))
theorem St.below {w0 w : World} (h : St w0 [] w) : Go.RowKit.Below w0.heap.size w0 w := ⟨h.os, h.tape, h.output, h.size, fun k hk => h.fr k hk (by simp [keys])⟩
/-- A block that was there, known from now on. -/
theorem St.borrow {w0 w : World} {L : Blocks} (h : St w0 L w) {b : Nat} {o : Obj} (hb : w0.heap[b]? = some o) (hn : b ∉ keys L) : St w0 ((b, o) :: L) w := by
  refine ⟨h.os, h.tape, h.output, h.size, ?_, ?_, ?_⟩
  · intro x hx
    rcases List.mem_cons.1 hx with rfl | hx
    · exact h.old hb hn
    · exact h.has x hx
  · simp only [keys, List.map_cons, List.nodup_cons]; exact ⟨hn, h.nd⟩
  · intro k hk hkn
    simp only [keys, List.map_cons, List.mem_cons, not_or] at hkn
    exact h.fr k hk hkn.2
/-- From an elder world on. -/
theorem St.trans0 {w0 w w' : World} (h : St w0 [] w) (h' : St w [] w') : St w0 [] w' := h.call0 h'
theorem C_enter {P : Program} {f : FuncId} {fn : Func} {c : Code} {args : List Value} {n : Nat} {w : World} {R : Value → World → Prop}
    (hf : P.funcs[f]? = some fn) (hb : fn.body = some c) (hn : fn.ntmps = n) (hl : Nat.ble args.length n = true)
    (h : ∀ w1, St w [] w1 → W P c ⟨fin P fn R, fun _ _ _ => False, fin P fn R⟩ (A n (argEnv 0 args)) w1) : C P f ⟨args⟩ w R :=
  C_of_W hf hb hn (Nat.le_of_ble_eq_true hl) (h w (St.init w))
theorem cell_of_has {w : World} {b off : Nat} {c : Array Value} {T : TypeId} {fz : Nat × Nat} (h : w.heap[b]? = some (.cells c T fz)) : w.cell? ⟨b, off, none⟩ = c[off]? := by simp [World.cell?, h]
end Go.Proofs.YtkolfgmpmnelmabGreatDoor.Vx
