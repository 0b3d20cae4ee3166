/-
  Plain words for entry.Parse: line by line; files that were laid.
-/
import Derived.Test.YtkolfgmpmnelmabGreatDoorN7
namespace Go.Proofs.YtkolfgmpmnelmabGreatDoor.Ent
open Go Vx Go.Proofs Go.RowKit
set_option linter.unusedVariables false
set_option maxRecDepth 8000
set_option maxHeartbeats 1000000
theorem mapM_snoc {α β : Type} {f : α → Option β} {x : α} {y : β} (hx : f x = some y) : ∀ {l : List α} {m : List β}, l.mapM f = some m → (l ++ [x]).mapM f = some (m ++ [y])
  | [], m, h => by
    have : m = [] := by simpa using h.symm
    subst this
    simp [hx]
  | a :: l, m, h => by
    rw [List.mapM_cons] at h
    rw [List.cons_append, List.mapM_cons]
    cases ha : f a with
    | none => rw [ha] at h; simp at h
    | some b =>
      rw [ha] at h
      cases hl : l.mapM f with
      | none => rw [hl] at h; simp at h
      | some k =>
        rw [hl] at h
        have : m = b :: k := by simpa using h.symm
        subst this
        rw [mapM_snoc hx hl]; rfl
theorem mapM_cut {α β : Type} {f : α → Option β} {x : α} (hx : f x = none) (r : List α) : ∀ (l : List α), (l ++ x :: r).mapM f = none
  | [] => by simp [hx]
  | a :: l => by
    rw [List.cons_append, List.mapM_cons]
    cases ha : f a with
    | none => rfl
    | some b => rw [mapM_cut hx r l]; rfl
theorem mapM_len {α β : Type} {f : α → Option β} : ∀ {l : List α} {m : List β}, l.mapM f = some m → m.length = l.length
  | [], m, h => by
    have : m = [] := by simpa using h.symm
    simp [this]
  | a :: l, m, h => by
    rw [List.mapM_cons] at h
    cases ha : f a with
    | none => rw [ha] at h; simp at h
    | some b =>
      rw [ha] at h
      cases hl : l.mapM f with
      | none => rw [hl] at h; simp at h
      | some k =>
        rw [hl] at h
        have : m = b :: k := by simpa using h.symm
        subst this
        rw [List.length_cons, List.length_cons, mapM_len hl]
theorem line?_some {x : List UInt8} {ns : List Int} (h : (spl 32 x).tail.mapM num? = some ns) : line? x = some ⟨(spl 32 x).headD [], ns.headD 0, ns.tail⟩ := by rw [line?, h]
theorem line?_none {x : List UInt8} (h : (spl 32 x).tail.mapM num? = none) : line? x = none := by rw [line?, h]
theorem read?_none {s : List UInt8} {pre : List (List UInt8)} {x : List UInt8} (h : NextP 10 (cutEnd s) pre x) (hx : line? x = none) : read? s = none := by
  obtain ⟨rest, hr⟩ := h
  rw [read?, ← hr, mapM_cut hx]
theorem read?_some {s : List UInt8} {m : List Fl} (h : (spl 10 (cutEnd s)).mapM line? = some m) : read? s = some (if s = [] then [] else m) := by rw [read?, h]
theorem reads_none {s : List UInt8} (h : read? s = none) : Reads s none := fun m hm e => by
  rw [← e, read?_printed (fun f hf => hm.fl hf)] at h; cases h
theorem reads_other {s : List UInt8} {l : List Fl} (h : read? s = some l) (hn : ¬ (RightP l ∧ printed l = s)) : Reads s none := fun m hm e => by
  rw [← e, read?_printed (fun f hf => hm.fl hf)] at h
  cases h
  exact hn ⟨hm, e⟩
theorem suffix_cut (s : List UInt8) : Lib.trimSuffix s [10] = cutEnd s := by
  rw [cutEnd]
  rcases List.eq_nil_or_concat s with rfl | ⟨r, x, rfl⟩
  · simp [Lib.trimSuffix, Lib.hasSuffix]
  · by_cases h : x = 10
    · subst h; simp [Lib.trimSuffix, Lib.hasSuffix]
    · have h' : ¬ (10 : UInt8) = x := fun e => h e.symm
      simp [Lib.trimSuffix, Lib.hasSuffix, h, h']
theorem cutEnd_len (s : List UInt8) : (cutEnd s).length ≤ s.length := by
  rw [cutEnd]; split
  · simp
  · exact Nat.le_refl _
theorem next_len {c : UInt8} {s x : List UInt8} {pre : List (List UInt8)} (h : NextP c s pre x) : x.length ≤ s.length := by
  obtain ⟨rest, hr⟩ := h
  have key : ∀ (s : List UInt8) (y : List UInt8), y ∈ spl c s → y.length ≤ s.length := by
    intro s
    induction s with
    | nil => intro y hy; simp [spl] at hy; simp [hy]
    | cons a r ih =>
      intro y hy
      rw [spl] at hy
      split at hy
      · rcases List.mem_cons.1 hy with rfl | hy
        · simp
        · have := ih y hy; simp; omega
      · cases h2 : spl c r with
        | nil => exact absurd h2 (spl_ne c r)
        | cons p q =>
          rw [h2] at hy ih
          rcases List.mem_cons.1 hy with rfl | hy
          · have := ih p (by simp); simp; omega
          · have := ih y (by simp [hy]); simp; omega
  exact key s x (by rw [← hr]; simp)
theorem part_len {c : UInt8} {s y : List UInt8} (h : y ∈ spl c s) : y.length ≤ s.length := by
  obtain ⟨pre, rest, hr⟩ := List.append_of_mem h
  exact next_len ⟨rest, hr.symm⟩
/-! ### Files that were laid -/
def flatC (l : List Fl) (vc : Nat → Value) : List Value := (List.range l.length).flatMap fun j => flCells (l.getD j default) (vc j)
theorem flat3_len (f : Nat → List Value) (hf : ∀ j, (f j).length = 3) : ∀ n, ((List.range n).flatMap f).length = n * 3
  | 0 => rfl
  | n + 1 => by rw [List.range_succ, List.flatMap_append, List.length_append, flat3_len f hf n]; simp [hf]; omega
theorem flat3_get (f : Nat → List Value) (hf : ∀ j, (f j).length = 3) : ∀ (n j q : Nat), j < n → q < 3 → ((List.range n).flatMap f)[j * 3 + q]? = (f j)[q]?
  | 0, j, q, h, _ => absurd h (Nat.not_lt_zero _)
  | n + 1, j, q, h, hq => by
    have hl := flat3_len f hf n
    rw [List.range_succ, List.flatMap_append]
    by_cases e : j < n
    · rw [List.getElem?_append_left (by omega), flat3_get f hf n j q e hq]
    · have e2 : j = n := by omega
      subst e2
      rw [List.getElem?_append_right (by omega), hl, show j * 3 + q - j * 3 = q from by omega]
      simp
structure FB (B : Nat) (v : Value) (l : List Fl) (vc : Nat → Value) (ent rows : Blocks) : Prop where
  row : Row B 44 3 v l.length (flatC l vc) ent
  cs : ∀ j, j < l.length → ∃ e, (∀ x ∈ e, x ∈ rows) ∧ Row B 3 1 (vc j) (l.getD j default).cs.length ((l.getD j default).cs.map iv) e
  new : ∀ x ∈ rows, B ≤ x.1
  isc : ∀ x ∈ rows, isC x.2 = true
theorem FB.nil (B : Nat) (vc : Nat → Value) : FB B (.slice none 0 0) [] vc [] [] := ⟨Row.nil _ _ _, fun j hj => absurd hj (Nat.not_lt_zero _), fun x hx => (by cases hx), fun x hx => (by cases hx)⟩
theorem Row_isC {B E s m : Nat} {v : Value} {xs : List Value} {ent : Blocks} (h : Row B E s v m xs ent) : ∀ x ∈ ent, isC x.2 = true := by
  rcases h.2 with ⟨_, _, h3⟩ | ⟨g, cap, cur, fz, _, h2, _⟩
  · rw [h3]; intro x hx; cases hx
  · rw [h2]; intro x hx; rw [List.mem_singleton] at hx; subst hx; rfl
def vcPush (vc : Nat → Value) (n : Nat) (vi : Value) : Nat → Value := fun j => if j = n then vi else vc j
theorem flatC_snoc (l : List Fl) (vc : Nat → Value) (F : Fl) (vi : Value) : flatC (l ++ [F]) (vcPush vc l.length vi) = flatC l vc ++ flCells F vi := by
  rw [flatC, flatC, List.length_append, List.length_singleton, List.range_succ, List.flatMap_append]
  congr 1
  · rw [List.flatMap_def, List.flatMap_def]
    congr 1
    refine List.map_congr_left fun j hj => ?_
    have hj := List.mem_range.1 hj
    rw [vcPush, if_neg (by omega), List.getD_eq_getElem?_getD, List.getD_eq_getElem?_getD, List.getElem?_append_left hj]
  · rw [List.flatMap_singleton, vcPush, if_pos rfl, List.getD_eq_getElem?_getD, List.getElem?_append_right (Nat.le_refl _)]
    simp
theorem FB.push {B : Nat} {v v' vi : Value} {l : List Fl} {vc : Nat → Value} {ent ent' rows entF : Blocks} {F : Fl} (h : FB B v l vc ent rows) (hr : Row B 44 3 v' (l.length + 1) (flatC l vc ++ flCells F vi) ent') (hc : Row B 3 1 vi F.cs.length (F.cs.map iv) entF) : FB B v' (l ++ [F]) (vcPush vc l.length vi) ent' (entF ++ rows) := by
  refine ⟨?_, fun j hj => ?_, fun x hx => (List.mem_append.1 hx).elim (hc.new x) (h.new x), fun x hx => (List.mem_append.1 hx).elim (Row_isC hc x) (h.isc x)⟩
  · rw [flatC_snoc, List.length_append, List.length_singleton]; exact hr
  · rw [List.length_append, List.length_singleton] at hj
    by_cases e : j < l.length
    · obtain ⟨e', h1, h2⟩ := h.cs j e
      refine ⟨e', fun x hx => List.mem_append_right _ (h1 x hx), ?_⟩
      rw [vcPush, if_neg (by omega), List.getD_eq_getElem?_getD, List.getElem?_append_left e, ← List.getD_eq_getElem?_getD]
      exact h2
    · have e2 : j = l.length := by omega
      subst e2
      refine ⟨entF, fun x hx => List.mem_append_left _ hx, ?_⟩
      rw [vcPush, if_pos rfl, List.getD_eq_getElem?_getD, List.getElem?_append_right (Nat.le_refl _)]
      simpa using hc
theorem flCells_len (f : Fl) (v : Value) : (flCells f v).length = 3 := rfl
theorem FB.at {B : Nat} {v : Value} {l : List Fl} {vc : Nat → Value} {ent rows L : Blocks} {w0 w : World} (h : FB B v l vc ent rows) (hs : St w0 L w) (h1 : ∀ x ∈ ent, x ∈ L) (h2 : ∀ x ∈ rows, x ∈ L) : FlsAt w v l vc := by
  have hcs : ∀ j, j < l.length → Sl w (vc j) (l.getD j default).cs.length (fun k => iv ((l.getD j default).cs.getD k 0)) := fun j hj => by
    obtain ⟨e, q1, q2⟩ := h.cs j hj
    exact q2.sl hs (fun x hx => h2 x (q1 x hx)) 0
  rcases h.row.2 with ⟨rfl, hm, _⟩ | ⟨g, cap, cur, fz, rfl, rfl, h3, h4, h5, h6, h7, h8⟩
  · rw [List.length_eq_zero_iff] at hm
    subst hm
    exact ⟨⟨none, 0, rfl, fun h => absurd h (Nat.lt_irrefl _)⟩, fun j hj => absurd hj (Nat.not_lt_zero _), hcs, ⟨none, 0, rfl, Nat.le_refl _⟩⟩
  · refine ⟨⟨_, cap, rfl, fun _ => rfl⟩, fun j hj q u hu => ?_, hcs, ⟨_, cap, rfl, h4⟩⟩
    have hq : q < 3 := by
      rcases Nat.lt_or_ge q 3 with h9 | h9
      · exact h9
      · rw [List.getElem?_eq_none (by rw [flCells_len]; exact h9)] at hu; cases hu
    have e1 := flat3_get (fun j => flCells (l.getD j default) (vc j)) (fun _ => rfl) l.length j q hj hq
    rw [show (List.range l.length).flatMap (fun j => flCells (l.getD j default) (vc j)) = flatC l vc from rfl, ← h7, List.getElem?_take_of_lt (by omega)] at e1
    show w.cell? ⟨g, 0 + j * 3 + q, none⟩ = some u
    rw [cell_of_has (hs.has (g, .cells cur 44 fz) (h1 _ (by simp))), Nat.zero_add]
    rw [← hu, ← e1]; simp
end Go.Proofs.YtkolfgmpmnelmabGreatDoor.Ent
