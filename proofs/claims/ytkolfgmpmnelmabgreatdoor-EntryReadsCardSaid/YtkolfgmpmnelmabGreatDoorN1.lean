/-
  Files, opened as a walk wants them; cells that were seen; the library's part of names and numbers.
-/
import Derived.Test.YtkolfgmpmnelmabGreatDoorQ2
import Derived.Test.YtkolfgmpmnelmabGreatDoorSw
import Derived.Test.YtkolfgmpmnelmabGreatDoorVs
import Derived.Test.YtkolfgmpmnelmabGreatDoorVy
namespace Go.Proofs.YtkolfgmpmnelmabGreatDoor.Ent
open Go Vx Go.Proofs
set_option linter.unusedVariables false
instance : Inhabited Fl := ⟨⟨[], 0, []⟩⟩
/-! ### Cells that were seen -/
structure SeenE (es : Array MapEntry) (S : List Int) : Prop where
  yes : ∀ a ∈ S, ∃ j, Instr.findNow (.int .i64) (.int .i64 a) es.toList 0 = some (some (j, .bool true))
  no : ∀ a, a ∉ S → Instr.findNow (.int .i64) (.int .i64 a) es.toList 0 = some none
theorem SeenE.nil : SeenE #[] [] := ⟨fun a h => (by cases h), fun a h => rfl⟩
theorem find_app_yes {a : Int} {x : MapEntry} : ∀ (l : List MapEntry) (i : Nat) {r : Nat × Value}, Instr.findNow (.int .i64) (.int .i64 a) l i = some (some r) → Instr.findNow (.int .i64) (.int .i64 a) (l ++ [x]) i = some (some r)
  | [], i, r, h => by simp [Instr.findNow] at h
  | e :: l, i, r, h => by
    rw [List.cons_append]
    simp only [Instr.findNow] at h ⊢
    split at h
    · exact h
    · exact find_app_yes l (i + 1) h
    · cases h
theorem find_app_no {a : Int} {x : MapEntry} : ∀ (l : List MapEntry) (i : Nat), Instr.findNow (.int .i64) (.int .i64 a) l i = some none → Instr.findNow (.int .i64) (.int .i64 a) (l ++ [x]) i = Instr.findNow (.int .i64) (.int .i64 a) [x] (i + l.length)
  | [], i, h => by simp
  | e :: l, i, h => by
    rw [List.cons_append]
    simp only [Instr.findNow] at h
    simp only [Instr.findNow, List.length_cons]
    split at h
    · cases h
    · have := find_app_no (x := x) l (i + 1) h
      rw [show i + 1 + l.length = i + (l.length + 1) from by omega] at this
      simpa [Instr.findNow] using this
    · cases h
theorem SeenE.push {es : Array MapEntry} {S : List Int} (h : SeenE es S) {k : Int} (hk : k ∉ S) (c : Nat) : SeenE (es.push { key := .int .i64 k, val := .bool true, born := c }) (S ++ [k]) := by
  refine ⟨fun a ha => ?_, fun a ha => ?_⟩
  · rw [Array.toList_push]
    rcases List.mem_append.1 ha with h1 | h1
    · obtain ⟨j, hj⟩ := h.yes a h1
      exact ⟨j, find_app_yes _ _ hj⟩
    · rw [List.mem_singleton] at h1
      subst h1
      refine ⟨0 + es.toList.length, ?_⟩
      rw [find_app_no _ _ (h.no a hk)]
      simp [Instr.findNow, Instr.sameNow]
  · rw [Array.toList_push]
    simp only [List.mem_append, List.mem_singleton, not_or] at ha
    rw [find_app_no _ _ (h.no a ha.1)]
    have e : (a == k) = false := by simpa using ha.2
    simp [Instr.findNow, Instr.sameNow, e]
/-! ### One file more -/
theorem allCells_take {l : List Fl} {i : Nat} (hi : i < l.length) : allCells (l.take (i + 1)) = allCells (l.take i) ++ (l.getD i default).cs := by
  rw [List.take_add_one, List.getElem?_eq_getElem hi, Option.toList_some, allCells, List.flatMap_append, List.getD_eq_getElem?_getD, List.getElem?_eq_getElem hi]
  simp [allCells]
theorem getD_take {l : List Fl} {i j : Nat} (h : j < i) (d : Fl) : (l.take i).getD j d = l.getD j d := by rw [List.getD_eq_getElem?_getD, List.getD_eq_getElem?_getD, List.getElem?_take_of_lt h]
theorem mem_take_last {l : List Fl} {i : Nat} (hi : i < l.length) : l.getD i default ∈ l.take (i + 1) := by
  rw [List.take_add_one, List.getElem?_eq_getElem hi, List.getD_eq_getElem?_getD, List.getElem?_eq_getElem hi]
  exact List.mem_append.2 (.inr (List.mem_singleton.2 rfl))
structure Next (l : List Fl) (i : Nat) : Prop where
  name : NameP (l.getD i default).nm
  rise : 0 < i → Op.bytesLess (l.getD (i - 1) default).nm (l.getD i default).nm = true
  size : 0 ≤ (l.getD i default).sz ∧ (l.getD i default).sz ≤ 1920
  need : ((l.getD i default).cs.length : Int) = needI (l.getD i default).sz
  range : ∀ k ∈ (l.getD i default).cs, 3 ≤ k ∧ k < 24
  once : (allCells (l.take i) ++ (l.getD i default).cs).Nodup
theorem RightP.nextOf {l : List Fl} (h : RightP l) {i : Nat} (hi : i < l.length) : Next l i := by
  have h1 := h.take (i + 1)
  have hm : l.getD i default ∈ l := List.mem_of_mem_take (mem_take_last hi)
  refine ⟨h.name _ hm, fun h0 => ?_, h.size _ hm, h.need _ hm, fun k hk => h.range k (List.mem_flatMap.2 ⟨_, hm, hk⟩), ?_⟩
  · have h2 := h.rise (i - 1) (by omega)
    rw [show i - 1 + 1 = i from by omega] at h2
    exact h2
  · rw [← allCells_take hi]; exact h1.once
theorem RightP.more {l : List Fl} {i : Nat} (h : RightP (l.take i)) (hl : l.length ≤ 8) (hi : i < l.length) (n : Next l i) : RightP (l.take (i + 1)) := by
  have hmem : ∀ f ∈ l.take (i + 1), f ∈ l.take i ∨ f = l.getD i default := fun f hf => by
    rw [List.take_add_one, List.getElem?_eq_getElem hi, Option.toList_some] at hf
    rcases List.mem_append.1 hf with hf | hf
    · exact .inl hf
    · right; rw [List.mem_singleton] at hf; rw [hf, List.getD_eq_getElem?_getD, List.getElem?_eq_getElem hi]; rfl
  refine ⟨by rw [List.length_take]; omega, fun f hf => ?_, fun j hj => ?_, fun f hf => ?_, fun f hf => ?_, fun k hk => ?_, ?_⟩
  · rcases hmem f hf with h1 | rfl
    · exact h.name f h1
    · exact n.name
  · rw [List.length_take] at hj
    have e1 := getD_take (l := l) (show j < i + 1 by omega) ⟨[], 0, []⟩
    have e2 := getD_take (l := l) (show j + 1 < i + 1 by omega) ⟨[], 0, []⟩
    rw [e1, e2]
    rcases Nat.lt_or_ge (j + 1) i with h1 | h1
    · have h2 := h.rise j (by rw [List.length_take]; omega)
      rw [getD_take (show j < i by omega), getD_take h1] at h2
      exact h2
    · have e : j + 1 = i := by omega
      have h2 := n.rise (by omega)
      rw [← e, Nat.add_sub_cancel] at h2
      exact h2
  · rcases hmem f hf with h1 | rfl
    · exact h.size f h1
    · exact n.size
  · rcases hmem f hf with h1 | rfl
    · exact h.need f h1
    · exact n.need
  · rw [allCells_take hi] at hk
    rcases List.mem_append.1 hk with h1 | h1
    · exact h.range k h1
    · exact n.range k h1
  · rw [allCells_take hi]; exact n.once
theorem RightP.zero (l : List Fl) : RightP (l.take 0) := by
  rw [List.take_zero]
  exact ⟨by simp, fun f h => (by cases h), fun i h => (by simp at h), fun f h => (by cases h), fun f h => (by cases h), fun k h => (by simp [allCells] at h), by simp [allCells]⟩
theorem RightP.all {l : List Fl} {i : Nat} (h : RightP (l.take i)) (hi : l.length ≤ i) : RightP l := by rwa [List.take_of_length_le hi] at h
/-! ### Names -/
theorem forall_u8 {p : UInt8 → Bool} (h : (List.range 256).all (fun n => p (UInt8.ofNat n)) = true) (c : UInt8) : p c = true := by
  have h1 := List.all_eq_true.1 h c.toNat (List.mem_range.2 c.toNat_lt)
  simpa using h1
def letters : List UInt8 := [97, 98, 99, 100, 101, 102, 103, 104, 105, 106, 107, 108, 109, 110, 111, 112, 113, 114, 115, 116, 117, 118, 119, 120, 121, 122]
def digits : List UInt8 := [48, 49, 50, 51, 52, 53, 54, 55, 56, 57]
theorem letters_low (c : UInt8) : letters.contains c = low c := by
  have h := forall_u8 (p := fun c => letters.contains c == low c) (by decide +kernel) c
  simpa using h
theorem all_low (c : UInt8) : (letters ++ digits).contains c = (low c || dig c) := by
  have h := forall_u8 (p := fun c => (letters ++ digits).contains c == (low c || dig c)) (by decide +kernel) c
  simpa using h
theorem indexByte_ge : ∀ (l : List UInt8) (c : UInt8), (0 ≤ Lib.indexByte l c ↔ l.contains c = true)
  | [], c => by simp [Lib.indexByte]
  | b :: l, c => by
    have ih := indexByte_ge l c
    rw [Lib.indexByte]
    by_cases e : b = c
    · subst e; simp
    · have e1 : (b == c) = false := by simpa using e
      have e2 : (c == b) = false := by simpa using fun h => e h.symm
      rw [e1]
      simp only [Bool.false_eq_true, if_false, List.contains_cons, e2, Bool.false_or]
      by_cases h : Lib.indexByte l c = -1
      · rw [h] at ih ⊢; simpa using ih
      · have h2 : (Lib.indexByte l c == -1) = false := by simpa using h
        have h3 : -1 ≤ Lib.indexByte l c := by
          clear ih h h2
          induction l with
          | nil => simp [Lib.indexByte]
          | cons x r ih2 => rw [Lib.indexByte]; split; · omega
                            split; · omega
                            omega
        rw [h2]; simp only [Bool.false_eq_true, if_false]
        rw [← ih]; constructor <;> intro _ <;> omega
theorem dropWhile_nil {p : UInt8 → Bool} : ∀ {l : List UInt8}, l.dropWhile p = [] ↔ ∀ c ∈ l, p c = true
  | [] => by simp
  | a :: l => by
    rw [List.dropWhile_cons]
    split
    · rename_i h; rw [dropWhile_nil]; simp [h]
    · rename_i h; simp [h]
theorem trimS_nil {l cs : List UInt8} : Lib.trimS l cs = [] ↔ ∀ c ∈ l, cs.contains c = true := by
  rw [Lib.trimS, Lib.trimLeftS, dropWhile_nil, Lib.trimRightS]
  constructor
  · intro h c hc
    by_cases hp : cs.contains c = true
    · exact hp
    · exfalso
      have h1 : ∀ (l : List UInt8), (∃ c ∈ l, ¬ cs.contains c = true) → l.dropWhile (cs.contains ·) ≠ [] := fun l ⟨c, hc, hn⟩ e => hn (dropWhile_nil.1 e c hc)
      have h2 := h1 l.reverse ⟨c, by simpa using hc, hp⟩
      cases h3 : l.reverse.dropWhile (cs.contains ·) with
      | nil => exact h2 h3
      | cons a r =>
        have h4 : ¬ cs.contains a = true := by
          have := List.head?_dropWhile_not (cs.contains ·) l.reverse
          rw [h3] at this; simpa using this
        exact h4 (h a (by rw [h3]; simp))
  · intro h c hc
    have h1 := (List.dropWhile_suffix (cs.contains ·)).subset (List.mem_reverse.1 hc)
    exact h c (by simpa using h1)
theorem nameP_of {s : List UInt8} (h1 : s ≠ []) (h2 : s.length ≤ 10) (h3 : 0 ≤ Lib.indexByte letters (s.getD 0 0)) (h4 : Lib.trimS s (letters ++ digits) = []) : NameP s :=
  ⟨h1, h2, by rw [← letters_low]; exact (indexByte_ge _ _).1 h3, fun c hc => by rw [← all_low]; exact trimS_nil.1 h4 c hc⟩
theorem nameP_to {s : List UInt8} (h : NameP s) : 0 ≤ Lib.indexByte letters (s.getD 0 0) ∧ Lib.trimS s (letters ++ digits) = [] :=
  ⟨(indexByte_ge _ _).2 (by rw [letters_low]; exact h.first), trimS_nil.2 fun c hc => by rw [all_low]; exact h.all c hc⟩
/-! ### Files that came in -/
def flCells (f : Fl) (vc : Value) : List Value := [str f.nm, iv f.sz, vc]
structure FlsAt (w : World) (v : Value) (l : List Fl) (vc : Nat → Value) : Prop where
  shape : ∃ a cap, v = .slice a l.length cap ∧ (0 < l.length → a = some ⟨adB v, adO v, none⟩)
  cell : ∀ j, j < l.length → ∀ q u, (flCells (l.getD j default) (vc j))[q]? = some u → w.cell? ⟨adB v, adO v + j * 3 + q, none⟩ = some u
  cells : ∀ j, j < l.length → Sl w (vc j) (l.getD j default).cs.length (fun k => iv ((l.getD j default).cs.getD k 0))
  room : ∃ a cap, v = .slice a l.length cap ∧ l.length ≤ cap
/-- .. of sizes that an int holds. -/
structure FlsOk (l : List Fl) : Prop where
  size : ∀ f ∈ l, -9223372036854775808 ≤ f.sz ∧ f.sz ≤ 9223372036854775807
  name : ∀ f ∈ l, f.nm.length ≤ 9223372036854775807
  many : ∀ f ∈ l, f.cs.length ≤ 9223372036854775807
  each : ∀ f ∈ l, ∀ k ∈ f.cs, -9223372036854775808 ≤ k ∧ k ≤ 9223372036854775807
  few : l.length ≤ 9223372036854775807
theorem FlsAt.keep {w w' : World} {L : Blocks} {v : Value} {l : List Fl} {vc : Nat → Value} (h : FlsAt w v l vc) (hs : St w L w') (hL : ∀ k ∈ keys L, w.heap.size ≤ k) : FlsAt w' v l vc :=
  ⟨h.shape, fun j hj q u hu => by
    have h1 := h.cell j hj q u hu
    have hlt : adB v < w.heap.size := by
      rcases Nat.lt_or_ge (adB v) w.heap.size with h' | h'
      · exact h'
      · simp [World.cell?, Array.getElem?_eq_none h'] at h1
    rw [← h1]
    exact World.cell?_of_block (a := ⟨adB v, adO v + j * 3 + q, none⟩) (hs.fr (adB v) hlt (fun hk => by have := hL _ hk; omega)), fun j hj => (h.cells j hj).keep hs hL, h.room⟩
theorem FlsAt.keep0 {w w' : World} {v : Value} {l : List Fl} {vc : Nat → Value} (h : FlsAt w v l vc) (hs : St w [] w') : FlsAt w' v l vc := h.keep hs (fun _ hk => by cases hk)
theorem FlsAt.lt {w : World} {v : Value} {l : List Fl} {vc : Nat → Value} (h : FlsAt w v l vc) (h0 : 0 < l.length) : adB v < w.heap.size := by
  have h1 := h.cell 0 h0 0 _ rfl
  rcases Nat.lt_or_ge (adB v) w.heap.size with h' | h'
  · exact h'
  · simp [World.cell?, Array.getElem?_eq_none h'] at h1
end Go.Proofs.YtkolfgmpmnelmabGreatDoor.Ent
