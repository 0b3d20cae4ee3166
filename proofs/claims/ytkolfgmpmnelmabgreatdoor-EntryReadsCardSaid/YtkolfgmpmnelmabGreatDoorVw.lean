/-
  A small frame: slices of structs that come in, and an image, opened as a walk wants them.
-/
import Derived.Deep.Slices
import Derived.Deep.Fields
import Derived.Test.YtkolfgmpmnelmabGreatDoorZC
namespace Go.Proofs.YtkolfgmpmnelmabGreatDoor
open Go Vx Go.Proofs Go.ChangeShapes Go.WideShapes Go.Deep
set_option linter.unusedVariables false

section
variable {H : Type} {enc : TypeId × Value → H} {P : Program} {W : World}
theorem slice_of_trod {t e : TypeId} {n : Nat} {u : Value} {y : DataW H × List MemPlace} (ht : P.underlying t = some (.slice e)) (h : DataW.trod enc P W 0 (fun _ => true) true n t [u] = some y) : (∃ a len cap, u = .slice a len cap) ∧ DataW.Trod enc P W 0 (fun _ => true) true t u y.1 y.2 := by
  have hu : ∃ a len cap, u = .slice a len cap := by
    rcases open_slice ht h with ⟨hcs, _⟩ | ⟨a, len, cap, _, _, _, _, hcs, _⟩
    · exact ⟨none, 0, 0, by simpa using hcs⟩
    · exact ⟨some a, len, cap, by simpa using hcs⟩
  obtain ⟨a, len, cap, rfl⟩ := hu
  exact ⟨⟨a, len, cap, rfl⟩, n, h⟩
/-- A slice of structs, each field of which is one cell: each field of each element, read where it lies. -/
theorem sl_structs {t e : TypeId} {fs : Array Field} {v : Value} {d : DataW H} {ps : List MemPlace} (ht : P.underlying t = some (.slice e)) (he : P.underlying e = some (.struct fs)) (hone : oneCellFields P fs = true) (hC : P.cellsOf e = fs.size) (h0 : 0 < fs.size)
    (hok : ∃ a len cap, v = .slice a len cap) (h : DataW.Trod enc P W 0 (fun _ => true) true t v d ps) :
    ∃ len cap a, v = .slice a len cap ∧ (0 < len → a = some ⟨adB v, adO v, none⟩) ∧ len ≤ cap ∧ cap ≤ 9223372036854775807 ∧
      ∀ j, j < len → ∃ u : Nat → Value, ∀ (q : Nat) (f : Field), fs[q]? = some f → W.cell? ⟨adB v, adO v + j * fs.size + q, none⟩ = some (u q) ∧ ∃ n y, DataW.trod enc P W 0 (fun _ => true) true n f.type [u q] = some y := by
  obtain ⟨a, len, cap, rfl⟩ := hok
  obtain ⟨fuel, hf⟩ := h
  rcases open_slice ht hf with ⟨hcs, _⟩ | ⟨a', len', cap', m, n, D, Pl, hcs, hb, hl, hm, hmm, hx, hi⟩
  · simp [Value.cells] at hcs
    obtain ⟨rfl, rfl, rfl⟩ := hcs
    exact ⟨0, 0, none, rfl, fun h => absurd h (Nat.lt_irrefl _), Nat.le_refl _, by decide, fun j hj => absurd hj (Nat.not_lt_zero _)⟩
  · simp [Value.cells] at hcs
    obtain ⟨rfl, rfl, rfl⟩ := hcs
    have each : ∀ j, j < len → ∃ u : Nat → Value, ∀ (q : Nat) (f : Field), fs[q]? = some f → W.cell? (a'.add (j * fs.size + q)) = some (u q) ∧ ∃ n y, DataW.trod enc P W 0 (fun _ => true) true n f.type [u q] = some y := fun j hj => by
      obtain ⟨cs, hc, htr⟩ := hi j (by simp only [if_true] at hmm; omega)
      rw [hC] at hc
      obtain ⟨_, hcl, hat⟩ := World.cells?_some hc
      obtain ⟨xs, k, _, _, _, hxl, hfl⟩ := DataW.trod_struct he htr
      refine ⟨fun q => cs.getD q .nilIface, fun q f hq => ?_⟩
      obtain ⟨ho, hk⟩ := hone_of hone q f hq
      have hqs : q < fs.size := (Array.getElem?_eq_some_iff.1 hq).1
      have e1 : cs[q]? = some (cs.getD q .nilIface) := by rw [List.getD_eq_getElem?_getD, List.getElem?_eq_getElem (by omega)]; rfl
      have e2 : (cs.drop q).take 1 = [cs.getD q .nilIface] := by
        rw [List.getD_eq_getElem?_getD, List.getElem?_eq_getElem (by omega), List.drop_eq_getElem_cons (by omega)]; rfl
      have e3 := hfl q f hq
      rw [ho, hk, e2] at e3
      refine ⟨?_, k, xs[q]'(by omega), e3.trans (List.getElem?_eq_getElem (by omega))⟩
      rw [← Go.Deep.add_add]
      exact (hat q hqs).trans e1
    have spot : 0 < len → a' = ⟨a'.block, a'.off, none⟩ := fun h => by
      obtain ⟨u, hu⟩ := each 0 h
      have h1 := (hu 0 fs[0] (Array.getElem?_eq_getElem h0)).1
      rw [Nat.zero_mul, Nat.zero_add] at h1
      exact spot_none_add h1
    refine ⟨len, cap, some a', rfl, fun h => congrArg some (spot h), hl, Nat.le_trans hm maxLen_le, fun j hj => ?_⟩
    obtain ⟨u, hu⟩ := each j hj
    refine ⟨u, fun q f hq => ⟨?_, (hu q f hq).2⟩⟩
    have h1 := (hu q f hq).1
    have h3 : a'.add (j * fs.size + q) = ⟨a'.block, a'.off + j * fs.size + q, none⟩ := by
      rw [spot (by omega), add_lit, Nat.add_assoc]
    rw [h3] at h1
    exact h1
end
end Go.Proofs.YtkolfgmpmnelmabGreatDoor
