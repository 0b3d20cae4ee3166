/-
  A slice of bools that comes in, opened as a walk wants it.
-/
import Derived.Test.YtkolfgmpmnelmabGreatDoorVl
namespace Go.Proofs.YtkolfgmpmnelmabGreatDoor
open Go Vx Go.Proofs Go.ChangeShapes Go.WideShapes
set_option linter.unusedVariables false

def boolOf {H : Type} (y : DataW H × List MemPlace) : Bool := match y.1 with | .lit (.bool b) => b | _ => false
theorem sl_bools {H : Type} {enc : TypeId × Value → H} {P : Program} {W : World} {v : Value} {t e : TypeId} {d : DataW H} {ps : List MemPlace} (ht : P.underlying t = some (.slice e)) (he : P.underlying e = some .bool) (hc : P.cellsOf e = 1)
    (hok : ∃ a len cap, v = .slice a len cap) (h : DataW.Trod enc P W 0 (fun _ => true) true t v d ps) : ∃ l : List Bool, Sl W v l.length (fun j => .bool (l.getD j false)) ∧ l.length ≤ 9223372036854775807 := by
  obtain ⟨a, len, cap, rfl⟩ := hok
  obtain ⟨f, hf⟩ := h
  rcases DataW.trod_slice ht hf with ⟨hcs, hx⟩ | ⟨a', len', cap', elems, rest, n, _, hcs, hx, hb, hl, hm, hlen, hel, hsp, hns⟩
  · simp [Value.cells] at hcs
    obtain ⟨rfl, rfl, rfl⟩ := hcs
    exact ⟨[], Sl.nil _ _ _ _, by decide⟩
  · simp [Value.cells] at hcs
    obtain ⟨rfl, rfl, rfl⟩ := hcs
    have each : ∀ j, j < len → W.cell? (a'.add j) = some (.bool ((elems.map boolOf).getD j false)) := fun j hj => by
      have h1 := hel j hj
      have hy : elems[j]? = some elems[j] := List.getElem?_eq_getElem (by omega)
      rw [hc, Nat.mul_one, hy, Option.bind_eq_some_iff] at h1
      obtain ⟨cs', hcs, hy'⟩ := h1
      obtain ⟨b, rfl, hb2⟩ := DataW.trod_bool he hy'
      have h3 := cell_of_cells?_one hcs
      rw [h3]
      have e1 : (elems.map boolOf).getD j false = b := by
        rw [List.getD_eq_getElem?_getD, List.getElem?_map, hy]
        show boolOf elems[j] = b
        rw [boolOf]; rw [hb2]
      rw [e1]
    have hlm : (elems.map boolOf).length = len := by rw [List.length_map, hlen]
    refine ⟨elems.map boolOf, ?_, by rw [hlm]; exact Nat.le_trans (Nat.le_trans hl hm) maxLen_le⟩
    rw [hlm]
    refine ⟨⟨some a', cap, rfl, fun h0 => ?_⟩, fun j hj => ?_⟩
    · exact congrArg some (spot_none_add (each 0 (by omega)))
    · have h1 := each j (by omega)
      have h2 := spot_none_add (each 0 (by omega))
      have h3 : a'.add j = ⟨adB (.slice (some a') len cap), adO (.slice (some a') len cap) + j, none⟩ := by
        rw [h2]; exact add_lit _ _ _
      rw [h3] at h1
      exact h1
end Go.Proofs.YtkolfgmpmnelmabGreatDoor
