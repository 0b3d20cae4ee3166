/-
  A small frame: slices that come in, opened as a walk wants them.
-/
import Derived.Test.YtkolfgmpmnelmabGreatDoorVi
import Derived.SliceStrings
import Derived.ChangeSlices
import Derived.WideShapes
import Derived.OpenShut
namespace Go.Proofs.YtkolfgmpmnelmabGreatDoor.Vx
open Go Go.ChangeShapes Go.WideShapes

theorem maxLen_le : maxLen ≤ 9223372036854775807 := by unfold maxLen; omega
theorem spot_none {w : World} {a : Addr} {u : Value} (h : w.cell? a = some u) : a = ⟨a.block, a.off, none⟩ := by
  obtain ⟨b, o, s⟩ := a
  have : s = none := by simpa using World.cell?_spot h
  subst this; rfl
theorem spot_none_add {w : World} {a : Addr} {u : Value} (h : w.cell? (a.add 0) = some u) : a = ⟨a.block, a.off, none⟩ := by
  obtain ⟨b, o, s⟩ := a
  have : s = none := by simpa [Addr.add] using World.cell?_spot h
  subst this; rfl
theorem sl_strings {H : Type} {enc : TypeId × Value → H} {P : Program} {W : World} {v : Value} {t e : TypeId} {d : DataW H} {ps : List MemPlace} (ht : P.underlying t = some (.slice e)) (he : P.underlying e = some .string) (hc : P.cellsOf e = 1)
    (hok : ∃ a len cap, v = .slice a len cap) (h : DataW.Trod enc P W 0 (fun _ => true) true t v d ps) : ∃ l : List (List UInt8), Sl W v l.length (fun j => str (l.getD j [])) ∧ l.length ≤ 9223372036854775807 := by
  obtain ⟨a, len, cap, rfl⟩ := hok
  obtain ⟨f, hf⟩ := h
  rcases open_strings ht he hc hf with ⟨hcs, hx⟩ | ⟨a', len', cap', ss, hcs, _, hl, hm, hz, hx, hcell, _⟩
  · simp [Value.cells] at hcs
    obtain ⟨rfl, rfl, rfl⟩ := hcs
    exact ⟨[], Sl.nil _ _ _ _, by decide⟩
  · simp [Value.cells] at hcs
    obtain ⟨rfl, rfl, rfl⟩ := hcs
    simp only [if_true] at hz
    have hlen : ((ss.take len).map (·.data.toList)).length = len := by simp; omega
    refine ⟨(ss.take len).map (·.data.toList), ?_, by rw [hlen]; exact Nat.le_trans (Nat.le_trans hl hm) maxLen_le⟩
    rw [hlen]
    refine ⟨⟨some a', cap, rfl, fun h0 => ?_⟩, fun j hj => ?_⟩
    · have := spot_none_add (hcell 0 (by omega))
      exact congrArg some this
    · have h1 := hcell j (by omega)
      have h2 := spot_none_add (hcell 0 (by omega))
      have h3 : a'.add j = ⟨adB (.slice (some a') len cap), adO (.slice (some a') len cap) + j, none⟩ := by
        rw [h2]; exact add_lit _ _ _
      rw [h3] at h1
      rw [h1]
      have h4 : ((ss.take len).map (·.data.toList)).getD j [] = (ss.getD j ByteArray.empty).data.toList := by
        have hj2 : j < ss.length := by omega
        simp [List.getD_eq_getElem?_getD, List.getElem?_take_of_lt hj, hj2]
      rw [h4]
theorem sl_ints {H : Type} {enc : TypeId × Value → H} {P : Program} {W : World} {v : Value} {t e : TypeId} {k : IntKind} {d : DataW H} {ps : List MemPlace} (ht : P.underlying t = some (.slice e)) (he : P.underlying e = some (.int k)) (hc : P.cellsOf e = 1)
    (hok : ∃ a len cap, v = .slice a len cap) (h : DataW.Trod enc P W 0 (fun _ => true) true t v d ps) : ∃ l : List Int, Sl W v l.length (fun j => .int k (l.getD j 0)) ∧ l.length ≤ 9223372036854775807 ∧ ∀ n ∈ l, (Lit.int k n).wf = true := by
  obtain ⟨a, len, cap, rfl⟩ := hok
  obtain ⟨f, hf⟩ := h
  rcases open_ints ht he hc hf with ⟨hcs, hx⟩ | ⟨a', len', cap', ss, hcs, _, hl, hm, hz, hx, hcell, hwf⟩
  · simp [Value.cells] at hcs
    obtain ⟨rfl, rfl, rfl⟩ := hcs
    exact ⟨[], Sl.nil _ _ _ _, by decide, fun n hn => by cases hn⟩
  · simp [Value.cells] at hcs
    obtain ⟨rfl, rfl, rfl⟩ := hcs
    simp only [if_true] at hz
    have hlen : (ss.take len).length = len := by simp; omega
    refine ⟨ss.take len, ?_, by rw [hlen]; exact Nat.le_trans (Nat.le_trans hl hm) maxLen_le, fun n hn => hwf n (List.mem_of_mem_take hn)⟩
    rw [hlen]
    refine ⟨⟨some a', cap, rfl, fun h0 => ?_⟩, fun j hj => ?_⟩
    · have := spot_none_add (hcell 0 (by omega))
      exact congrArg some this
    · have h1 := hcell j (by omega)
      have h2 := spot_none_add (hcell 0 (by omega))
      have h3 : a'.add j = ⟨adB (.slice (some a') len cap), adO (.slice (some a') len cap) + j, none⟩ := by
        rw [h2]; exact add_lit _ _ _
      rw [h3] at h1
      rw [h1]
      have h4 : (ss.take len).getD j 0 = ss.getD j 0 := by
        rw [List.getD_eq_getElem?_getD, List.getD_eq_getElem?_getD, List.getElem?_take_of_lt hj]
      rw [h4]
end Go.Proofs.YtkolfgmpmnelmabGreatDoor.Vx
