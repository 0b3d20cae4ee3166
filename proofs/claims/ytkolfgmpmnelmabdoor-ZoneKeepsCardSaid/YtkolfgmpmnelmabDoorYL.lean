/-
  Plain words: deeds and an image that come in.
-/
import Derived.Test.YtkolfgmpmnelmabDoorYK
import Derived.Test.YtkolfgmpmnelmabDoorVw
namespace Go.Proofs.YtkolfgmpmnelmabDoor
open Go Vx Go.Proofs Go.ChangeShapes Go.WideShapes Go.Deep
set_option linter.unusedVariables false
set_option maxRecDepth 8000

section
variable {H : Type} {enc : TypeId × Value → H} {W : World}
structure OneOp (W : World) (b off : Nat) (o : OpV) (vk vl : Value) : Prop where
  cell : ∀ q u, (opCells o vk vl)[q]? = some u → W.cell? ⟨b, off + q, none⟩ = some u
  keeps : Sl W vk o.keeps.length (fun k => iv (o.keeps.getD k 0))
  slots : Sl W vl o.slots.length (fun k => .bool (o.slots.getD k false))
  top : o.at_ ≤ 9223372036854775807
theorem ops_of {v : Value} {d : DataW H} {ps : List MemPlace} (hok : ∃ a len cap, v = .slice a len cap) (h : DataW.Trod enc Tryd.prog W 0 (fun _ => true) true 56 v d ps) : ∃ l vk vl, OpsAt W v l vk vl := by
  obtain ⟨len, cap, a, hv, ha, hl, hm, hj⟩ := sl_structs (P := Tryd.prog) Tryd.underlying56 Tryd.underlying65 (by kernel_rfl) (by kernel_rfl) (by decide) hok h
  have each : ∀ j, ∃ x : OpV × Value × Value, j < len → OneOp W (adB v) (adO v + j * 5) x.1 x.2.1 x.2.2 := fun j => by
    by_cases hlt : j < len
    · obtain ⟨u, hu⟩ := hj j hlt
      obtain ⟨c0, n0, y0, t0⟩ := hu 0 _ rfl
      obtain ⟨c1, n1, y1, t1⟩ := hu 1 _ rfl
      obtain ⟨c2, n2, y2, t2⟩ := hu 2 _ rfl
      obtain ⟨c3, n3, y3, t3⟩ := hu 3 _ rfl
      obtain ⟨c4, n4, y4, t4⟩ := hu 4 _ rfl
      obtain ⟨i0, e0, _, w0⟩ := DataW.trod_int Tryd.underlying3 t0
      obtain ⟨i1, e1, _, w1⟩ := DataW.trod_int Tryd.underlying3 t1
      obtain ⟨s2, e2, _, w2⟩ := DataW.trod_string Tryd.underlying9 t2
      obtain ⟨k3, r3⟩ := slice_of_trod Tryd.underlying23 t3
      obtain ⟨k4, r4⟩ := slice_of_trod Tryd.underlying63 t4
      obtain ⟨l3, sl3, _, _⟩ := sl_ints Tryd.underlying23 Tryd.underlying3 (by kernel_rfl) k3 r3
      obtain ⟨l4, sl4, _⟩ := sl_bools Tryd.underlying63 Tryd.underlying4 (by kernel_rfl) k4 r4
      have q0 : u 0 = iv i0 := by simpa using e0
      have q1 : u 1 = iv i1 := by simpa using e1
      have q2 : u 2 = str s2.data.toList := by
        have : u 2 = .string s2 := by simpa using e2
        rw [this]
      rw [q0] at c0; rw [q1] at c1; rw [q2] at c2
      refine ⟨(⟨i0, i1, s2.data.toList, l3, l4⟩, u 3, u 4), fun _ => ⟨fun q x hx => ?_, sl3, sl4, ?_⟩⟩
      · have hq : q < 5 := (List.getElem?_eq_some_iff.1 hx).1
        have h5 : q = 0 ∨ q = 1 ∨ q = 2 ∨ q = 3 ∨ q = 4 := by omega
        rcases h5 with rfl | rfl | rfl | rfl | rfl
        · cases hx; exact c0
        · cases hx; exact c1
        · cases hx; exact c2
        · cases hx; exact c3
        · cases hx; exact c4
      · have h6 := w1
        simp [Lit.wf, IntKind.has, IntKind.min, IntKind.max] at h6
        have h7 := of_decide_eq_true h6.2
        exact Int.le_trans h7 (by decide)
    · exact ⟨(default, .nilIface, .nilIface), fun h => absurd h hlt⟩
  obtain ⟨f, hf⟩ := Classical.axiomOfChoice each
  have hlen : ((List.range len).map fun j => (f j).1).length = len := by simp
  have hget : ∀ j, j < len → ((List.range len).map fun j => (f j).1).getD j default = (f j).1 := fun j hjl => by
    rw [List.getD_eq_getElem?_getD, List.getElem?_map, List.getElem?_range hjl]; rfl
  refine ⟨(List.range len).map fun j => (f j).1, fun j => (f j).2.1, fun j => (f j).2.2, ⟨a, cap, by rw [hlen]; exact hv, by rw [hlen]; exact ha⟩, fun j hjl => ?_, fun j hjl => ?_, fun j hjl => ?_, fun j hjl => ?_⟩
  all_goals rw [hlen] at hjl
  all_goals rw [hget j hjl]
  · exact (hf j hjl).cell
  · exact (hf j hjl).keeps
  · exact (hf j hjl).slots
  · exact (hf j hjl).top
theorem slW_of {t : TypeId} {n : Nat} {u : Value} {y : DataW H × List MemPlace} (ht : Tryd.prog.underlying t = some (.slice 9)) (h : DataW.trod enc Tryd.prog W 0 (fun _ => true) true n t [u] = some y) : ∃ l, SlW W u l := by
  obtain ⟨⟨a, len, cap, rfl⟩, r⟩ := slice_of_trod ht h
  obtain ⟨l, sl, _⟩ := sl_strings ht Tryd.underlying9 (by kernel_rfl) ⟨a, len, cap, rfl⟩ r
  obtain ⟨a1, cap1, e1, _⟩ := sl.shape
  cases e1
  refine ⟨l, sl, a, cap, rfl, ?_⟩
  rcases open_strings ht Tryd.underlying9 (by kernel_rfl) h with ⟨hcs, _⟩ | ⟨a', len', cap', ss, hcs, _, hle, hm, hz, _, hcell, _⟩
  · simp at hcs
    obtain ⟨rfl, h2, rfl⟩ := hcs
    exact ⟨by simp [h2], .inl rfl⟩
  · simp at hcs
    obtain ⟨rfl, h2, rfl⟩ := hcs
    simp only [if_true] at hz
    refine ⟨by omega, ?_⟩
    by_cases hc : cap = 0
    · exact .inr (.inr hc)
    · exact .inr (.inl ⟨a'.block, a'.off, congrArg some (spot_none_add (hcell 0 (by omega)))⟩)
theorem image_of {base : Nat} {r : Reach} {v : Value} {d : DataW H} {ps : List MemPlace} (hok : Value.okWide Tryd.prog W r base 59 v) (h : DataW.Trod enc Tryd.prog W 0 (fun _ => true) true 59 v d ps) :
    ∃ (vs : Nat → Value) (zi : Nat → List (List UInt8)) (si : Nat → List UInt8), v = .agg ⟨icells vs si⟩ ∧ (∀ j, j < 8 → SlW W (vs j) (zi j)) ∧ ∀ j, 2 ≤ j → si j = [] := by
  obtain ⟨⟨cs⟩, rfl, hsz⟩ := okWide_struct Tryd.underlying59 hok
  have hC : Tryd.prog.cellsOf 59 = 10 := by kernel_rfl
  have hC2 : Tryd.prog.cellsOf 29 = 8 := by kernel_rfl
  have hC3 : Tryd.prog.cellsOf 22 = 1 := by kernel_rfl
  have hC4 : Tryd.prog.cellsOf 57 = 2 := by kernel_rfl
  have hC5 : Tryd.prog.cellsOf 9 = 1 := by kernel_rfl
  obtain ⟨fuel, hf⟩ := h
  have hl10 : cs.length = 10 := by rw [hC] at hsz; simpa using hsz
  match cs, hl10, hf with
  | [c0, c1, c2, c3, c4, c5, c6, c7, d0, d1], _, hf =>
    obtain ⟨xs, n, _, _, hcl, hxl, hfl⟩ := DataW.trod_struct Tryd.underlying59 hf
    have hx2 : xs.length = 2 := by rw [hxl]; rfl
    have f0 : DataW.trod enc Tryd.prog W 0 (fun _ => true) true n 29 ([c0, c1, c2, c3, c4, c5, c6, c7, d0, d1].take (Tryd.prog.cellsOf 29)) = xs[0]? := hfl 0 _ rfl
    have f1 : DataW.trod enc Tryd.prog W 0 (fun _ => true) true n 57 ([d0, d1].take (Tryd.prog.cellsOf 57)) = xs[1]? := hfl 1 _ rfl
    rw [hC2] at f0
    rw [hC4] at f1
    have g0 : xs[0]? = some (xs[0]'(by omega)) := List.getElem?_eq_getElem (by omega)
    have g1 : xs[1]? = some (xs[1]'(by omega)) := List.getElem?_eq_getElem (by omega)
    obtain ⟨z0, m0, _, _, _, zl0, zf0⟩ := DataW.trod_array Tryd.underlying29 (f0.trans g0)
    obtain ⟨z1, m1, _, _, _, zl1, zf1⟩ := DataW.trod_array Tryd.underlying57 (f1.trans g1)
    rw [hC3] at zf0
    rw [hC5] at zf1
    have hz : ∀ j, ∃ l, j < 8 → SlW W ([c0, c1, c2, c3, c4, c5, c6, c7].getD j .nilIface) l := fun j => by
      by_cases hj : j < 8
      · have h1 := zf0 j hj
        have h2 : z0[j]? = some (z0[j]'(by omega)) := List.getElem?_eq_getElem (by omega)
        have h3 := h1.trans h2
        have h8 : j = 0 ∨ j = 1 ∨ j = 2 ∨ j = 3 ∨ j = 4 ∨ j = 5 ∨ j = 6 ∨ j = 7 := by omega
        rcases h8 with rfl | rfl | rfl | rfl | rfl | rfl | rfl | rfl <;>
          (obtain ⟨l, hl⟩ := slW_of Tryd.underlying22 h3; exact ⟨l, fun _ => hl⟩)
      · exact ⟨[], fun h => absurd h hj⟩
    obtain ⟨zi, hzi⟩ := Classical.axiomOfChoice hz
    have k0 := (zf1 0 (by decide)).trans (List.getElem?_eq_getElem (show 0 < z1.length by omega))
    have k1 := (zf1 1 (by decide)).trans (List.getElem?_eq_getElem (show 1 < z1.length by omega))
    obtain ⟨s0, e0, _, _⟩ := DataW.trod_string Tryd.underlying9 k0
    obtain ⟨s1, e1, _, _⟩ := DataW.trod_string Tryd.underlying9 k1
    have q0 : d0 = .string s0 := by simpa using e0
    have q1 : d1 = .string s1 := by simpa using e1
    subst q0; subst q1
    exact ⟨fun j => [c0, c1, c2, c3, c4, c5, c6, c7].getD j .nilIface, zi, fun j => [s0.data.toList, s1.data.toList].getD j [], rfl, hzi, fun j hj => by
      match j, hj with
      | j + 2, _ => rfl⟩
end
end Go.Proofs.YtkolfgmpmnelmabDoor
