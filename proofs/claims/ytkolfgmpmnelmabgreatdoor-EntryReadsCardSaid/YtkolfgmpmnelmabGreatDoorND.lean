/-
  Plain words: files that come in; what a row's list says.
-/
import Derived.Test.YtkolfgmpmnelmabGreatDoorU7
import Derived.Test.YtkolfgmpmnelmabGreatDoorVw
import Derived.Test.YtkolfgmpmnelmabGreatDoorRows
import Derived.Stop.LaidErr
namespace Go.Proofs.YtkolfgmpmnelmabGreatDoor.Ent
open Go Vx Go.Proofs Go.ChangeShapes Go.WideShapes Go.Deep
set_option linter.unusedVariables false
set_option maxRecDepth 8000
section
variable {H : Type} {enc : TypeId × Value → H} {W : World}
structure OneFl (W : World) (b off : Nat) (f : Fl) (vi : Value) : Prop where
  cell : ∀ q u, (flCells f vi)[q]? = some u → W.cell? ⟨b, off + q, none⟩ = some u
  cells : Sl W vi f.cs.length (fun k => iv (f.cs.getD k 0))
theorem fls_of {v : Value} {d : DataW H} {ps : List MemPlace} (hok : ∃ a len cap, v = .slice a len cap) (h : DataW.Trod enc Tryz.prog W 0 (fun _ => true) true 22 v d ps) : ∃ l vc, FlsAt W v l vc ∧ l.length ≤ 9223372036854775807 := by
  obtain ⟨len, cap, a, hv, ha, hl, hm, hj⟩ := sl_structs (P := Tryz.prog) Tryz.underlying22 Tryz.underlying44 (by kernel_rfl) (by kernel_rfl) (by decide) hok h
  have each : ∀ j, ∃ x : Fl × Value, j < len → OneFl W (adB v) (adO v + j * 3) x.1 x.2 := fun j => by
    by_cases hlt : j < len
    · obtain ⟨u, hu⟩ := hj j hlt
      obtain ⟨c0, n0, y0, t0⟩ := hu 0 _ rfl
      obtain ⟨c1, n1, y1, t1⟩ := hu 1 _ rfl
      obtain ⟨c2, n2, y2, t2⟩ := hu 2 _ rfl
      obtain ⟨s0, e0, _, w0⟩ := DataW.trod_string Tryz.underlying9 t0
      obtain ⟨i1, e1, _, w1⟩ := DataW.trod_int Tryz.underlying3 t1
      obtain ⟨k2, r2⟩ := slice_of_trod Tryz.underlying35 t2
      obtain ⟨l2, sl2, _, _⟩ := sl_ints Tryz.underlying35 Tryz.underlying3 (by kernel_rfl) k2 r2
      have q0 : u 0 = str s0.data.toList := by
        have : u 0 = .string s0 := by simpa using e0
        rw [this]
      have q1 : u 1 = iv i1 := by simpa using e1
      rw [q0] at c0; rw [q1] at c1
      refine ⟨(⟨s0.data.toList, i1, l2⟩, u 2), fun _ => ⟨fun q x hx => ?_, sl2⟩⟩
      have hq : q < 3 := (List.getElem?_eq_some_iff.1 hx).1
      have h5 : q = 0 ∨ q = 1 ∨ q = 2 := by omega
      rcases h5 with rfl | rfl | rfl
      · cases hx; exact c0
      · cases hx; exact c1
      · cases hx; exact c2
    · exact ⟨(default, .nilIface), fun h => absurd h hlt⟩
  obtain ⟨f, hf⟩ := Classical.axiomOfChoice each
  have hlen : ((List.range len).map fun j => (f j).1).length = len := by simp
  have hget : ∀ j, j < len → ((List.range len).map fun j => (f j).1).getD j default = (f j).1 := fun j hjl => by
    rw [List.getD_eq_getElem?_getD, List.getElem?_map, List.getElem?_range hjl]; rfl
  refine ⟨(List.range len).map fun j => (f j).1, fun j => (f j).2, ⟨⟨a, cap, by rw [hlen]; exact hv, by rw [hlen]; exact ha⟩, fun j hjl => ?_, fun j hjl => ?_, ⟨a, cap, by rw [hlen]; exact hv, by rw [hlen]; exact hl⟩⟩, by rw [hlen]; omega⟩
  all_goals rw [hlen] at hjl
  all_goals rw [hget j hjl]
  · exact (hf j hjl).cell
  · exact (hf j hjl).cells
end
/-! ### The row's list -/
theorem gPow : Tryz.prog.globalNamed "internal/strconv.uint64pow10" = some 4 := by kernel_rfl
theorem gPowT : (Tryz.prog.globals[4]?).map (·.type) = some 137 := by kernel_rfl
theorem gSyn : Tryz.prog.globalNamed "strconv.ErrSyntax" = some 2 := by kernel_rfl
theorem gSynT : (Tryz.prog.globals[2]?).map (·.type) = some 28 := by kernel_rfl
theorem gRng : Tryz.prog.globalNamed "strconv.ErrRange" = some 3 := by kernel_rfl
theorem gRngT : (Tryz.prog.globals[3]?).map (·.type) = some 28 := by kernel_rfl
theorem starE : "*" ++ "errors.errorString" = "*errors.errorString" := by decide
theorem rowE (u : TypeId) (h : Tryz.prog.typeName? 3 u = some "*errors.errorString") : u = 160 :=
  typeName_ptr_named (nm := "errors.errorString") (by rw [starE]; kernel_rfl) (by kernel_rfl) (by decide) u (by rw [starE]; exact h)
theorem ent_of_list {W : World} {x1 x2 x3 : String × DataW Unit} {rest : List (String × DataW Unit)} (h : laidMet Tryz.prog (x1 :: x2 :: ("internal/strconv.uint64pow10", Rows.laid_internal_strconv_uint64pow10) :: x3 :: ("strconv.ErrRange", Rows.laid_strconv_ErrRange) :: ("strconv.ErrSyntax", Rows.laid_strconv_ErrSyntax) :: rest) W) : EntAt W := by
  have h3 := h.tail.tail
  obtain ⟨a1, s1, hv1, _⟩ := laid_sentinel h3.tail.tail gRng gRngT Tryz.underlying28 rowE Tryz.underlying160 Tryz.underlying162 rfl rfl Tryz.underlying9 (by kernel_rfl) (by kernel_rfl)
  obtain ⟨a2, s2, hv2, _⟩ := laid_sentinel h3.tail.tail.tail gSyn gSynT Tryz.underlying28 rowE Tryz.underlying160 Tryz.underlying162 rfl rfl Tryz.underlying9 (by kernel_rfl) (by kernel_rfl)
  exact ⟨Lib.tabIs_of_head gPow gPowT Tryz.underlying137 Tryz.underlying107 (by kernel_rfl) (by kernel_rfl) h3, ⟨_, _, hv2⟩, ⟨_, _, hv1⟩⟩
/-! ### A world that has it -/
def litV : DataW Unit → Value | .lit (.int k n) => .int k n | _ => .nilIface
def flat1 : DataW Unit → List Value | .agg l => l.map litV | _ => []
def flat2 : DataW Unit → List Value | .agg l => l.flatMap flat1 | _ => []
noncomputable def lowB (P : Program) : Nat := (World.holding P default ⟨#[], #[], []⟩).heap.size
end Go.Proofs.YtkolfgmpmnelmabGreatDoor.Ent
