/-
  Plain words: the reference's device, by value and in memory: the same Dv as ours.
-/
import Derived.Test.YtkolfgmpmnelmabDoorZM
namespace Go.Proofs.YtkolfgmpmnelmabDoor
open Go Vx Go.Proofs
set_option linter.unusedVariables false
set_option maxRecDepth 4000
set_option maxHeartbeats 400000

def rcells (vz : Nat → Value) (sure : Nat → Nat) (slot : Nat → List UInt8) (vA vW : Value) (fuse : Int) : List Value :=
  [vz 0, vz 1, vz 2, vz 3, vz 4, vz 5, vz 6, vz 7, iv (sure 0), iv (sure 1), iv (sure 2), iv (sure 3), iv (sure 4), iv (sure 5), iv (sure 6), iv (sure 7), str (slot 0), str (slot 1), vA, vW, iv fuse]
section
variable (vz : Nat → Value) (sure : Nat → Nat) (slot : Nat → List UInt8) (vA vW : Value) (fuse : Int)
theorem rc_z {i : Int} (h0 : 0 ≤ i) (h1 : i < 8) : (⟨rcells vz sure slot vA vW fuse⟩ : Array Value)[0 + 0 + i.toNat * 1]? = some (vz i.toNat) := by
  rcases lt8 h0 h1 with rfl | rfl | rfl | rfl | rfl | rfl | rfl | rfl <;> rfl
theorem rc_s {i : Int} (h0 : 0 ≤ i) (h1 : i < 8) : (⟨rcells vz sure slot vA vW fuse⟩ : Array Value)[0 + 8 + i.toNat * 1]? = some (iv (sure i.toNat)) := by
  rcases lt8 h0 h1 with rfl | rfl | rfl | rfl | rfl | rfl | rfl | rfl <;> rfl
theorem rc_l {i : Int} (h0 : 0 ≤ i) (h1 : i < 2) : (⟨rcells vz sure slot vA vW fuse⟩ : Array Value)[0 + 16 + i.toNat * 1]? = some (str (slot i.toNat)) := by
  have h : i = 0 ∨ i = 1 := by omega
  rcases h with rfl | rfl <;> rfl
theorem rc_setz {i : Int} (h0 : 0 ≤ i) (h1 : i < 8) (v : Value) : (⟨rcells vz sure slot vA vW fuse⟩ : Array Value).setIfInBounds (0 + 0 + i.toNat * 1) v = ⟨rcells (updF vz i.toNat v) sure slot vA vW fuse⟩ := by
  rcases lt8 h0 h1 with rfl | rfl | rfl | rfl | rfl | rfl | rfl | rfl <;> rfl
theorem rc_sets {i : Int} (h0 : 0 ≤ i) (h1 : i < 8) (k : Nat) : (⟨rcells vz sure slot vA vW fuse⟩ : Array Value).setIfInBounds (0 + 8 + i.toNat * 1) (iv (k : Int)) = ⟨rcells vz (updF sure i.toNat k) slot vA vW fuse⟩ := by
  rcases lt8 h0 h1 with rfl | rfl | rfl | rfl | rfl | rfl | rfl | rfl <;> rfl
theorem rc_setl {i : Int} (h0 : 0 ≤ i) (h1 : i < 2) (s : List UInt8) : (⟨rcells vz sure slot vA vW fuse⟩ : Array Value).setIfInBounds (0 + 16 + i.toNat * 1) (str s) = ⟨rcells vz sure (updF slot i.toNat s) vA vW fuse⟩ := by
  have h : i = 0 ∨ i = 1 := by omega
  rcases h with rfl | rfl <;> rfl
end
theorem rc_zv {vz : Nat → Value} {sure : Nat → Nat} {slot : Nat → List UInt8} {vA vW : Value} {fuse : Int} {i : Int} (h0 : 0 ≤ i) (h1 : i < 8) {v : Value} (hv : vz i.toNat = v) : (⟨rcells vz sure slot vA vW fuse⟩ : Array Value)[0 + 0 + i.toNat * 1]? = some v := hv ▸ rc_z vz sure slot vA vW fuse h0 h1
theorem rc_sv {vz : Nat → Value} {sure : Nat → Nat} {slot : Nat → List UInt8} {vA vW : Value} {fuse : Int} {i : Int} (h0 : 0 ≤ i) (h1 : i < 8) {k : Nat} (hv : sure i.toNat = k) : (⟨rcells vz sure slot vA vW fuse⟩ : Array Value)[0 + 8 + i.toNat * 1]? = some (iv (k : Int)) := hv ▸ rc_s vz sure slot vA vW fuse h0 h1
def atL (l : List (Nat × List UInt8)) : List Value := l.map fun p => iv (p.1 : Int)
def whatL (l : List (Nat × List UInt8)) : List Value := l.map fun p => str p.2
theorem atL_at {l : List (Nat × List UInt8)} {i : Nat} (h : i < l.length) : (atL l)[i]? = some (iv ((l.getD i (0, [])).1 : Int)) := by
  rw [atL, List.getElem?_map, List.getD_eq_getElem?_getD, List.getElem?_eq_getElem h]; rfl
theorem whatL_at {l : List (Nat × List UInt8)} {i : Nat} (h : i < l.length) : (whatL l)[i]? = some (str (l.getD i (0, [])).2) := by
  rw [whatL, List.getElem?_map, List.getD_eq_getElem?_getD, List.getElem?_eq_getElem h]; rfl
/-- The reference's device lies at b, among the blocks K that the caller knows; its rows lie in wA, wW and rows. -/
structure RSt (W0 : World) (K : Blocks) (b : Nat) (D : Dv) (w : World) (vz : Nat → Value) (vA vW : Value) (wA wW rows : Blocks) : Prop where
  st : St W0 (K ++ ((b, .cells ⟨rcells vz D.sure D.slot vA vW D.fuse⟩ 135 (0, 0)) :: (wA ++ (wW ++ rows)))) w
  rz : ∀ j, j < 8 → RowIn rows (vz j) (D.z j)
  rA : Row W0.heap.size 3 1 vA D.wait.length (atL D.wait) wA
  rW : Row W0.heap.size 9 1 vW D.wait.length (whatL D.wait) wW
  newb : W0.heap.size ≤ b
  newr : ∀ x ∈ rows, W0.heap.size ≤ x.1
section
variable {W0 : World} {K : Blocks} {b : Nat} {D : Dv} {w : World} {vz : Nat → Value} {vA vW : Value} {wA wW rows : Blocks}
theorem RSt.has (h : RSt W0 K b D w vz vA vW wA wW rows) : w.heap[b]? = some (.cells ⟨rcells vz D.sure D.slot vA vW D.fuse⟩ 135 (0, 0)) :=
  h.st.has _ (List.mem_append_right _ List.mem_cons_self)
theorem RSt.sl (h : RSt W0 K b D w vz vA vW wA wW rows) {j : Nat} (hj : j < 8) : Sl w (vz j) (D.z j).length (zstrs (D.z j)) :=
  (h.rz j hj).sl h.st (fun x hx => List.mem_append_right _ (List.mem_cons_of_mem _ (List.mem_append_right _ (List.mem_append_right _ hx))))
theorem RSt.drewn (h : RSt W0 K b D w vz vA vW wA wW rows) {K' : Blocks} {w' : World} (st : St W0 (K' ++ ((b, .cells ⟨rcells vz D.sure D.slot vA vW D.fuse⟩ 135 (0, 0)) :: (wA ++ (wW ++ rows)))) w') : RSt W0 K' b D w' vz vA vW wA wW rows :=
  ⟨st, h.rz, h.rA, h.rW, h.newb, h.newr⟩
theorem RSt.fresh (h : RSt W0 K b D w vz vA vW wA wW rows) {c : Array Value} {T : TypeId} {fz : Nat × Nat} : ∀ x ∈ ((b, Obj.cells c T fz) :: (wA ++ (wW ++ rows))), W0.heap.size ≤ x.1 := fun x hx => by
  rcases List.mem_cons.1 hx with rfl | hx
  · exact h.newb
  · rcases List.mem_append.1 hx with hx | hx
    · exact h.rA.new x hx
    · rcases List.mem_append.1 hx with hx | hx
      · exact h.rW.new x hx
      · exact h.newr x hx
end
end Go.Proofs.YtkolfgmpmnelmabDoor
