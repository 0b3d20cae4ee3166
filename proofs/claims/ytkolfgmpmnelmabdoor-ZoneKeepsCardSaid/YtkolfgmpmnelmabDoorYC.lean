/-
  Plain words: both devices beside each other.
-/
import Derived.Test.YtkolfgmpmnelmabDoorYB
namespace Go.Proofs.YtkolfgmpmnelmabDoor
open Go Vx Go.Proofs
set_option linter.unusedVariables false
set_option maxRecDepth 4000
set_option maxHeartbeats 400000

/-- Where both devices lie, and what they hold in memory. -/
structure Mem where
  vz : Nat → Value
  vw : Value
  went : Blocks
  rows : Blocks
  uz : Nat → Value
  uA : Value
  uW : Value
  wA : Blocks
  wW : Blocks
  rowz : Blocks
@[reducible] def oursB (b : Nat) (D : Dv) (m : Mem) : Blocks := (b, .cells ⟨dcells m.vz D.sure D.slot m.vw D.fuse⟩ 104 (0, 0)) :: (m.went ++ m.rows)
@[reducible] def refsB (b : Nat) (D : Dv) (m : Mem) : Blocks := (b, .cells ⟨rcells m.uz D.sure D.slot m.uA m.uW D.fuse⟩ 135 (0, 0)) :: (m.wA ++ (m.wW ++ m.rowz))
/-- Ours holds D, the reference's E. -/
structure Both (W0 : World) (X : Blocks) (b c : Nat) (D E : Dv) (m : Mem) (w : World) : Prop where
  st : St W0 (X ++ (oursB b D m ++ refsB c E m)) w
  rz : ∀ j, j < 8 → RowIn m.rows (m.vz j) (D.z j)
  rw : Row W0.heap.size 137 2 m.vw D.wait.length (flatW D.wait) m.went
  newb : W0.heap.size ≤ b
  newr : ∀ x ∈ m.rows, W0.heap.size ≤ x.1
  sz : ∀ j, j < 8 → RowIn m.rowz (m.uz j) (E.z j)
  sA : Row W0.heap.size 3 1 m.uA E.wait.length (atL E.wait) m.wA
  sW : Row W0.heap.size 9 1 m.uW E.wait.length (whatL E.wait) m.wW
  newc : W0.heap.size ≤ c
  newz : ∀ x ∈ m.rowz, W0.heap.size ≤ x.1
section
variable {W0 : World} {X : Blocks} {b c : Nat} {D E : Dv} {m : Mem} {w w' : World}
theorem Both.drewn (h : Both W0 X b c D E m w) {X' : Blocks} (st : St W0 (X' ++ (oursB b D m ++ refsB c E m)) w') : Both W0 X' b c D E m w' := ⟨st, h.rz, h.rw, h.newb, h.newr, h.sz, h.sA, h.sW, h.newc, h.newz⟩
theorem Both.call0 (h : Both W0 X b c D E m w) (h' : St w [] w') : Both W0 X b c D E m w' := h.drewn (h.st.call0 h')
theorem Both.ours (h : Both W0 X b c D E m w) : DSt W0 (X ++ refsB c E m) b D w m.vz m.vw m.went m.rows :=
  ⟨h.st.re (fun a => by simp only [oursB, refsB, ct_append, ct_cons]; omega), h.rz, h.rw, h.newb, h.newr⟩
theorem Both.refs (h : Both W0 X b c D E m w) : RSt W0 (X ++ oursB b D m) c E w m.uz m.uA m.uW m.wA m.wW m.rowz :=
  ⟨h.st.re (fun a => by simp only [oursB, refsB, ct_append, ct_cons]; omega), h.sz, h.sA, h.sW, h.newc, h.newz⟩
theorem Both.toOurs (h : Both W0 X b c D E m w) {D' : Dv} {vz : Nat → Value} {vw : Value} {went rows : Blocks} (h' : DSt W0 (X ++ refsB c E m) b D' w' vz vw went rows) :
    Both W0 X b c D' E { m with vz := vz, vw := vw, went := went, rows := rows } w' :=
  ⟨h'.st.re (fun a => by simp only [oursB, refsB, ct_append, ct_cons]; omega), h'.rz, h'.rw, h'.newb, h'.newr, h.sz, h.sA, h.sW, h.newc, h.newz⟩
theorem Both.toRefs (h : Both W0 X b c D E m w) {E' : Dv} {uz : Nat → Value} {uA uW : Value} {wA wW rowz : Blocks} (h' : RSt W0 (X ++ oursB b D m) c E' w' uz uA uW wA wW rowz) :
    Both W0 X b c D E' { m with uz := uz, uA := uA, uW := uW, wA := wA, wW := wW, rowz := rowz } w' :=
  ⟨h'.st.re (fun a => by simp only [oursB, refsB, ct_append, ct_cons]; omega), h.rz, h.rw, h.newb, h.newr, h'.rz, h'.rA, h'.rW, h'.newb, h'.newr⟩
theorem Both.freshO (h : Both W0 X b c D E m w) : ∀ x ∈ oursB b D m, W0.heap.size ≤ x.1 := h.ours.fresh
theorem Both.freshR (h : Both W0 X b c D E m w) : ∀ x ∈ refsB c E m, W0.heap.size ≤ x.1 := h.refs.fresh
end
end Go.Proofs.YtkolfgmpmnelmabDoor
