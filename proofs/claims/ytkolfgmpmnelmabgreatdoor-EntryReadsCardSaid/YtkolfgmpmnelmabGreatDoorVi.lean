/-
  A small frame for walks, 9: slices that came in: their cells are as they were when the call began.
-/
import Derived.Test.YtkolfgmpmnelmabGreatDoorVh
namespace Go.Proofs.YtkolfgmpmnelmabGreatDoor.Vx
open Go

def adB : Value → Nat | .slice (some a) _ _ => a.block | _ => 0
def adO : Value → Nat | .slice (some a) _ _ => a.off | _ => 0
/-- v is a slice of m cells, the j-th of which is f j. -/
structure Sl (w : World) (v : Value) (m : Nat) (f : Nat → Value) : Prop where
  shape : ∃ a cap, v = .slice a m cap ∧ (0 < m → a = some ⟨adB v, adO v, none⟩)
  cell : ∀ j, j < m → w.cell? ⟨adB v, adO v + j, none⟩ = some (f j)
theorem Sl.nil (w : World) (f : Nat → Value) (a : Option Addr) (cap : Nat) : Sl w (.slice a 0 cap) 0 f := ⟨⟨a, cap, rfl, fun h => absurd h (Nat.lt_irrefl _)⟩, fun _ h => absurd h (Nat.not_lt_zero _)⟩
theorem Sl.of {w : World} {b off m cap : Nat} {f : Nat → Value} (h : ∀ j, j < m → w.cell? ⟨b, off + j, none⟩ = some (f j)) : Sl w (.slice (some ⟨b, off, none⟩) m cap) m f := ⟨⟨_, _, rfl, fun _ => rfl⟩, h⟩
theorem Sl.lt {w : World} {v : Value} {m : Nat} {f : Nat → Value} (h : Sl w v m f) (hm : 0 < m) : adB v < w.heap.size := by
  have hc := h.cell 0 hm
  rcases Nat.lt_or_ge (adB v) w.heap.size with h' | h'
  · exact h'
  · simp [World.cell?, Array.getElem?_eq_none h'] at hc
theorem Sl.keep {w w' : World} {v : Value} {m : Nat} {f : Nat → Value} {L : Blocks} (h : Sl w v m f) (hs : St w L w') (hL : ∀ k ∈ keys L, w.heap.size ≤ k) : Sl w' v m f :=
  ⟨h.shape, fun j hj => by
    have hlt := h.lt (Nat.lt_of_le_of_lt (Nat.zero_le _) hj)
    rw [← h.cell j hj]
    exact World.cell?_of_block (a := ⟨adB v, adO v + j, none⟩) (hs.fr (adB v) hlt (fun hk => by have := hL _ hk; omega))⟩
theorem Sl.keep0 {w w' : World} {v : Value} {m : Nat} {f : Nat → Value} (h : Sl w v m f) (hs : St w [] w') : Sl w' v m f := h.keep hs (fun _ hk => by cases hk)

section
variable {P : Program} {n : Nat} {e : Env} {o : Oper} {x y : Operand} {ty : TypeId} {v : Value} {w0 : World} {L : Blocks} {d : TypeDesc} {el m : Nat} {f : Nat → Value}
theorem y_slenSl {w : World} (ho : o.op = .call { callee := .builtin .len, args := #[x], argTypes := #[ty] }) (ht : P.underlying ty = some (.slice el)) (hx : opv n e x = v) (h : Sl w v m f) : Y0 P n e o (iv m) := by
  obtain ⟨a, cap, h1, _⟩ := h.shape
  rw [h1] at hx; exact y_slen ho ht hx
theorem y_indexSlAt {w : World} {k : IntKind} {i : Int} (ho : o.op = .indexAddr ty x y) (ht : P.underlying ty = some (.slice el)) (hs : (P.info? el).map (·.size) = some 1) (hx : opv n e x = v) (hy : opv n e y = .int k i) (h : Sl w v m f) (h0 : 0 ≤ i) (h1 : i < m) : Y0 P n e o (pv (adB v) (adO v + i.toNat * 1)) := by
  obtain ⟨a, cap, h2, h3⟩ := h.shape
  rw [h2, h3 (by omega)] at hx
  exact y_indexSl ho ht hs hx hy h0 h1
theorem y_loadSl {i : Int} (j : Nat) (ho : o.op = .load ty x) (ht : P.underlying ty = some d) (hd : isAggB d = false) (hx : opv n e x = pv (adB v) (adO v + i.toNat * 1)) (h : Sl w0 v m f) (hj : i.toNat = j) (hjm : j < m) (hL : ∀ k ∈ keys L, w0.heap.size ≤ k) : Y1 P n e o (St w0 L) (f j) :=
  y_loadOld ho ht hd hx (by rw [Nat.mul_one, hj]; exact h.cell j hjm) (fun hk => by have := hL _ hk; have := h.lt (Nat.lt_of_le_of_lt (Nat.zero_le _) hjm); omega)
end
end Go.Proofs.YtkolfgmpmnelmabGreatDoor.Vx
