/-
  A small frame for walks, 8: arrays of eight, parts of slices.
-/
import Derived.Test.YtkolfgmpmnelmabGreatDoorVg
namespace Go.Proofs.YtkolfgmpmnelmabGreatDoor.Vx
open Go

section
variable {P : Program} {p : Post} {n : Nat} {e : Env} {o : Oper} {x y z : Operand} {ty ty' : TypeId} {v : Value} {w0 w : World} {L : Blocks} {K : Act → World → Prop} {Q : Exit → Act → World → Prop} {l : List UInt8}
theorem y_buildA8 {el : Nat} {z0 z1 z2 z3 z4 z5 z6 z7 v0 v1 v2 v3 v4 v5 v6 v7 : Value} {x0 x1 x2 x3 x4 x5 x6 x7 : Operand} (ho : o.op = .build ty #[(0, x0), (1, x1), (2, x2), (3, x3), (4, x4), (5, x5), (6, x6), (7, x7)]) (ht : P.underlying ty = some (.array 8 el)) (hz : (P.info? ty).bind (·.zero) = some (.agg ⟨[z0, z1, z2, z3, z4, z5, z6, z7]⟩)) (hs : (P.info? el).map (·.size) = some 1)
    (h0 : opv n e x0 = v0) (h1 : opv n e x1 = v1) (h2 : opv n e x2 = v2) (h3 : opv n e x3 = v3) (h4 : opv n e x4 = v4) (h5 : opv n e x5 = v5) (h6 : opv n e x6 = v6) (h7 : opv n e x7 = v7)
    (k0 : v0.oneCell' = true) (k1 : v1.oneCell' = true) (k2 : v2.oneCell' = true) (k3 : v3.oneCell' = true) (k4 : v4.oneCell' = true) (k5 : v5.oneCell' = true) (k6 : v6.oneCell' = true) (k7 : v7.oneCell' = true) :
    Y0 P n e o (.agg ⟨[v0, v1, v2, v3, v4, v5, v6, v7]⟩) :=
  y_buildA ho ht hz hs (by simp [Instr.fill, h0, h1, h2, h3, h4, h5, h6, h7, cells_one k0, cells_one k1, cells_one k2, cells_one k3, cells_one k4, cells_one k5, cells_one k6, cells_one k7])
/-- A slice of a slice. -/
theorem y_slslice {el s : Nat} {b off m cap : Nat} {ka kb : IntKind} {i j : Int} {lo hi : Operand} (ho : o.op = .slice ty x (some lo) (some hi) none) (ht : P.underlying ty = some (.slice el)) (hs : (P.info? el).map (·.size) = some s) (hx : opv n e x = .slice (some ⟨b, off, none⟩) m cap) (hlo : opv n e lo = .int ka i) (hhi : opv n e hi = .int kb j)
    (h : 0 ≤ i ∧ i ≤ j ∧ j ≤ cap ∧ i < cap) : Y0 P n e o (.slice (some ⟨b, off + i.toNat * s, none⟩) (j.toNat - i.toNat) (cap - i.toNat)) := fun w => by
  have h1 : 0 ≤ j ∧ j ≤ (cap : Int) := ⟨by omega, h.2.2.1⟩
  have h2 : 0 ≤ i ∧ i ≤ (j.toNat : Int) := ⟨h.1, by omega⟩
  have h3 : ¬ (cap = i.toNat) := by omega
  simp only [execOp, ho, hx, hlo, hhi, Option.map_some, Option.map_none, Instr.sliceAt, Instr.slice, Instr.sliceBounds, Instr.sliceBound, asIntOf, Sem.run_bind, Sem.run_pure, Result.andThen_ok, run_underlying ht, Option.isSome_none, Bool.false_eq_true, if_false, if_pos h1, if_pos h2, run_sizeOf' hs, if_neg h3, add_lit]
/-- A slice from somewhere on. -/
theorem y_slsliceLo {el s : Nat} {b off m cap : Nat} {ka : IntKind} {i : Int} {lo : Operand} (ho : o.op = .slice ty x (some lo) none none) (ht : P.underlying ty = some (.slice el)) (hs : (P.info? el).map (·.size) = some s) (hx : opv n e x = .slice (some ⟨b, off, none⟩) m cap) (hlo : opv n e lo = .int ka i)
    (h : 0 ≤ i ∧ i ≤ m ∧ m ≤ cap) : Y0 P n e o (.slice (some ⟨b, if cap = i.toNat then off else off + i.toNat * s, none⟩) (m - i.toNat) (cap - i.toNat)) := fun w => by
  have h1 : 0 ≤ i ∧ i ≤ (m : Int) := ⟨h.1, h.2.1⟩
  simp only [execOp, ho, hx, hlo, Option.map_some, Option.map_none, Instr.sliceAt, Instr.slice, Instr.sliceBounds, Instr.sliceBound, asIntOf, Sem.run_bind, Sem.run_pure, Result.andThen_ok, run_underlying ht, Option.isSome_none, Bool.false_eq_true, if_false, if_pos h1, run_sizeOf' hs, add_lit]
  by_cases hc : cap = i.toNat
  · simp [hc]
  · simp [hc]
theorem y_slenRow {el E B s m : Nat} {xs : List Value} {ent : Blocks} (ho : o.op = .call { callee := .builtin .len, args := #[x], argTypes := #[ty] }) (ht : P.underlying ty = some (.slice el)) (hx : opv n e x = v) (hr : Row B E s v m xs ent) : Y0 P n e o (iv m) := by
  rcases hr.2 with ⟨h1, h2, _⟩ | ⟨g, cap, cur, fz, h1, _⟩
  · rw [h1] at hx; subst h2; exact y_slen ho ht hx
  · rw [h1] at hx; exact y_slen ho ht hx
theorem part_of {cur : Array Value} {p : List UInt8} (h : cur.toList.take (p.length * 1) = p.map bv) {a n : Nat} (han : a + n ≤ p.length) : (cur.toList.drop a).take n = ((p.drop a).take n).map bv := by
  rw [Nat.mul_one] at h
  rw [List.map_take, List.map_drop, ← h, List.drop_take, List.take_take, Nat.min_eq_left (by omega)]
/-- string(b[i:j]), of bytes that lie in a known block. -/
theorem y_bsub {E : TypeId} {g off m cap : Nat} {cur : Array Value} {T : TypeId} {fz : Nat × Nat} (ho : o.op = .convert ty ty' x) (hs : P.underlying ty = some (.slice E)) (he : P.underlying E = some (.int .u8)) (ht : P.underlying ty' = some .string) (hx : opv n e x = .slice (some ⟨g, off, none⟩) m cap)
    (hm : m = l.length) (hin : (g, Obj.cells cur T fz) ∈ L) (hc : (cur.toList.drop off).take l.length = l.map bv) : Y1 P n e o (St w0 L) (str l) := fun w hst => by
  have hg := hst.has (g, .cells cur T fz) hin
  have h4 : (loadCells ⟨g, off, none⟩ m).run P w = .ok ((l.map fun b : UInt8 => (b.toNat : Int)).map (Value.int .u8)).toArray w := by
    have := run_loadCells_list (P := P) w ⟨g, off, none⟩ (l.map bv) (fun j u hj => by
      rw [add_lit, cell_of_has hg]
      rw [← hc, List.getElem?_take] at hj
      split at hj
      · rw [List.getElem?_drop] at hj; simpa using hj
      · cases hj)
    rw [List.length_map, ← hm] at this
    rw [this, List.map_map]; rfl
  have h5 := run_bytesToString (P := P) w ⟨g, off, none⟩ m cap _ h4
  simp only [execOp, ho, hx, Sem.run_bind, run_convert_bytes_string w ty ty' E (some ⟨g, off, none⟩) m cap hs he ht, h5, Sem.run_pure, Result.andThen_ok]
  congr 3
  rw [foldl_push_bytes]
  simp only [List.map_map]
  apply ByteArray.ext
  simp
  show List.map ((fun n : Int => UInt8.ofNat n.toNat) ∘ fun b : UInt8 => (b.toNat : Int)) l = l
  conv => rhs; rw [← List.map_id l]
  apply List.map_congr_left
  intro b _
  simp
end
end Go.Proofs.YtkolfgmpmnelmabGreatDoor.Vx
