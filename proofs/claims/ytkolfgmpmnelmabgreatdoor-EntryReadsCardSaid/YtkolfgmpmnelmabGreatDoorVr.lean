/-
  A small frame for walks, 13: slices of arrays; a few more operations on numbers.
-/
import Derived.Test.YtkolfgmpmnelmabGreatDoorVq
namespace Go.Proofs.YtkolfgmpmnelmabGreatDoor.Vx
open Go

section
variable {P : Program} {p : Post} {n : Nat} {e : Env} {o : Oper} {x y z : Operand} {ty ty' : TypeId} {v : Value} {w0 w : World} {L : Blocks} {K : Act → World → Prop} {Q : Exit → Act → World → Prop} {d : TypeDesc} {q q' : UInt64}
/-- An array's slice from somewhere on. -/
theorem y_slArrLo {el s : Nat} {b off m : Nat} {ka : IntKind} {i : Int} {lo : Operand} (ho : o.op = .slice ty x (some lo) none none) (ht : P.underlying ty = some (.array m el)) (hs : (P.info? el).map (·.size) = some s) (hx : opv n e x = pv b off) (hlo : opv n e lo = .int ka i)
    (h : 0 ≤ i ∧ i ≤ m) : Y0 P n e o (.slice (some ⟨b, if m = i.toNat then off else off + i.toNat * s, none⟩) (m - i.toNat) (m - i.toNat)) := fun w => by
  simp only [execOp, ho, hx, hlo, Option.map_some, Option.map_none, Instr.sliceAt, Instr.slice, Instr.sliceBounds, Instr.sliceBound, Instr.sureAddr, asIntOf, Sem.run_bind, Sem.run_pure, Result.andThen_ok, run_underlying ht, Option.isSome_none, Bool.false_eq_true, if_false, if_pos h, run_sizeOf' hs, add_lit]
  by_cases hc : m = i.toNat
  · simp [hc]
  · simp [hc]
theorem y_slArrHi {el s : Nat} {b off m : Nat} {ka : IntKind} {i : Int} {hi : Operand} (ho : o.op = .slice ty x none (some hi) none) (ht : P.underlying ty = some (.array m el)) (hs : (P.info? el).map (·.size) = some s) (hx : opv n e x = pv b off) (hhi : opv n e hi = .int ka i)
    (h : 0 ≤ i ∧ i ≤ m) : Y0 P n e o (.slice (some ⟨b, off, none⟩) i.toNat m) := fun w => by
  simp only [execOp, ho, hx, hhi, Option.map_some, Option.map_none, Instr.sliceAt, Instr.slice, Instr.sliceBounds, Instr.sliceBound, Instr.sureAddr, asIntOf, Sem.run_bind, Sem.run_pure, Result.andThen_ok, run_underlying ht, Option.isSome_none, Bool.false_eq_true, if_false, if_pos h, run_sizeOf' hs, add_lit, Nat.zero_mul, Nat.add_zero, Nat.sub_zero, ite_self]
theorem y_slArr {el s : Nat} {b off m : Nat} (ho : o.op = .slice ty x none none none) (ht : P.underlying ty = some (.array m el)) (hs : (P.info? el).map (·.size) = some s) (hx : opv n e x = pv b off) : Y0 P n e o (.slice (some ⟨b, off, none⟩) m m) := fun w => by
  simp only [execOp, ho, hx, Option.map_none, Instr.sliceAt, Instr.slice, Instr.sliceBounds, Instr.sureAddr, Sem.run_bind, Sem.run_pure, Result.andThen_ok, run_underlying ht, Option.isSome_none, Bool.false_eq_true, if_false, run_sizeOf' hs, add_lit, Nat.zero_mul, Nat.add_zero, Nat.sub_zero, ite_self]
theorem y_slArrLoHi {el s : Nat} {b off m : Nat} {ka kb : IntKind} {i j : Int} {lo hi : Operand} (ho : o.op = .slice ty x (some lo) (some hi) none) (ht : P.underlying ty = some (.array m el)) (hs : (P.info? el).map (·.size) = some s) (hx : opv n e x = pv b off) (hlo : opv n e lo = .int ka i) (hhi : opv n e hi = .int kb j)
    (h : 0 ≤ i ∧ i ≤ j ∧ j ≤ m ∧ i < m) : Y0 P n e o (.slice (some ⟨b, off + i.toNat * s, none⟩) (j.toNat - i.toNat) (m - i.toNat)) := fun w => by
  have h1 : 0 ≤ j ∧ j ≤ (m : Int) := ⟨by omega, h.2.2.1⟩
  have h2 : 0 ≤ i ∧ i ≤ (j.toNat : Int) := ⟨h.1, by omega⟩
  have h3 : ¬ (m = i.toNat) := by omega
  simp only [execOp, ho, hx, hlo, hhi, Option.map_some, Option.map_none, Instr.sliceAt, Instr.slice, Instr.sliceBounds, Instr.sliceBound, Instr.sureAddr, asIntOf, Sem.run_bind, Sem.run_pure, Result.andThen_ok, run_underlying ht, Option.isSome_none, Bool.false_eq_true, if_false, if_pos h1, if_pos h2, run_sizeOf' hs, if_neg h3, add_lit]
theorem y_neg64u (ho : o.op = .unOp .neg ty x) (hx : opv n e x = qv q) : Y0 P n e o (qv (0 - q)) := fun w => by
  have h : IntKind.u64.wrap (0 - (q.toNat : Int)) = ((0 - q).toNat : Int) := by
    rw [wrap_u64, UInt64.toNat_sub]
    have z : (0 : UInt64).toNat = 0 := rfl
    rw [z]
    have := q.toNat_lt; omega
  simp only [execOp, ho, hx, Op.unary, Op.intArith, h, Sem.run_bind, Sem.run_pure, Result.andThen_ok]
theorem y_buildA3 {el : Nat} {z0 z1 z2 v0 v1 v2 : Value} {x0 x1 x2 : Operand} (ho : o.op = .build ty #[(0, x0), (1, x1), (2, x2)]) (ht : P.underlying ty = some (.array 3 el)) (hz : (P.info? ty).bind (·.zero) = some (.agg ⟨[z0, z1, z2]⟩)) (hs : (P.info? el).map (·.size) = some 1)
    (h0 : opv n e x0 = v0) (h1 : opv n e x1 = v1) (h2 : opv n e x2 = v2) (k0 : v0.oneCell' = true) (k1 : v1.oneCell' = true) (k2 : v2.oneCell' = true) :
    Y0 P n e o (.agg ⟨[v0, v1, v2]⟩) :=
  y_buildA ho ht hz hs (by simp [Instr.fill, h0, h1, h2, cells_one k0, cells_one k1, cells_one k2])
/-- Whole numbers, bit by bit. -/
theorem y_andi64 {a b : Int} (ho : o.op = .binOp .and ty x y ty') (hx : opv n e x = iv a) (hy : opv n e y = iv b) : Y0 P n e o (iv (IntKind.i64.wrap ((BitVec.ofInt 64 a &&& BitVec.ofInt 64 b).toNat))) := fun w => by
  have hop : Op.intBits .and .i64 a b = pure (.int .i64 (IntKind.i64.wrap ((BitVec.ofInt 64 a &&& BitVec.ofInt 64 b).toNat))) := rfl
  have hb : binOp .and ty (.int .i64 a) (.int .i64 b) = Op.intBits .and .i64 a b := by simp [binOp]
  simp only [execOp, ho, hx, hy, hb, hop, Sem.run_bind, run_eqGuard_int, Result.andThen_ok, Sem.run_pure]
end
end Go.Proofs.YtkolfgmpmnelmabGreatDoor.Vx
