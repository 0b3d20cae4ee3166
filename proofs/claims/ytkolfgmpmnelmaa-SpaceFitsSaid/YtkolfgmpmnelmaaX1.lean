/-
  Plain words and walks: tables by value; where there is room.
-/
import Derived.Test.YtkolfgmpmnelmaaProg
import Derived.Test.YtkolfgmpmnelmaaVs
import Derived.Test.YtkolfgmpmnelmaaVl
import Derived.Test.YtkolfgmpmnelmaaVt
namespace Go.Proofs.Ytkolfgmpmnelmaa
open Go Vx Go.Proofs
set_option linter.unusedVariables false
set_option maxRecDepth 4000
set_option maxHeartbeats 400000

/-! ### Tables -/
structure Tb where
  cnt : Int
  zn : Nat → Int
  off : Nat → Int
  tag : Nat → List UInt8
def cellsT (T : Tb) : Nat → List Value
  | 0 => []
  | i + 1 => cellsT T i ++ [iv (T.zn i), iv (T.off i), str (T.tag i)]
def tbl (T : Tb) : List Value := iv T.cnt :: cellsT T 24
theorem cellsT_len (T : Tb) : ∀ n, (cellsT T n).length = 3 * n
  | 0 => rfl
  | n + 1 => by rw [cellsT, List.length_append, cellsT_len T n]; simp; omega
theorem cellsT_drop (T : Tb) : ∀ (n i : Nat), i < n → ((cellsT T n).drop (3 * i)).take 3 = [iv (T.zn i), iv (T.off i), str (T.tag i)]
  | 0, i, h => absurd h (Nat.not_lt_zero _)
  | n + 1, i, h => by
    have hl := cellsT_len T n
    rw [cellsT]
    by_cases hi : i < n
    · rw [List.drop_append_of_le_length (by omega), List.take_append_of_le_length (by rw [List.length_drop]; omega), cellsT_drop T n i hi]
    · have : i = n := by omega
      subst this
      rw [← hl, List.drop_left]; rfl
theorem tbl_len (T : Tb) : (tbl T).length = 73 := by rw [tbl, List.length_cons, cellsT_len]
theorem tbl_drop (T : Tb) {i : Nat} (h : i < 24) : ((tbl T).drop (1 + 3 * i)).take 3 = [iv (T.zn i), iv (T.off i), str (T.tag i)] := by
  rw [tbl, Nat.add_comm 1, List.drop_succ_cons, cellsT_drop T 24 i h]
theorem tbl_at (T : Tb) {i k : Nat} (h : i < 24) (hk : k < 3) : (tbl T)[1 + 3 * i + k]? = [iv (T.zn i), iv (T.off i), str (T.tag i)][k]? := by
  rw [← tbl_drop T h, List.getElem?_take_of_lt hk, List.getElem?_drop]
/-- A cell's fields, in a block that holds a table. -/
theorem tblZ (T : Tb) {i : Nat} (h : i < 24) : (⟨tbl T⟩ : Array Value)[0 + 1 + (i : Int).toNat * 3 + 0]? = some (iv (T.zn i)) := by
  have e : 0 + 1 + (i : Int).toNat * 3 + 0 = 1 + 3 * i + 0 := by simp; omega
  rw [e, List.getElem?_toArray, tbl_at T h (by omega)]; rfl
theorem tblG (T : Tb) {i : Nat} (h : i < 24) : (⟨tbl T⟩ : Array Value)[0 + 1 + (i : Int).toNat * 3 + 2]? = some (str (T.tag i)) := by
  have e : 0 + 1 + (i : Int).toNat * 3 + 2 = 1 + 3 * i + 2 := by simp; omega
  rw [e, List.getElem?_toArray, tbl_at T h (by omega)]; rfl
section
variable {P : Program} {n : Nat} {e : Env} {o : Oper} {x y : Operand} {ty : TypeId} {w0 : World} {L : Blocks} {d : TypeDesc}
/-- A part of several cells, of an array's value. -/
theorem y_iarrN {m el s : Nat} {cs vs : List Value} {k : IntKind} {i : Int} (ho : o.op = .index ty x y) (ht : P.underlying ty = some (.array m el)) (hel : P.underlying el = some d) (hd : isAggB d = true) (hs : (P.info? el).map (·.size) = some s) (hx : opv n e x = .agg ⟨cs⟩) (hy : opv n e y = .int k i) (h0 : 0 ≤ i) (h1 : i < m) (hl : i.toNat * s + s ≤ cs.length) (hc : (cs.drop (i.toNat * s)).take s = vs) : Y0 P n e o (.agg ⟨vs⟩) := fun w => by
  have hex : (⟨cs⟩ : Array Value).extract (i.toNat * s) (i.toNat * s + s) = ⟨vs⟩ := by
    apply Array.ext'
    simp only [Array.toList_extract, List.extract_eq_take_drop]
    rw [show i.toNat * s + s - i.toNat * s = s from by omega, hc]
  simp only [execOp, ho, hx, hy, Instr.index, asIntOf, part, asAgg, Sem.run_bind, Sem.run_pure, Result.andThen_ok, run_underlying ht, run_sizeOf' hs, run_isAgg hel, hd, h0, h1, and_self, if_true]
  have hl' : i.toNat * s + s ≤ (⟨cs⟩ : Array Value).size := by simpa using hl
  simp [hl', hex]
end
theorem y_loadT {n : Nat} {e : Env} {o : Oper} {x : Operand} {w0 : World} {L : Blocks} {b : Nat} {T : Tb} (i : Nat) (ho : o.op = .load 59 x) (hx : opv n e x = pv b 0) (hi : L[i]? = some (b, .cells ⟨tbl T⟩ 59 (0, 0))) : Y1 Try.prog n e o (St w0 L) (.agg ⟨tbl T⟩) := by
  have h := y_loadN (P := Try.prog) (n := n) (e := e) (w0 := w0) i ho Try.underlying59 rfl sz59 hx hi (by show 0 + 73 ≤ (tbl T).length; rw [tbl_len]; decide)
  have e2 : (((⟨tbl T⟩ : Array Value).toList.drop 0).take 73) = tbl T := by
    rw [List.drop_zero, List.take_of_length_le (by rw [tbl_len]; exact Nat.le_refl _)]
  rw [e2] at h; exact h
end Go.Proofs.Ytkolfgmpmnelmaa
