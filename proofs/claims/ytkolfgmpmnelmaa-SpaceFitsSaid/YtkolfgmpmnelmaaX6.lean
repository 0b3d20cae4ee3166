/-
  A table that comes in, by its cells.
-/
import Derived.Test.YtkolfgmpmnelmaaX1
import Derived.OpenShut
import Derived.WideShapes
namespace Go.Proofs.Ytkolfgmpmnelmaa
open Go Vx Go.Proofs
set_option linter.unusedVariables false
set_option maxRecDepth 4000
set_option maxHeartbeats 400000

theorem cell_int {P : Program} {w : World} {r : Reach} {base : Nat} {t : TypeId} {v : Value} {k : IntKind} (ht : P.underlying t = some (.int k)) (h : Cell.okWide P w r base t v) : ∃ n, v = .int k n := by
  unfold Cell.okWide Cell.ok at h
  rw [ht] at h
  cases v <;> first | (exfalso; exact h) | skip
  rename_i k' n
  obtain ⟨rfl, _⟩ := h
  exact ⟨n, rfl⟩
theorem cell_string {P : Program} {w : World} {r : Reach} {base : Nat} {t : TypeId} {v : Value} (ht : P.underlying t = some .string) (h : Cell.okWide P w r base t v) : ∃ s, v = str s := by
  unfold Cell.okWide Cell.ok at h
  rw [ht] at h
  cases v <;> first | (exfalso; exact h) | skip
  rename_i s
  exact ⟨s.data.toList, rfl⟩
def intOf : Value → Int
  | .int _ n => n
  | _ => 0
def strOf : Value → List UInt8
  | .string s => s.data.toList
  | _ => []
def tbOf (cs : Array Value) : Tb := ⟨intOf (cs.getD 0 .nilIface), fun i => intOf (cs.getD (1 + 3 * i) .nilIface), fun i => intOf (cs.getD (1 + 3 * i + 1) .nilIface), fun i => strOf (cs.getD (1 + 3 * i + 2) .nilIface)⟩
def tsT : List TypeId := 3 :: (List.replicate 24 [3, 3, 9]).flatten
theorem tsT_at (i : Nat) (h : i < 24) : tsT[(1 + 3 * i) % 73]? = some 3 ∧ tsT[(1 + 3 * i + 1) % 73]? = some 3 ∧ tsT[(1 + 3 * i + 2) % 73]? = some 9 := by
  have : ∀ i, i < 24 → tsT[(1 + 3 * i) % 73]? = some 3 ∧ tsT[(1 + 3 * i + 1) % 73]? = some 3 ∧ tsT[(1 + 3 * i + 2) % 73]? = some 9 := by decide +kernel
  exact this i h
theorem table_of {w : World} {r : Reach} {base : Nat} {v : Value} (h : Value.okWide Try.prog w r base 59 v) : ∃ T, v = .agg ⟨tbl T⟩ := by
  unfold Value.okWide at h
  rw [Try.underlying59] at h
  obtain ⟨cs, rfl, hsz, ts, hts, _, hc⟩ := h
  rw [show Try.prog.cellsOf 59 = 73 from by kernel_rfl] at hsz
  have h0 : Try.prog.cellTypes Try.prog.depth 59 = some tsT := by kernel_rfl
  obtain rfl : ts = tsT := Option.some.inj (hts.symm.trans h0)
  have hl : tsT.length = 73 := by decide +kernel
  rw [hl] at hc
  have hI : ∀ j, j < 73 → tsT[j % 73]? = some 3 → cs[j]? = some (iv (intOf (cs.getD j .nilIface))) := fun j hj ht => by
    have e : cs[j]? = some cs[j] := Array.getElem?_eq_getElem (by omega)
    obtain ⟨u, hu, hk⟩ := hc j _ e
    rw [ht] at hu; obtain rfl := Option.some.inj hu
    obtain ⟨n, hn⟩ := cell_int Try.underlying3 hk
    rw [e, Array.getD_eq_getD_getElem?, e, hn]; rfl
  have hS : ∀ j, j < 73 → tsT[j % 73]? = some 9 → cs[j]? = some (str (strOf (cs.getD j .nilIface))) := fun j hj ht => by
    have e : cs[j]? = some cs[j] := Array.getElem?_eq_getElem (by omega)
    obtain ⟨u, hu, hk⟩ := hc j _ e
    rw [ht] at hu; obtain rfl := Option.some.inj hu
    obtain ⟨n, hn⟩ := cell_string Try.underlying9 hk
    rw [e, Array.getD_eq_getD_getElem?, e, hn]; rfl
  refine ⟨tbOf cs, congrArg Value.agg (Array.ext_getElem? fun j => ?_)⟩
  rcases Nat.lt_or_ge j 73 with hj | hj
  · rcases Nat.eq_zero_or_pos j with rfl | hp
    · rw [hI 0 (by omega) (by decide +kernel)]; rfl
    · obtain ⟨i, k, hk, rfl⟩ : ∃ i k, k < 3 ∧ j = 1 + 3 * i + k := ⟨(j - 1) / 3, (j - 1) % 3, by omega, by omega⟩
      have hi : i < 24 := by omega
      have e3 : (⟨tbl (tbOf cs)⟩ : Array Value)[1 + 3 * i + k]? = [iv ((tbOf cs).zn i), iv ((tbOf cs).off i), str ((tbOf cs).tag i)][k]? := by
        rw [List.getElem?_toArray, tbl_at (tbOf cs) hi hk]
      rw [e3]
      obtain ⟨a0, a1, a2⟩ := tsT_at i hi
      clear e3 hc hts h0
      obtain rfl | rfl | rfl : k = 0 ∨ k = 1 ∨ k = 2 := by omega
      · rw [Nat.add_zero, hI _ (by omega) a0]; rfl
      · rw [hI _ (by omega) a1]; rfl
      · rw [hS _ (by omega) a2]; rfl
  · rw [Array.getElem?_eq_none (by omega), Array.getElem?_eq_none (by show (tbl _).length ≤ j; rw [tbl_len]; omega)]
theorem i64_of {l : List Int} (h : ∀ n ∈ l, (Lit.int .i64 n).wf = true) : ∀ j, -9223372036854775808 ≤ l.getD j 0 ∧ l.getD j 0 ≤ 9223372036854775807 := fun j => by
  rcases Nat.lt_or_ge j l.length with hj | hj
  · have hm : l.getD j 0 ∈ l := by rw [List.getD_eq_getElem?_getD, List.getElem?_eq_getElem hj]; exact List.getElem_mem hj
    have := h _ hm
    simp [Lit.wf, IntKind.has, IntKind.min, IntKind.max] at this
    exact this
  · rw [List.getD_eq_getElem?_getD, List.getElem?_eq_none hj]; decide
theorem slice_cap {P : Program} {w : World} {r : Reach} {base : Nat} {t e : TypeId} {v : Value} (ht : P.underlying t = some (.slice e)) (h : Value.okWide P w r base t v) : ∃ a m cap, v = .slice a m cap ∧ m ≤ cap := by
  unfold Value.okWide at h
  rw [ht] at h
  unfold Cell.okWide Cell.ok at h
  simp only [ht] at h
  cases v <;> first | (exfalso; exact h) | skip
  rename_i a m cap
  refine ⟨a, m, cap, rfl, ?_⟩
  rcases a with _ | a
  · rcases m with _ | m
    · exact Nat.zero_le _
    · exfalso; exact h
  · exact h.1
theorem sl_cap {w : World} {v : Value} {m : Nat} {f : Nat → Value} (h : Sl w v m f) (hc : ∃ a m cap, v = .slice a m cap ∧ m ≤ cap) : ∃ a cap, v = .slice a m cap ∧ m ≤ cap := by
  obtain ⟨a, m', cap, rfl, hm⟩ := hc
  obtain ⟨⟨a2, cap2, e, _⟩, _⟩ := h
  cases e
  exact ⟨a, cap, rfl, hm⟩
end Go.Proofs.Ytkolfgmpmnelmaa
