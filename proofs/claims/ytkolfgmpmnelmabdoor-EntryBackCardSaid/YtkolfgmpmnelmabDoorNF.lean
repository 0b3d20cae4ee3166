/-
  Walk: keep.EntryBack.
-/
import Derived.Test.YtkolfgmpmnelmabDoorNE
namespace Go.Proofs.YtkolfgmpmnelmabDoor.Ent
open Go Vx Go.Proofs Go.RowKit
set_option linter.unusedVariables false
set_option maxRecDepth 8000
set_option maxHeartbeats 1000000
def pickOf (a n : Int) : Int := (a % 18446744073709551616) % n
theorem pickOf_range {a n : Int} (h : 0 < n) : 0 ≤ pickOf a n ∧ pickOf a n < n := ⟨Int.emod_nonneg _ (by omega), Int.emod_lt_of_pos _ h⟩
theorem u64of_nat (a : Int) : ((u64of a).toNat : Int) = a % 18446744073709551616 := by simp [u64of]; omega
theorem pick_eq {a n : Int} (h : 0 < n) (hn : n ≤ 9223372036854775807) : IntKind.i64.wrap ((u64of a % u64of n).toNat : Int) = pickOf a n := by
  have h1 : ((u64of a % u64of n).toNat : Int) = pickOf a n := by
    rw [UInt64.toNat_mod, Int.natCast_emod, u64of_nat, u64of_nat, Int.emod_eq_of_lt (a := n) (by omega) (by omega)]; rfl
  have := pickOf_range (a := a) h
  rw [h1, wrap_i64 (by omega)]
theorem pick_any (a n : Int) (h : 0 < n) (hn : n ≤ 9223372036854775807) (w : World) :
    C Tryd.prog 14 ⟨[iv a, iv n]⟩ w fun v w' => v = iv (pickOf a n) ∧ St w [] w' := by
  have hne : u64of n ≠ 0 := by
    intro h0
    have h1 := u64of_nat n
    rw [h0, Int.emod_eq_of_lt (by omega) (by omega)] at h1
    simp at h1; omega
  refine C_enter (n := 11) Tryd.func14 rfl rfl rfl (fun w1 hs1 => ?_)
  refine W_seq ?_
  refine W_region ?_
  refine L0 (wanted_none rfl) rfl (y_assign (v := Value.int _ _) rfl rfl) ?_
  refine Lnil ?_
  refine W_seq ?_
  refine W_region ?_
  refine L0 (wanted_none rfl) rfl (y_move (v := Value.int _ _) rfl rfl) ?_
  refine L0 (wanted_none rfl) rfl (y_cito64 rfl Tryd.underlying3 Tryd.underlying105 rfl) ?_
  refine L0 (wanted_none rfl) rfl (y_move (v := Value.int _ _) rfl rfl) ?_
  refine L0 (wanted_none rfl) rfl (y_cito64 rfl Tryd.underlying3 Tryd.underlying105 rfl) ?_
  refine L0 (wanted_none rfl) rfl (y_rem64u rfl rfl rfl (by assumption)) ?_
  refine L0 (wanted_none rfl) rfl (y_conv rfl Tryd.underlying105 Tryd.underlying3 rfl) ?_
  refine L0 (wanted_none rfl) rfl (y_assign (v := Value.int _ _) rfl rfl) ?_
  refine Lnil ?_
  refine W_ret ?_
  refine fin1 (fn := Tryd.f14) rfl rfl ?_
  exact ⟨congrArg iv (pick_eq h hn), hs1⟩
/-- What Parse hands back, in one shape. -/
theorem parse2_any (s : List UInt8) (hl : s.length ≤ 100000) (w : World) (hE : EntAt w) : C Tryd.prog 58 ⟨[str s]⟩ w fun v w' => (∃ vl e r, v = .tuple #[vl, e] ∧ Reads s r ∧ (r = none → e = .iface 35 (iv 3)) ∧ ∀ m, r = some m → e = .nilIface ∧ ∃ vc, FlsAt w' vl m vc) ∧ St w [] w' :=
  (parse_any s hl w hE).mono fun v w' ⟨h, hs⟩ => ⟨by
    rcases h with ⟨h1, rfl⟩ | ⟨m, vl, vc, h1, rfl, h3⟩
    · exact ⟨_, _, none, rfl, h1, fun _ => rfl, fun m h => (by cases h)⟩
    · exact ⟨_, _, some m, rfl, h1, fun h => (by cases h), fun m' h => by cases h; exact ⟨rfl, vc, h3⟩⟩, hs⟩
/-- The first files. -/
theorem FlsAt.take {w : World} {v : Value} {l : List Fl} {vc : Nat → Value} (h : FlsAt w v l vc) {k : Nat} (hk : k ≤ l.length) {a : Option Addr} {cap : Nat} (hv : v = .slice a l.length cap) : FlsAt w (.slice a k cap) (l.take k) vc := by
  have hlen : (l.take k).length = k := by rw [List.length_take]; omega
  have hb : adB (.slice a k cap) = adB v := by rw [hv]; cases a <;> rfl
  have ho : adO (.slice a k cap) = adO v := by rw [hv]; cases a <;> rfl
  have hg : ∀ j, j < k → (l.take k).getD j default = l.getD j default := fun j hj => getD_take hj _
  obtain ⟨a', cap', h1, h2⟩ := h.shape
  obtain ⟨a'', cap'', h3, h4⟩ := h.room
  rw [hv] at h1 h3
  cases h1; cases h3
  refine ⟨⟨a, cap, by rw [hlen], fun h0 => ?_⟩, fun j hj => ?_, fun j hj => ?_, ⟨a, cap, by rw [hlen], by omega⟩⟩
  · rw [hlen] at h0; rw [hb, ho]; exact h2 (by omega)
  · rw [hlen] at hj; rw [hg j hj, hb, ho]; exact h.cell j (by omega)
  · rw [hlen] at hj; rw [hg j hj]; exact h.cells j (by omega)
theorem add0 (a : Addr) : a.add 0 = a := by
  cases a with
  | mk b o s => cases s <;> simp [Addr.add]
theorem y_flHi {P : Program} {n : Nat} {e : Env} {o : Oper} {x hi : Operand} {ty el : TypeId} {s m cap : Nat} {a : Option Addr} {kb : IntKind} {j : Int} (ho : o.op = .slice ty x none (some hi) none) (ht : P.underlying ty = some (.slice el)) (hs : (P.info? el).map (·.size) = some s) (hx : opv n e x = .slice a m cap) (hhi : opv n e hi = .int kb j)
    (h : 0 ≤ j ∧ j ≤ cap) : Y0 P n e o (.slice a j.toNat cap) := fun w => by
  have h1 : 0 ≤ j ∧ j ≤ (cap : Int) := h
  cases a with
  | none =>
    simp only [execOp, ho, hx, hhi, Option.map_some, Option.map_none, Instr.sliceAt, Instr.slice, Instr.sliceBounds, Instr.sliceBound, asIntOf, Sem.run_bind, Sem.run_pure, Result.andThen_ok, run_underlying ht, Option.isSome_none, Bool.false_eq_true, if_false, if_pos h1, run_sizeOf' hs]
    simp
  | some a =>
    simp only [execOp, ho, hx, hhi, Option.map_some, Option.map_none, Instr.sliceAt, Instr.slice, Instr.sliceBounds, Instr.sliceBound, asIntOf, Sem.run_bind, Sem.run_pure, Result.andThen_ok, run_underlying ht, Option.isSome_none, Bool.false_eq_true, if_false, if_pos h1, run_sizeOf' hs]
    simp [add0]
end Go.Proofs.YtkolfgmpmnelmabDoor.Ent
