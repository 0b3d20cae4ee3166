/-
  Plain words and small walks: a device of zones, its memory; fill, burn, Clip, Equal, few.
-/
import Derived.Test.YtkolfgmpmnelmabDoorZ1
import Derived.Test.YtkolfgmpmnelmabDoorVg
import Derived.Test.YtkolfgmpmnelmabDoorVt
import Derived.Test.YtkolfgmpmnelmabDoorVi
namespace Go.Proofs.YtkolfgmpmnelmabDoor
open Go Vx Go.Proofs
set_option linter.unusedVariables false
set_option maxRecDepth 4000
set_option maxHeartbeats 400000

section
variable {P : Program} {n : Nat} {e : Env} {o : Oper} {x y z : Operand} {ty : TypeId} {w0 : World} {L : Blocks} {d : TypeDesc}
/-- The head of a slice. -/
theorem y_slHi {el s m cap : Nat} {a : Option Addr} {k : IntKind} {j : Int} {hi : Operand} (ho : o.op = .slice ty x none (some hi) none) (ht : P.underlying ty = some (.slice el)) (hs : (P.info? el).map (·.size) = some s) (hx : opv n e x = .slice a m cap) (ha : a = none ∨ ∃ b off, a = some ⟨b, off, none⟩) (hhi : opv n e hi = .int k j)
    (h : 0 ≤ j ∧ j ≤ cap) : Y0 P n e o (.slice a j.toNat cap) := fun w => by
  have h1 : 0 ≤ j ∧ j ≤ (cap : Int) := h
  simp only [execOp, ho, hx, hhi, Option.map_some, Option.map_none, Instr.sliceAt, Instr.slice, Instr.sliceBounds, Instr.sliceBound, asIntOf, Sem.run_bind, Sem.run_pure, Result.andThen_ok, run_underlying ht, Option.isSome_none, Bool.false_eq_true, if_false, if_pos h1, run_sizeOf' hs, Nat.sub_zero, Nat.zero_mul]
  rcases ha with rfl | ⟨b, off, rfl⟩
  · simp
  · simp [add_lit]
/-- A slice without room. -/
theorem y_slClip {el s m cap : Nat} {a : Option Addr} {k k' : IntKind} {hi mx : Operand} (ho : o.op = .slice ty x none (some hi) (some mx)) (ht : P.underlying ty = some (.slice el)) (hs : (P.info? el).map (·.size) = some s) (hx : opv n e x = .slice a m cap) (ha : a = none ∨ ∃ b off, a = some ⟨b, off, none⟩) (hhi : opv n e hi = .int k m) (hmx : opv n e mx = .int k' m)
    (h : m ≤ cap) : Y0 P n e o (.slice a m m) := fun w => by
  have h1 : (0 : Int) ≤ m ∧ (m : Int) ≤ (cap : Int) := ⟨by omega, by omega⟩
  have h2 : (0 : Int) ≤ m ∧ (m : Int) ≤ ((m : Int).toNat : Int) := ⟨by omega, by omega⟩
  simp only [execOp, ho, hx, hhi, hmx, Option.map_some, Option.map_none, Instr.sliceAt, Instr.slice, Instr.sliceBounds, Instr.sliceBound, asIntOf, Sem.run_bind, Sem.run_pure, Result.andThen_ok, run_underlying ht, Option.isSome_some, Bool.false_eq_true, if_false, if_pos h1, if_pos h2, run_sizeOf' hs, Nat.sub_zero, Nat.zero_mul]
  rcases ha with rfl | ⟨b, off, rfl⟩
  · simp
  · simp [add_lit]
end
/-! ### The device, by value -/
def updF {α : Type} (f : Nat → α) (j : Nat) (v : α) : Nat → α := fun k => if k = j then v else f k
theorem updF_at {α : Type} (f : Nat → α) (j : Nat) (v : α) : updF f j v j = v := if_pos rfl
theorem updF_ne {α : Type} (f : Nat → α) {j k : Nat} (v : α) (h : k ≠ j) : updF f j v k = f k := if_neg h
structure Dv where
  z : Nat → List (List UInt8)
  sure : Nat → Nat
  slot : Nat → List UInt8
  wait : List (Nat × List UInt8)
  fuse : Int
def dcells (vz : Nat → Value) (sure : Nat → Nat) (slot : Nat → List UInt8) (vw : Value) (fuse : Int) : List Value :=
  [vz 0, vz 1, vz 2, vz 3, vz 4, vz 5, vz 6, vz 7, iv (sure 0), iv (sure 1), iv (sure 2), iv (sure 3), iv (sure 4), iv (sure 5), iv (sure 6), iv (sure 7), str (slot 0), str (slot 1), vw, iv fuse]
theorem lt8 {i : Int} (h0 : 0 ≤ i) (h1 : i < 8) : i = 0 ∨ i = 1 ∨ i = 2 ∨ i = 3 ∨ i = 4 ∨ i = 5 ∨ i = 6 ∨ i = 7 := by omega
section
variable (vz : Nat → Value) (sure : Nat → Nat) (slot : Nat → List UInt8) (vw : Value) (fuse : Int)
theorem dc_z {i : Int} (h0 : 0 ≤ i) (h1 : i < 8) : (⟨dcells vz sure slot vw fuse⟩ : Array Value)[0 + 0 + i.toNat * 1]? = some (vz i.toNat) := by
  rcases lt8 h0 h1 with rfl | rfl | rfl | rfl | rfl | rfl | rfl | rfl <;> rfl
theorem dc_s {i : Int} (h0 : 0 ≤ i) (h1 : i < 8) : (⟨dcells vz sure slot vw fuse⟩ : Array Value)[0 + 8 + i.toNat * 1]? = some (iv (sure i.toNat)) := by
  rcases lt8 h0 h1 with rfl | rfl | rfl | rfl | rfl | rfl | rfl | rfl <;> rfl
theorem dc_l {i : Int} (h0 : 0 ≤ i) (h1 : i < 2) : (⟨dcells vz sure slot vw fuse⟩ : Array Value)[0 + 16 + i.toNat * 1]? = some (str (slot i.toNat)) := by
  have h : i = 0 ∨ i = 1 := by omega
  rcases h with rfl | rfl <;> rfl
theorem dc_setz {i : Int} (h0 : 0 ≤ i) (h1 : i < 8) (v : Value) : (⟨dcells vz sure slot vw fuse⟩ : Array Value).setIfInBounds (0 + 0 + i.toNat * 1) v = ⟨dcells (updF vz i.toNat v) sure slot vw fuse⟩ := by
  rcases lt8 h0 h1 with rfl | rfl | rfl | rfl | rfl | rfl | rfl | rfl <;> rfl
theorem dc_sets {i : Int} (h0 : 0 ≤ i) (h1 : i < 8) (k : Nat) : (⟨dcells vz sure slot vw fuse⟩ : Array Value).setIfInBounds (0 + 8 + i.toNat * 1) (iv (k : Int)) = ⟨dcells vz (updF sure i.toNat k) slot vw fuse⟩ := by
  rcases lt8 h0 h1 with rfl | rfl | rfl | rfl | rfl | rfl | rfl | rfl <;> rfl
theorem dc_setl {i : Int} (h0 : 0 ≤ i) (h1 : i < 2) (s : List UInt8) : (⟨dcells vz sure slot vw fuse⟩ : Array Value).setIfInBounds (0 + 16 + i.toNat * 1) (str s) = ⟨dcells vz sure (updF slot i.toNat s) vw fuse⟩ := by
  have h : i = 0 ∨ i = 1 := by omega
  rcases h with rfl | rfl <;> rfl
theorem dc_len : (dcells vz sure slot vw fuse).length = 20 := rfl
end
@[reducible] def zstrs (l : List (List UInt8)) (j : Nat) : Value := str (l.getD j [])
/-- A row of strings that lies among these blocks, from its block's head on. -/
def RowIn (rows : Blocks) (v : Value) (l : List (List UInt8)) : Prop :=
  (v = .slice none 0 0 ∧ l = []) ∨ ∃ g cap cur fz, v = .slice (some ⟨g, 0, none⟩) l.length cap ∧ (g, .cells cur 9 fz) ∈ rows ∧ l.length ≤ cap ∧ ∀ j, j < l.length → cur[j]? = some (str (l.getD j []))
theorem RowIn.nil (rows : Blocks) : RowIn rows (.slice none 0 0) [] := .inl ⟨rfl, rfl⟩
theorem RowIn.mono {rows rows' : Blocks} {v : Value} {l : List (List UInt8)} (h : RowIn rows v l) (hr : ∀ x ∈ rows, x ∈ rows') : RowIn rows' v l := by
  rcases h with h | ⟨g, cap, cur, fz, h1, h2, h3⟩
  · exact .inl h
  · exact .inr ⟨g, cap, cur, fz, h1, hr _ h2, h3⟩
theorem RowIn.shape {rows : Blocks} {v : Value} {l : List (List UInt8)} (h : RowIn rows v l) : ∃ a cap, v = .slice a l.length cap ∧ (a = none ∨ ∃ b off, a = some ⟨b, off, none⟩) ∧ l.length ≤ cap ∧ (0 < l.length ∨ a = none ∨ ∃ b off, a = some ⟨b, off, none⟩) := by
  rcases h with ⟨rfl, rfl⟩ | ⟨g, cap, cur, fz, h1, h2, h3, h4⟩
  · exact ⟨none, 0, rfl, .inl rfl, Nat.le_refl _, .inr (.inl rfl)⟩
  · exact ⟨_, cap, h1, .inr ⟨g, 0, rfl⟩, h3, .inr (.inr ⟨g, 0, rfl⟩)⟩
theorem getD_takeL {l : List (List UInt8)} {n j : Nat} (h : j < n) : (l.take n).getD j [] = l.getD j [] := by
  rw [List.getD_eq_getElem?_getD, List.getD_eq_getElem?_getD, List.getElem?_take_of_lt h]
theorem RowIn.take {rows : Blocks} {a : Option Addr} {m cap : Nat} {l : List (List UInt8)} (h : RowIn rows (.slice a m cap) l) {n : Nat} (hn : n ≤ l.length) : RowIn rows (.slice a n cap) (l.take n) := by
  have hl : (l.take n).length = n := by rw [List.length_take]; omega
  rcases h with ⟨h1, rfl⟩ | ⟨g, cap', cur, fz, h1, h2, h3, h4⟩
  · have : n = 0 := by simpa using hn
    subst this; cases h1; exact .inl ⟨rfl, by simp⟩
  · cases h1
    exact .inr ⟨g, cap, cur, fz, by rw [hl], h2, by rw [hl]; omega, fun j hj => by rw [hl] at hj; rw [getD_takeL hj]; exact h4 j (by omega)⟩
theorem RowIn.sl {w0 w : World} {L rows : Blocks} {v : Value} {l : List (List UInt8)} (h : RowIn rows v l) (hs : St w0 L w) (hin : ∀ x ∈ rows, x ∈ L) : Sl w v l.length (zstrs l) := by
  rcases h with ⟨rfl, rfl⟩ | ⟨g, cap, cur, fz, rfl, h2, h3, h4⟩
  · exact Sl.nil _ _ _ _
  · refine Sl.of (fun j hj => ?_)
    rw [cell_of_has (hs.has _ (hin _ h2)), Nat.zero_add]
    exact h4 j hj
theorem RowIn.ofRow {B m : Nat} {v : Value} {l : List (List UInt8)} {ent : Blocks} (h : Row B 9 1 v m (l.map str) ent) : RowIn ent v l := by
  have hl : l.length = m := by have := h.1; simpa using this
  rcases h.2 with ⟨rfl, rfl, _⟩ | ⟨g, cap, cur, fz, rfl, rfl, h3, h4, h5, h6, h7, h8⟩
  · exact .inl ⟨rfl, List.eq_nil_of_length_eq_zero hl⟩
  · refine .inr ⟨g, cap, cur, fz, by rw [hl], by simp, by omega, fun j hj => ?_⟩
    have h9 : (cur.toList.take (m * 1))[j]? = cur[j]? := by rw [List.getElem?_take_of_lt (by omega)]; simp
    rw [← h9, h7, List.getElem?_map]
    simp [hj]
/-! ### fill -/
def fillN (s : List UInt8) (n : Nat) : List UInt8 := (s ++ List.replicate n 0).take n
theorem fillN_len (s : List UInt8) (n : Nat) : (fillN s n).length = n := by rw [fillN, List.length_take, List.length_append, List.length_replicate]; omega
theorem row_zero {B E b n : Nat} (hB : B ≤ b) (hn : n ≤ 9223372036854775807) : Row B E 1 (.slice (some ⟨b, 0, none⟩) n n) n ((List.replicate n (0 : UInt8)).map bv) [(b, .cells ⟨List.replicate n (Value.int .u8 0)⟩ E (0, 0))] := by
  have h := Row.of_block (B := B) (E := E) (b := b) (xs := List.replicate n (Value.int .u8 0)) hB (by rw [List.length_replicate]; exact hn)
  rw [List.length_replicate] at h
  rw [List.map_replicate]; exact h
theorem fill_any (s : List UInt8) (n : Nat) (hn : n ≤ 1000) (hs : s.length ≤ 1000000) (w : World) : C Tryd.prog 69 ⟨[str s, iv n]⟩ w fun v w' => v = str (fillN s n) ∧ St w [] w' := by
  refine C_enter (n := 12) Tryd.func69 rfl rfl rfl (fun w1 hs1 => ?_)
  refine W_seq ?_
  refine W_region ?_
  refine L0 (wanted_none rfl) rfl (y_assign (v := Value.string ⟨⟨_⟩⟩) rfl rfl) ?_
  refine Lnil ?_
  refine W_seq ?_
  refine W_region ?_
  refine L0 (wanted_none rfl) rfl (y_move (v := Value.string ⟨⟨_⟩⟩) rfl rfl) ?_
  refine L0 (wanted_none rfl) rfl (y_move (v := Value.int _ _) rfl rfl) ?_
  refine Lc (wanted_none rfl) (c_makeSlice (n) hs1 rfl rfl Tryd.underlying113 sz5 zr5 by5 rfl rfl rfl (by omega) (by omega) (by omega) (fun b2 w3 hbb2 hs4 => ?_))
  refine L1 (wanted_none rfl) rfl hs4 (y_bstr rfl Tryd.underlying113 Tryd.underlying5 Tryd.underlying9 rfl (row_zero hbb2 (by omega)) (fun x hx => by first | exact hx | exact List.mem_cons.2 (.inl (List.mem_singleton.1 hx)) | simp [hx])) ?_
  refine L0 (wanted_none rfl) rfl (y_scat rfl rfl rfl (by rw [List.length_replicate]; omega)) ?_
  refine L0 (wanted_none rfl) rfl (y_move (v := Value.int _ _) rfl rfl) ?_
  refine L0 (wanted_none rfl) rfl (y_sslice_hi rfl Tryd.underlying9 rfl rfl (by rw [List.length_append, List.length_replicate]; omega)) ?_
  refine L0 (wanted_none rfl) rfl (y_assign (v := Value.string ⟨⟨_⟩⟩) rfl rfl) ?_
  refine Lnil ?_
  refine W_ret ?_
  refine fin1 (fn := Tryd.f69) rfl rfl ?_
  exact ⟨rfl, hs4.drop (.inl hbb2)⟩
/-! ### small ones -/
def zpickOf (a n : Int) : Int := (a % 18446744073709551616) % n
theorem zpickOf_range {a n : Int} (h : 0 < n) : 0 ≤ zpickOf a n ∧ zpickOf a n < n := ⟨Int.emod_nonneg _ (by omega), Int.emod_lt_of_pos _ h⟩
theorem zu64of_nat (a : Int) : ((u64of a).toNat : Int) = a % 18446744073709551616 := by simp [u64of]; omega
theorem zpick_eq {a n : Int} (h : 0 < n) (hn : n ≤ 9223372036854775807) : IntKind.i64.wrap ((u64of a % u64of n).toNat : Int) = zpickOf a n := by
  have h1 : ((u64of a % u64of n).toNat : Int) = zpickOf a n := by
    rw [UInt64.toNat_mod, Int.natCast_emod, zu64of_nat, zu64of_nat, Int.emod_eq_of_lt (a := n) (by omega) (by omega)]; rfl
  have := zpickOf_range (a := a) h
  rw [h1, wrap_i64 (by omega)]
theorem zpick_any (a n : Int) (h : 0 < n) (hn : n ≤ 9223372036854775807) (w : World) :
    C Tryd.prog 14 ⟨[iv a, iv n]⟩ w fun v w' => v = iv (zpickOf a n) ∧ St w [] w' := by
  have hne : u64of n ≠ 0 := by
    intro h0
    have h1 := zu64of_nat n
    rw [h0, Int.emod_eq_of_lt (by omega) (by omega)] at h1
    simp at h1; omega
  refine C_enter (n := 11) Tryd.func14 rfl rfl rfl (fun w1 hs1 => ?_)
  refine W_seq ?_
  refine W_region ?_
  refine L0 (wanted_none rfl) rfl (y_assign (v := Value.int _ _) rfl rfl) ?_
  refine Lnil ?_
  refine W_seq ?_
  refine W_region ?_
  refine L0 (wanted_none rfl) rfl (y_move (v := Value.int _ _) rfl rfl) ?_
  refine L0 (wanted_none rfl) rfl (y_cito64 rfl Tryd.underlying3 Tryd.underlying105 rfl) ?_
  refine L0 (wanted_none rfl) rfl (y_move (v := Value.int _ _) rfl rfl) ?_
  refine L0 (wanted_none rfl) rfl (y_cito64 rfl Tryd.underlying3 Tryd.underlying105 rfl) ?_
  refine L0 (wanted_none rfl) rfl (y_rem64u rfl rfl rfl (by assumption)) ?_
  refine L0 (wanted_none rfl) rfl (y_conv rfl Tryd.underlying105 Tryd.underlying3 rfl) ?_
  refine L0 (wanted_none rfl) rfl (y_assign (v := Value.int _ _) rfl rfl) ?_
  refine Lnil ?_
  refine W_ret ?_
  refine fin1 (fn := Tryd.f14) rfl rfl ?_
  exact ⟨congrArg iv (zpick_eq h hn), hs1⟩
theorem clip_any (a : Option Addr) (m cap : Nat) (h : m ≤ cap) (ha : a = none ∨ ∃ b off, a = some ⟨b, off, none⟩) (w : World) : C Tryd.prog 68 ⟨[.slice a m cap]⟩ w fun v w' => v = .slice a m m ∧ St w [] w' := by
  refine C_enter (n := 9) Tryd.func68 rfl rfl rfl (fun w1 hs1 => ?_)
  refine W_seq ?_
  refine W_region ?_
  refine L0 (wanted_none rfl) rfl (y_assign (v := Value.slice _ _ _) rfl rfl) ?_
  refine Lnil ?_
  refine W_seq ?_
  refine W_region ?_
  refine L0 (wanted_none rfl) rfl (y_move (v := Value.slice _ _ _) rfl rfl) ?_
  refine L0 (wanted_none rfl) rfl (y_move (v := Value.slice _ _ _) rfl rfl) ?_
  refine L0 (wanted_none rfl) rfl (y_slen rfl Tryd.underlying22 rfl) ?_
  refine L0 (wanted_none rfl) rfl (y_move (v := Value.slice _ _ _) rfl rfl) ?_
  refine L0 (wanted_none rfl) rfl (y_slen rfl Tryd.underlying22 rfl) ?_
  refine L0 (wanted_none rfl) rfl (y_slClip rfl Tryd.underlying22 sz9 rfl ha rfl rfl h) ?_
  refine L0 (wanted_none rfl) rfl (y_assign (v := Value.slice _ _ _) rfl rfl) ?_
  refine Lnil ?_
  refine W_ret ?_
  refine fin1 (fn := Tryd.f68) rfl rfl ?_
  exact ⟨rfl, hs1⟩
theorem zequal_any (l : List (List UInt8)) (va vb : Value) (hl : l.length ≤ 1000) (w : World) (hSa : Sl w va l.length (zstrs l)) (hSb : Sl w vb l.length (zstrs l)) :
    C Tryd.prog 99 ⟨[va, vb]⟩ w fun v w' => v = .bool true ∧ St w [] w' := by
  refine C_enter (n := 26) Tryd.func99 rfl rfl rfl (fun w1 hs1 => ?_)
  refine W_seq ?_
  refine W_region ?_
  refine L0 (wanted_none rfl) rfl (y_assign (v := Value.bool _) rfl rfl) ?_
  refine Lnil ?_
  refine W_seq ?_
  refine W_seq ?_
  refine W_region ?_
  refine L0 (wanted_none rfl) rfl (y_move (v := va) rfl rfl) ?_
  refine L0 (wanted_none rfl) rfl (y_slenSl rfl Tryd.underlying22 rfl hSa) ?_
  refine L0 (wanted_none rfl) rfl (y_move (v := vb) rfl rfl) ?_
  refine L0 (wanted_none rfl) rfl (y_slenSl rfl Tryd.underlying22 rfl hSb) ?_
  refine L0 (wanted_none rfl) rfl (y_ne rfl rfl rfl) ?_
  refine Lnil ?_
  refine Wkn (t := 10) (b0 := false) rfl (by exact bnF rfl) (fun h2 => ?_)
  refine W_condF rfl h2 ?_
  refine W_skip ?_
  refine W_seq ?_
  refine W_seq ?_
  refine W_region ?_
  refine L0 (wanted_none rfl) rfl (y_move (v := va) rfl rfl) ?_
  refine L0 (wanted_none rfl) rfl (y_slenSl rfl Tryd.underlying22 rfl hSa) ?_
  refine L0 (wanted_none rfl) rfl (y_move (v := Value.int _ _) rfl rfl) ?_
  refine Lnil ?_
  refine W_block ?_
  refine W_loop (G := Nat) (fun i aL wl => ∃ e, aL = A 26 ((13, iv i) :: (12, iv l.length) :: (0, va) :: (1, vb) :: e) ∧ i ≤ l.length ∧ St w [] wl) (fun i => l.length - i) (0) ?_ ?_
  · exact ⟨_, A_pins _ _ [13, 12, 0, 1], Nat.zero_le _, hs1⟩
  rintro i _ w3 ⟨ehs4, rfl, hi, hs4⟩
  refine W_seq ?_
  refine W_region ?_
  refine L0 (wanted_none rfl) rfl (y_lt rfl rfl rfl) ?_
  refine Lnil ?_
  refine W_seq ?_
  refine Wsp (t := 14) rfl (fun h5 => ?_) (fun h5 => ?_)
  · have h5' := h5
    first | replace h5' := of_decide_eq_true h5' | replace h5' := bnT' h5' | skip
    refine W_condT rfl h5 ?_
    refine W_skip ?_
    refine W_seq ?_
    refine W_block ?_
    refine W_seq ?_
    refine W_region ?_
    refine L0 (wanted_none rfl) rfl (y_move (v := Value.int _ _) rfl rfl) ?_
    refine L0 (wanted_none rfl) rfl (y_assign (v := Value.int _ _) rfl rfl) ?_
    refine Lnil ?_
    refine W_seq ?_
    refine W_drawSt [(0, 0), (0, 1), (0, 4), (0, 5), (0, 2), (0, 6), (1, 3), (1, 7), (0, 8)] hs4 mixed (by kernel_rfl) (fun w6 hs7 => ?_)
    refine E0 (wanted_none rfl) rfl (y_move (v := va) rfl rfl) ?_
    refine E0 (wanted_none rfl) rfl (y_move (v := Value.int _ _) rfl rfl) ?_
    refine E0 (wanted_none rfl) rfl (y_move (v := vb) rfl rfl) ?_
    refine E0 (wanted_none rfl) rfl (y_move (v := Value.int _ _) rfl rfl) ?_
    refine E0 (wanted_none rfl) rfl (y_indexSlAt rfl Tryd.underlying22 sz9 rfl rfl hSa (by omega) (by omega)) ?_
    refine E0 (wanted_none rfl) rfl (y_indexSlAt rfl Tryd.underlying22 sz9 rfl rfl hSb (by omega) (by omega)) ?_
    refine E1 hs7 (wanted_none rfl) rfl (y_loadSl i rfl Tryd.underlying9 rfl rfl hSa (by omega) (by omega) (by intro k hk; first | (simp [keys] at hk; done) | (simp [keys] at hk; omega))) ?_
    refine E1 hs7 (wanted_none rfl) rfl (y_loadSl i rfl Tryd.underlying9 rfl rfl hSb (by omega) (by omega) (by intro k hk; first | (simp [keys] at hk; done) | (simp [keys] at hk; omega))) ?_
    refine E0 (wanted_none rfl) rfl (y_sne rfl rfl rfl) ?_
    refine Enil ?_
    refine Wkn (t := 24) (b0 := false) rfl (by exact bnF rfl) (fun h8 => ?_)
    refine W_condF rfl h8 ?_
    refine W_skip ?_
    refine W_region ?_
    refine L0 (wanted_none rfl) rfl (y_add64 rfl rfl rfl (by omega)) ?_
    refine L0 (wanted_none rfl) rfl (y_move (v := Value.int _ _) rfl rfl) ?_
    refine Lnil ?_
    exact ⟨i + 1, by first | omega | (dsimp only; done) | (dsimp only; omega), _, A_c (iv_eq (by first | omega | (dsimp only; done) | (dsimp only; omega))) (A_c rfl (A_c rfl (A_c rfl (rfl)))), by omega, hs7⟩
  · have h5' := h5
    first | replace h5' := of_decide_eq_false h5' | replace h5' := bnF' h5' | skip
    refine W_condF rfl h5 ?_
    refine W_exit ?_
    refine W_seq ?_
    refine W_region ?_
    refine L0 (wanted_none rfl) rfl (y_assign (v := Value.bool _) rfl rfl) ?_
    refine Lnil ?_
    refine W_ret ?_
    refine fin1 (fn := Tryd.f99) rfl rfl ?_
    exact ⟨rfl, hs4⟩
theorem burn_neg (b : Nat) (vz : Nat → Value) (sure : Nat → Nat) (slot : Nat → List UInt8) (vw : Value) (fuse : Int) (hf : fuse < 0) (w : World) (hd : w.heap[b]? = some (.cells ⟨dcells vz sure slot vw fuse⟩ 104 (0, 0))) :
    C Tryd.prog 67 ⟨[pv b 0]⟩ w fun v w' => v = .bool true ∧ St w [] w' := by
  have hc : w.cell? ⟨b, 0 + 19, none⟩ = some (iv fuse) := by rw [cell_of_has hd]; rfl
  refine C_enter (n := 20) Tryd.func67 rfl rfl rfl (fun w1 hs1 => ?_)
  refine W_seq ?_
  refine W_region ?_
  refine L0 (wanted_none rfl) rfl (y_assign (v := Value.bool _) rfl rfl) ?_
  refine Lnil ?_
  refine W_seq ?_
  refine W_seq ?_
  refine W_region ?_
  refine L0 (wanted_none rfl) rfl (y_move (v := Value.pointer _) rfl rfl) ?_
  refine L0 (wanted_none rfl) rfl (y_nilCheck rfl rfl) ?_
  refine L0 (wanted_none rfl) rfl (y_fieldAddr rfl Tryd.underlying104 rfl sz3 rfl) ?_
  refine L1 (wanted_none rfl) rfl hs1 ((y_loadOld rfl Tryd.underlying3 rfl rfl hc (by simp [keys]))) ?_
  refine L0 (wanted_none rfl) rfl (y_gt rfl rfl rfl) ?_
  refine Lnil ?_
  refine Wkn (t := 7) (b0 := false) rfl (by first | exact decide_eq_false (by omega) | exact bnF (by omega) | (simp; omega)) (fun h2 => ?_)
  refine W_condF rfl h2 ?_
  refine W_skip ?_
  refine W_seq ?_
  refine W_region ?_
  refine L0 (wanted_none rfl) rfl (y_move (v := Value.pointer _) rfl rfl) ?_
  refine L0 (wanted_none rfl) rfl (y_nilCheck rfl rfl) ?_
  refine L0 (wanted_none rfl) rfl (y_fieldAddr rfl Tryd.underlying104 rfl sz3 rfl) ?_
  refine L1 (wanted_none rfl) rfl hs1 ((y_loadOld rfl Tryd.underlying3 rfl rfl hc (by simp [keys]))) ?_
  refine L0 (wanted_none rfl) rfl (y_lt rfl rfl rfl) ?_
  refine L0 (wanted_none rfl) rfl (y_assign (v := Value.bool _) rfl rfl) ?_
  refine Lnil ?_
  refine W_ret ?_
  refine fin1 (fn := Tryd.f67) rfl rfl ?_
  exact ⟨congrArg Value.bool (decide_eq_true hf), hs1⟩
end Go.Proofs.YtkolfgmpmnelmabDoor
