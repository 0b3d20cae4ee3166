/-
  A small frame for walks, 5: strings, interfaces, tuples, places; loads.
-/
import Derived.Test.YtkolfgmpmnelmabGreatDoorVd
import Derived.Lib.ConvBytes
import Derived.Laws.BytesArg
import Derived.Laws.CopyRow
import Derived.Laws.AppendOwn
import Derived.Laws.Cells
namespace Go.Proofs.YtkolfgmpmnelmabGreatDoor.Vx
open Go

section
variable {P : Program} {n : Nat} {e : Env} {o : Oper} {x y z : Operand} {ty ty' : TypeId} {v : Value} {l l' : List UInt8}
theorem extract_str (l : List UInt8) (a b : Nat) : (⟨⟨l⟩⟩ : ByteArray).extract a b = ⟨⟨(l.drop a).take (b - a)⟩⟩ := by
  apply ByteArray.ext
  rw [ByteArray.data_extract]
  simp [List.extract_eq_take_drop]
theorem y_sslice {ka kb : IntKind} {a b : Int} {lo hi : Operand} (ho : o.op = .slice ty x (some lo) (some hi) none) (ht : P.underlying ty = some .string) (hx : opv n e x = str l) (hlo : opv n e lo = .int ka a) (hhi : opv n e hi = .int kb b)
    (h : 0 ≤ a ∧ a ≤ b ∧ b ≤ l.length) : Y0 P n e o (str ((l.drop a.toNat).take (b.toNat - a.toNat))) := fun w => by
  have hs : (⟨⟨l⟩⟩ : ByteArray).size = l.length := rfl
  have h1 : 0 ≤ b ∧ b ≤ (l.length : Int) := ⟨by omega, h.2.2⟩
  have h2 : 0 ≤ a ∧ a ≤ (b.toNat : Int) := ⟨h.1, by omega⟩
  simp only [execOp, ho, hx, hlo, hhi, Option.map_some, Option.map_none, Instr.sliceAt, Instr.slice, Instr.sliceBounds, Instr.sliceBound, asIntOf, Sem.run_bind, Sem.run_pure, Result.andThen_ok, run_underlying ht, Option.isSome_none, Bool.false_eq_true, if_false, hs, if_pos h1, if_pos h2, extract_str]
theorem y_sslice_lo {ka : IntKind} {a : Int} {lo : Operand} (ho : o.op = .slice ty x (some lo) none none) (ht : P.underlying ty = some .string) (hx : opv n e x = str l) (hlo : opv n e lo = .int ka a)
    (h : 0 ≤ a ∧ a ≤ l.length) : Y0 P n e o (str (l.drop a.toNat)) := fun w => by
  have hs : (⟨⟨l⟩⟩ : ByteArray).size = l.length := rfl
  simp only [execOp, ho, hx, hlo, Option.map_some, Option.map_none, Instr.sliceAt, Instr.slice, Instr.sliceBounds, Instr.sliceBound, asIntOf, Sem.run_bind, Sem.run_pure, Result.andThen_ok, run_underlying ht, Option.isSome_none, Bool.false_eq_true, if_false, hs, if_pos h, extract_str]
  rw [List.take_of_length_le (by simp)]
theorem y_sslice_hi {kb : IntKind} {b : Int} {hi : Operand} (ho : o.op = .slice ty x none (some hi) none) (ht : P.underlying ty = some .string) (hx : opv n e x = str l) (hhi : opv n e hi = .int kb b)
    (h : 0 ≤ b ∧ b ≤ l.length) : Y0 P n e o (str (l.take b.toNat)) := fun w => by
  have hs : (⟨⟨l⟩⟩ : ByteArray).size = l.length := rfl
  simp only [execOp, ho, hx, hhi, Option.map_some, Option.map_none, Instr.sliceAt, Instr.slice, Instr.sliceBounds, Instr.sliceBound, asIntOf, Sem.run_bind, Sem.run_pure, Result.andThen_ok, run_underlying ht, Option.isSome_none, Bool.false_eq_true, if_false, hs, if_pos h, extract_str, List.drop_zero, Nat.sub_zero]
theorem append_str (l l' : List UInt8) : (⟨⟨l⟩⟩ : ByteArray) ++ ⟨⟨l'⟩⟩ = ⟨⟨l ++ l'⟩⟩ := by
  apply ByteArray.ext
  simp [ByteArray.data_append]
theorem y_scat (ho : o.op = .binOp .add ty x y ty') (hx : opv n e x = str l) (hy : opv n e y = str l') (h : l.length + l'.length ≤ 9223372036854775807) : Y0 P n e o (str (l ++ l')) := fun w => by
  have hs : ∀ l : List UInt8, (⟨⟨l⟩⟩ : ByteArray).size = l.length := fun _ => rfl
  have hm : ¬ (((l.length + l'.length : Nat) : Int) > IntKind.i64.max) := by simp [IntKind.max, IntKind.signed, IntKind.bits]; omega
  simp only [execOp, ho, hx, hy, binOp, Op.stringOp, run_eqGuard_str, Sem.run_bind, Result.andThen_ok, hs, if_neg hm, Sem.run_pure, append_str]
theorem toList_str (l : List UInt8) : (⟨⟨l⟩⟩ : ByteArray).toList = l := by rw [ByteArray.toList_eq]
theorem y_seq (ho : o.op = .binOp .eql ty x y ty') (hx : opv n e x = str l) (hy : opv n e y = str l') : Y0 P n e o (.bool (decide (l = l'))) := fun w => by
  simp only [execOp, ho, hx, hy, binOp, Op.stringOp, run_eqGuard_str, Sem.run_bind, Result.andThen_ok, Sem.run_pure, toList_str]
  congr 3
  rw [Bool.eq_iff_iff]; simp
theorem y_sne (ho : o.op = .binOp .neq ty x y ty') (hx : opv n e x = str l) (hy : opv n e y = str l') : Y0 P n e o (.bool (!decide (l = l'))) := fun w => by
  simp only [execOp, ho, hx, hy, binOp, Op.stringOp, run_eqGuard_str, Sem.run_bind, Result.andThen_ok, Sem.run_pure, toList_str]
  congr 3
  rw [Bool.eq_iff_iff]; simp
/-! interfaces, tuples -/
def isIfc : TypeDesc → Bool | .interface _ => true | _ => false
theorem y_mkif {d : TypeDesc} (ho : o.op = .makeInterface ty x) (ht : P.underlying ty = some d) (hd : isIfc d = false) (hx : opv n e x = v) : Y0 P n e o (.iface ty v) := fun w => by
  cases d <;> simp_all [execOp, Instr.makeInterface, run_underlying ht, isIfc]
theorem y_extract {i : Nat} {vs : List Value} {u : Value} (ho : o.op = .extract x i) (hx : opv n e x = .tuple vs.toArray) (hi : vs[i]? = some u) : Y0 P n e o u := fun w => by
  simp [execOp, ho, hx, Instr.extract, hi]
theorem run_equal_ifnil {ms : Array (String × TypeId)} (ht : P.underlying ty = some (.interface ms)) (tx : TypeId) (v : Value) (w : World) : (Op.equal ty (.iface tx v) .nilIface).run P w = .ok false w := by
  have h : ∀ d : Nat, (Op.equalIn (d + 1) ty (.iface tx v) .nilIface).run P w = .ok false w := fun d => by simp [Op.equalIn, run_underlying ht]
  exact h 9999
theorem run_equal_nilnil {ms : Array (String × TypeId)} (ht : P.underlying ty = some (.interface ms)) (w : World) : (Op.equal ty .nilIface .nilIface).run P w = .ok true w := by
  have h : ∀ d : Nat, (Op.equalIn (d + 1) ty .nilIface .nilIface).run P w = .ok true w := fun d => by simp [Op.equalIn, run_underlying ht]
  exact h 9999
theorem run_eqGuard_if (op : BinOp) (t : TypeId) (x : Operand) (tx : TypeId) (v : Value) (w : World) : (eqGuard op t x (.const .nilIface) (.iface tx v) .nilIface).run P w = .ok () w := by
  unfold eqGuard
  cases op <;> rfl
theorem run_eqGuard_nil (op : BinOp) (t : TypeId) (x : Operand) (w : World) : (eqGuard op t x (.const .nilIface) .nilIface .nilIface).run P w = .ok () w := by
  unfold eqGuard
  cases op <;> cases x <;> rfl
theorem opv_const (n : Nat) (e : Env) (v : Value) : opv n e (.const v) = v := rfl
theorem binOp_neq_if (tx : TypeId) (v : Value) : binOp .neq ty (.iface tx v) .nilIface = (do pure (.bool (!(← Op.equal ty (.iface tx v) .nilIface)))) := rfl
theorem binOp_eql_if (tx : TypeId) (v : Value) : binOp .eql ty (.iface tx v) .nilIface = (do pure (.bool (← Op.equal ty (.iface tx v) .nilIface))) := rfl
theorem binOp_neq_nil : binOp .neq ty .nilIface .nilIface = (do pure (.bool (!(← Op.equal ty .nilIface .nilIface)))) := rfl
theorem binOp_eql_nil : binOp .eql ty .nilIface .nilIface = (do pure (.bool (← Op.equal ty .nilIface .nilIface))) := rfl
theorem y_neNil {ms : Array (String × TypeId)} {tx : TypeId} (ho : o.op = .binOp .neq ty x (.const .nilIface) ty') (ht : P.underlying ty = some (.interface ms)) (hx : opv n e x = .iface tx v) : Y0 P n e o (.bool true) := fun w => by
  simp only [execOp, ho, hx, opv_const, Sem.run_bind, run_eqGuard_if, Result.andThen_ok, binOp_neq_if, run_equal_ifnil ht, Sem.run_pure, Bool.not_false]
theorem y_neNilNil {ms : Array (String × TypeId)} (ho : o.op = .binOp .neq ty x (.const .nilIface) ty') (ht : P.underlying ty = some (.interface ms)) (hx : opv n e x = .nilIface) : Y0 P n e o (.bool false) := fun w => by
  simp only [execOp, ho, hx, opv_const, Sem.run_bind, run_eqGuard_nil, Result.andThen_ok, binOp_neq_nil, run_equal_nilnil ht, Sem.run_pure, Bool.not_true]
theorem y_eqNil {ms : Array (String × TypeId)} {tx : TypeId} (ho : o.op = .binOp .eql ty x (.const .nilIface) ty') (ht : P.underlying ty = some (.interface ms)) (hx : opv n e x = .iface tx v) : Y0 P n e o (.bool false) := fun w => by
  simp only [execOp, ho, hx, opv_const, Sem.run_bind, run_eqGuard_if, Result.andThen_ok, binOp_eql_if, run_equal_ifnil ht, Sem.run_pure]
theorem y_eqNilNil {ms : Array (String × TypeId)} (ho : o.op = .binOp .eql ty x (.const .nilIface) ty') (ht : P.underlying ty = some (.interface ms)) (hx : opv n e x = .nilIface) : Y0 P n e o (.bool true) := fun w => by
  simp only [execOp, ho, hx, opv_const, Sem.run_bind, run_eqGuard_nil, Result.andThen_ok, binOp_eql_nil, run_equal_nilnil ht, Sem.run_pure]
/-! places -/
theorem y_nilCheck {a : Addr} (ho : o.op = .nilCheck x) (hx : opv n e x = .pointer (some a)) : Y0 P n e o (.pointer (some a)) := fun w => by
  simp [execOp, ho, hx]
theorem add_lit (b off m : Nat) : (⟨b, off, none⟩ : Addr).add m = ⟨b, off + m, none⟩ := by unfold Addr.add; split <;> simp_all
theorem run_sizeOf' {t : TypeId} {s : Nat} (hs : (P.info? t).map (·.size) = some s) (w : World) : (sizeOf t).run P w = .ok s w := by
  cases hi : P.info? t with
  | none => rw [hi] at hs; cases hs
  | some i => rw [hi] at hs; simp only [Option.map_some, Option.some.injEq] at hs; simp [sizeOf, typeInfo, hi, hs]
theorem y_fieldAddr {fs : Array Field} {f : Field} {i b off s : Nat} (ho : o.op = .fieldAddr ty x i) (ht : P.underlying ty = some (.struct fs)) (hf : fs[i]? = some f) (hs : (P.info? f.type).map (·.size) = some (s + 1)) (hx : opv n e x = pv b off) : Y0 P n e o (pv b (off + f.offset)) := fun w => by
  simp only [execOp, ho, hx, Instr.fieldAt, Instr.sureAddr, fieldPlace, Sem.run_bind, Sem.run_pure, Result.andThen_ok, run_underlying ht, hf, run_sizeOf' hs, Nat.add_eq_zero_iff, Nat.one_ne_zero, and_false, if_false, add_lit]
theorem y_indexArr {m b off s : Nat} {el : TypeId} {k : IntKind} {i : Int} (ho : o.op = .indexAddr ty x y) (ht : P.underlying ty = some (.array m el)) (hs : (P.info? el).map (·.size) = some s) (hx : opv n e x = pv b off) (hy : opv n e y = .int k i) (h0 : 0 ≤ i) (h1 : i < m) : Y0 P n e o (pv b (off + i.toNat * s)) := fun w => by
  simp only [execOp, ho, hx, hy, Instr.indexAt, Instr.sureAddr, asIntOf, Sem.run_bind, Sem.run_pure, Result.andThen_ok, run_underlying ht, run_sizeOf' hs, add_lit, and_self, h0, h1, if_true]
theorem y_indexSl {m b off cap s : Nat} {el : TypeId} {k : IntKind} {i : Int} (ho : o.op = .indexAddr ty x y) (ht : P.underlying ty = some (.slice el)) (hs : (P.info? el).map (·.size) = some s) (hx : opv n e x = .slice (some ⟨b, off, none⟩) m cap) (hy : opv n e y = .int k i) (h0 : 0 ≤ i) (h1 : i < m) : Y0 P n e o (pv b (off + i.toNat * s)) := fun w => by
  simp only [execOp, ho, hx, hy, Instr.indexAt, asIntOf, Sem.run_bind, Sem.run_pure, Result.andThen_ok, run_underlying ht, run_sizeOf' hs, add_lit, and_self, h0, h1, if_true]
/-! loads -/
def isAggB : TypeDesc → Bool | .struct _ => true | .array _ _ => true | _ => false
theorem run_isAgg {t : TypeId} {d : TypeDesc} (ht : P.underlying t = some d) (w : World) : (isAgg t).run P w = .ok (isAggB d) w := by
  cases d <;> simp [isAgg, run_underlying ht, isAggB]
theorem run_loadVar1 {t : TypeId} {d : TypeDesc} (ht : P.underlying t = some d) (hd : isAggB d = false) {a : Addr} {w : World} (hc : w.cell? a = some v) : (loadVar t a).run P w = .ok v w := by
  simp [loadVar, run_isAgg ht, hd, load, Sem.run, hc]
theorem run_loadVarN {t : TypeId} {d : TypeDesc} {s b off : Nat} (ht : P.underlying t = some d) (hd : isAggB d = true) (hs : (P.info? t).map (·.size) = some s) {w : World} {c : Array Value} {T : TypeId} {fz : Nat × Nat}
    (hb : w.heap[b]? = some (.cells c T fz)) (hl : off + s ≤ c.size) : (loadVar t ⟨b, off, none⟩).run P w = .ok (.agg ⟨(c.toList.drop off).take s⟩) w := by
  have hlen : ((c.toList.drop off).take s).length = s := by simp; omega
  have h1 : (loadCells ⟨b, off, none⟩ s).run P w = .ok ⟨(c.toList.drop off).take s⟩ w := by
    have := run_loadCells_list (P := P) w ⟨b, off, none⟩ ((c.toList.drop off).take s) (fun j u hj => by
      rw [add_lit, cell_of_has hb]
      rw [List.getElem?_take] at hj
      split at hj
      · rw [List.getElem?_drop] at hj; simpa using hj
      · cases hj)
    rw [hlen] at this; exact this
  simp [loadVar, run_isAgg ht, hd, run_sizeOf' hs, h1]
variable {w0 : World} {L : Blocks} {b off : Nat} {c : Array Value} {T : TypeId} {fz : Nat × Nat} {d : TypeDesc}
theorem y_load (i : Nat) (ho : o.op = .load ty x) (ht : P.underlying ty = some d) (hd : isAggB d = false) (hx : opv n e x = pv b off) (hi : L[i]? = some (b, .cells c T fz)) (hc : c[off]? = some v) : Y1 P n e o (St w0 L) v := fun w hs => by
  have := run_loadVar1 (P := P) ht hd (a := ⟨b, off, none⟩) (w := w) (v := v) (by rw [cell_of_has (hs.get i hi)]; exact hc)
  simp only [execOp, ho, hx, Instr.loadAt, Instr.sureAddr, Sem.run_bind, Sem.run_pure, Result.andThen_ok, this]
theorem y_loadN {s : Nat} (i : Nat) (ho : o.op = .load ty x) (ht : P.underlying ty = some d) (hd : isAggB d = true) (hsz : (P.info? ty).map (·.size) = some s) (hx : opv n e x = pv b off) (hi : L[i]? = some (b, .cells c T fz)) (hc : off + s ≤ c.size) : Y1 P n e o (St w0 L) (.agg ⟨(c.toList.drop off).take s⟩) := fun w hs => by
  have := run_loadVarN (P := P) ht hd hsz (w := w) (hs.get i hi) hc
  simp only [execOp, ho, hx, Instr.loadAt, Instr.sureAddr, Sem.run_bind, Sem.run_pure, Result.andThen_ok, this]
/-- A cell that was there when the call began, and of a block that is not known. -/
theorem y_loadOld (ho : o.op = .load ty x) (ht : P.underlying ty = some d) (hd : isAggB d = false) (hx : opv n e x = pv b off) (hc : w0.cell? ⟨b, off, none⟩ = some v) (hb : b ∉ keys L) : Y1 P n e o (St w0 L) v := fun w hs => by
  have hlt : b < w0.heap.size := by
    rcases Nat.lt_or_ge b w0.heap.size with h | h
    · exact h
    · simp [World.cell?, Array.getElem?_eq_none h] at hc
  have h1 : w.cell? ⟨b, off, none⟩ = some v := by rw [← hc]; exact World.cell?_of_block (hs.fr b hlt hb)
  have := run_loadVar1 (P := P) ht hd (a := ⟨b, off, none⟩) (w := w) (v := v) h1
  simp only [execOp, ho, hx, Instr.loadAt, Instr.sureAddr, Sem.run_bind, Sem.run_pure, Result.andThen_ok, this]
/-! A slice that the call owns -/
def Fz (fz : Nat × Nat) (m : Nat) : Prop := ∀ j, j < m → ¬ (fz.1 ≤ j ∧ j < fz.2)
theorem Fz.zero (m : Nat) : Fz (0, 0) m := fun _ _ h => by omega
theorem Fz.at_end (m : Nat) : Fz (m, m + 1) m := fun _ _ h => by simp at h; omega
def Row (B E size : Nat) (v : Value) (m : Nat) (xs : List Value) (ent : Blocks) : Prop :=
  xs.length = m * size ∧ ((v = .slice none 0 0 ∧ m = 0 ∧ ent = []) ∨ ∃ g cap cur fz, v = .slice (some ⟨g, 0, none⟩) m cap ∧ ent = [(g, .cells cur E fz)] ∧ B ≤ g ∧ m ≤ cap ∧ cap ≤ maxLen ∧ cur.size = cap * size ∧ cur.toList.take (m * size) = xs ∧ Fz fz cur.size)
theorem Row.nil (B E size : Nat) : Row B E size (.slice none 0 0) 0 [] [] := ⟨by simp, .inl ⟨rfl, rfl, rfl⟩⟩
theorem Row.new {B E size : Nat} {v : Value} {m : Nat} {xs : List Value} {ent : Blocks} (h : Row B E size v m xs ent) : ∀ x ∈ ent, B ≤ x.1 := by
  rcases h.2 with ⟨_, _, h3⟩ | ⟨g, cap, cur, fz, _, h2, h3, _⟩
  · rw [h3]; intro x hx; cases hx
  · rw [h2]; intro x hx; simp only [List.mem_singleton] at hx; subst hx; exact h3
theorem Row.of_block {B E : Nat} {b : Nat} {xs : List Value} (hB : B ≤ b) (hl : xs.length ≤ 9223372036854775807) : Row B E 1 (.slice (some ⟨b, 0, none⟩) xs.length xs.length) xs.length xs [(b, .cells ⟨xs⟩ E (0, 0))] :=
  ⟨by simp, .inr ⟨b, xs.length, ⟨xs⟩, (0, 0), rfl, rfl, hB, Nat.le_refl _, hl, by simp, by simp, Fz.zero _⟩⟩
/-- string(b), of bytes that the call owns. -/
theorem y_bstr {E : TypeId} {m : Nat} {ent : Blocks} (ho : o.op = .convert ty ty' x) (hs : P.underlying ty = some (.slice E)) (he : P.underlying E = some (.int .u8)) (ht : P.underlying ty' = some .string) (hx : opv n e x = v)
    {B : Nat} (hr : Row B E 1 v m (l.map bv) ent) (hent : ∀ x ∈ ent, x ∈ L) : Y1 P n e o (St w0 L) (str l) := fun w hst => by
  have hml : m = l.length := by have := hr.1; simp at this; omega
  rcases hr.2 with ⟨h1, h2, h3⟩ | ⟨g, cap, cur, fz, h1, h2, h3⟩
  · have hl : l = [] := by cases l <;> simp_all
    subst hl
    simp only [execOp, ho, hx, h1, Sem.run_bind, run_convert_bytes_string w ty ty' E none 0 0 hs he ht, Conv.bytesToString, Sem.run_pure, Result.andThen_ok]
    rfl
  · have hg := hst.has (g, .cells cur E fz) (hent _ (by rw [h2]; simp))
    have h4 : (loadCells ⟨g, 0, none⟩ m).run P w = .ok ((l.map fun b : UInt8 => (b.toNat : Int)).map (Value.int .u8)).toArray w := by
      have := run_loadCells_list (P := P) w ⟨g, 0, none⟩ (l.map bv) (fun j u hj => by
        rw [add_lit, cell_of_has hg, Nat.zero_add]
        rw [← h3.2.2.2.2.1, Nat.mul_one, List.getElem?_take] at hj
        split at hj
        · simpa using hj
        · cases hj)
      rw [List.length_map, ← hml] at this
      rw [this, List.map_map]; rfl
    have h5 := run_bytesToString (P := P) w ⟨g, 0, none⟩ m cap _ h4
    simp only [execOp, ho, hx, h1, Sem.run_bind, run_convert_bytes_string w ty ty' E (some ⟨g, 0, none⟩) m cap hs he ht, h5, Sem.run_pure, Result.andThen_ok]
    congr 3
    rw [foldl_push_bytes]
    simp only [List.map_map]
    apply ByteArray.ext
    simp
    show List.map ((fun n : Int => UInt8.ofNat n.toNat) ∘ fun b : UInt8 => (b.toNat : Int)) l = l
    conv => rhs; rw [← List.map_id l]
    apply List.map_congr_left
    intro b _
    simp
end
end Go.Proofs.YtkolfgmpmnelmabGreatDoor.Vx
