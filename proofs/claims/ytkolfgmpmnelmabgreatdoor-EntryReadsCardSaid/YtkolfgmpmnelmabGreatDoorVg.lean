/-
  A small frame for walks, 7: bytes of a string, whole numbers without a sign.
-/
import Derived.Test.YtkolfgmpmnelmabGreatDoorVf
namespace Go.Proofs.YtkolfgmpmnelmabGreatDoor.Vx
open Go

/-- The bytes l lie at the head of a block that the call owns. -/
structure Bytes (B b cap : Nat) (cur : Array Value) (fz : Nat × Nat) (l : List UInt8) : Prop where
  new : B ≤ b
  room : l.length ≤ cap
  max : cap ≤ maxLen
  size : cur.size = cap
  take : cur.toList.take l.length = l.map bv
  fz : Fz fz cur.size
theorem Bytes.row {B E b cap : Nat} {cur : Array Value} {fz : Nat × Nat} {l : List UInt8} (h : Bytes B b cap cur fz l) : Row B E 1 (.slice (some ⟨b, 0, none⟩) l.length cap) l.length (l.map bv) [(b, .cells cur E fz)] :=
  ⟨by simp, .inr ⟨b, cap, cur, fz, rfl, rfl, h.new, h.room, h.max, by rw [h.size, Nat.mul_one], by rw [Nat.mul_one]; exact h.take, h.fz⟩⟩
theorem Bytes.get {B b cap : Nat} {cur : Array Value} {fz : Nat × Nat} {l : List UInt8} (h : Bytes B b cap cur fz l) {i : Nat} (hi : i < l.length) : cur[i]? = some (bv (l.getD i 0)) := by
  have h1 : (cur.toList.take l.length)[i]? = cur[i]? := by rw [List.getElem?_take_of_lt hi]; simp
  rw [← h1, h.take, List.getElem?_map]
  simp [hi]
theorem Bytes.set {B b cap : Nat} {cur : Array Value} {fz : Nat × Nat} {l : List UInt8} (h : Bytes B b cap cur fz l) (i : Nat) (x : UInt8) : Bytes B b cap (cur.setIfInBounds i (bv x)) fz (l.set i x) :=
  ⟨h.new, by rw [List.length_set]; exact h.room, h.max, by rw [Array.size_setIfInBounds]; exact h.size, by
    rw [List.length_set, Array.toList_setIfInBounds, List.take_set, h.take, List.map_set], by rw [Array.size_setIfInBounds]; exact h.fz⟩

section
variable {P : Program} {p : Post} {n : Nat} {e : Env} {ds : List Deferred} {o : Oper} {x y z : Operand} {ty ty' : TypeId} {v : Value} {w0 w : World} {L : Blocks} {K : Act → World → Prop} {Q : Exit → Act → World → Prop} {l : List UInt8}
theorem c_tobytes {dd E : Nat} (hs : St w0 L w) (ho : o.op = .convert ty ty' x) (hdst : o.dst = some dd) (ht : P.underlying ty = some .string) (hd : P.underlying ty' = some (.slice E)) (he : P.underlying E = some (.int .u8)) (hx : opv n e x = str l) (hl : l.length ≤ 9223372036854775807)
    (k : ∀ b cap cur fz w', Bytes w0.heap.size b cap cur fz l → St w0 ((b, .cells cur E fz) :: L) w' → K (A n ((dd, .slice (some ⟨b, 0, none⟩) l.length cap) :: e) ds) w') : OW P o (A n e ds) w K Q := by
  refine ⟨?_⟩
  have hsz : (⟨⟨l⟩⟩ : ByteArray).size = l.length := rfl
  have hge := grownCap_ge w l.length 0 E
  have hcm := grownCap_le_maxLen w l.length 0 E hl
  have hcs : (Lib.bytesCells w E ⟨⟨l⟩⟩).size = grownCap w l.length 0 E := by
    simp only [Lib.bytesCells, Array.size_append, Array.size_map, Array.size_replicate, hsz]
    show l.length + _ = _
    omega
  have hct : (Lib.bytesCells w E ⟨⟨l⟩⟩).toList.take l.length = l.map bv := by
    simp only [Lib.bytesCells, Array.toList_append, Array.toList_map]
    rw [List.take_append_of_le_length (by simp), List.take_of_length_le (by simp)]
  unfold Oper.wp
  simp only [A_eval, execOp, ho, hx, Sem.run_bind, Lib.run_convert_string_bytes w ty ty' E ⟨⟨l⟩⟩ ht hd he, Result.andThen_ok, Sem.run_pure, Oper.upon, hdst, A_put, hsz]
  refine k _ _ (Lib.bytesCells w E ⟨⟨l⟩⟩) ((Lib.bytesCells w E ⟨⟨l⟩⟩).size, (Lib.bytesCells w E ⟨⟨l⟩⟩).size + 1) _ ⟨hs.size, hge, hcm, hcs, hct, Fz.at_end _⟩ ?_
  have ha := (hs.drewN (w.drawn + 1)).alloc (.cells (Lib.bytesCells w E ⟨⟨l⟩⟩) E (0, 0))
  refine ha.ofUpd 0 rfl ⟨rfl, rfl, rfl, ?_, Lib.bytesWorld_at_new w E _, fun j hj => ?_⟩
  · rw [Lib.bytesWorld_size]; simp
  · rcases Nat.lt_or_ge j w.heap.size with h | h
    · rw [Lib.bytesWorld_at_old w E _ j h]
      show _ = (w.heap.push _)[j]?
      rw [Array.getElem?_push, if_neg (by omega)]
    · have hj' : w.heap.size ≠ j := fun h => hj h.symm
      rw [Array.getElem?_eq_none (by rw [Lib.bytesWorld_size]; omega)]
      show _ = (w.heap.push _)[j]?
      rw [Array.getElem?_eq_none (by simp; omega)]
theorem y_rem64u {q q' : UInt64} (ho : o.op = .binOp .rem ty x y ty') (hx : opv n e x = qv q) (hy : opv n e y = qv q') (h : q' ≠ 0) : Y0 P n e o (qv (q % q')) := by
  have h0 : ((q'.toNat : Nat) : Int) ≠ 0 := by
    intro h'; apply h; apply UInt64.toNat_inj.1; simpa using h'
  have := y_rem (P := P) ho hx hy h0
  rw [Int.tmod_eq_emod_of_nonneg (by omega)] at this
  have h1 : (q.toNat : Int) % q'.toNat = ((q % q').toNat : Int) := by rw [UInt64.toNat_mod]; rfl
  rw [h1] at this; exact this
end
end Go.Proofs.YtkolfgmpmnelmabGreatDoor.Vx
