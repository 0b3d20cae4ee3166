/-
  A small frame for walks, 12: make; structs and arrays of nothing but zero; what lies in a row.
-/
import Derived.Test.YtkolfgmpmnelmabGreatDoorVp
import Derived.Laws.MakeOwn
namespace Go.Proofs.YtkolfgmpmnelmabGreatDoor.Vx
open Go

theorem madeCells_one {z : Value} (n : Nat) : madeCells #[z] n = ⟨List.replicate n z⟩ := by
  apply Array.ext
  · simp [madeCells]
  · intro i h1 h2
    simp [madeCells, Nat.mod_one]
/-- A row of one cell an element, seen as a block. -/
theorem row_block {α : Type} {B E m : Nat} {v : Value} {l : List α} {f : α → Value} {ent : Blocks} (hr : Row B E 1 v m (l.map f) ent) (hm : 0 < m) (d : α) :
    ∃ g cap cur fz, v = .slice (some ⟨g, 0, none⟩) m cap ∧ ent = [(g, .cells cur E fz)] ∧ B ≤ g ∧ l.length = m ∧ Fz fz cur.size ∧ m ≤ cur.size ∧ ∀ i, i < m → cur[i]? = some (f (l.getD i d)) := by
  have hl : l.length = m := by have := hr.1; simpa using this
  rcases hr.2 with ⟨_, h, _⟩ | ⟨g, cap, cur, fz, h1, h2, h3, h4, h5, h6, h7, h8⟩
  · omega
  · refine ⟨g, cap, cur, fz, h1, h2, h3, hl, h8, by rw [h6, Nat.mul_one]; exact h4, fun i hi => ?_⟩
    have h9 : (cur.toList.take (m * 1))[i]? = cur[i]? := by rw [List.getElem?_take_of_lt (by omega)]; simp
    rw [← h9, h7, List.getElem?_map]
    simp [hl, hi]
theorem ix1 (j : Nat) : 0 + (j : Int).toNat * 1 = j := by simp
/-- A row, as a slice that comes in elsewhere. -/
theorem Row.sl {α : Type} {w0 w : World} {L ent : Blocks} {B E m : Nat} {v : Value} {l : List α} {f : α → Value} (hr : Row B E 1 v m (l.map f) ent) (hs : St w0 L w) (hin : ∀ x ∈ ent, x ∈ L) (d : α) : Sl w v m (fun j => f (l.getD j d)) := by
  have hl : l.length = m := by have := hr.1; simpa using this
  rcases hr.2 with ⟨rfl, rfl, _⟩ | ⟨g, cap, cur, fz, rfl, rfl, h3, h4, h5, h6, h7, h8⟩
  · exact Sl.nil _ _ _ _
  · refine Sl.of (fun j hj => ?_)
    rw [cell_of_has (hs.has (g, .cells cur E fz) (hin _ (by simp))), Nat.zero_add]
    have h9 : (cur.toList.take (m * 1))[j]? = cur[j]? := by rw [List.getElem?_take_of_lt (by omega)]; simp
    rw [← h9, h7, List.getElem?_map]
    simp [hl, hj]
/-- What is known, the second part forgotten. -/
theorem St.dropR {w0 w : World} {L M : Blocks} (h : St w0 (L ++ M) w) (hM : ∀ x ∈ M, w0.heap.size ≤ x.1) : St w0 L w := (h.perm List.perm_append_comm).dropL hM
theorem St.swap {w0 w : World} {L M : Blocks} (h : St w0 (L ++ M) w) : St w0 (M ++ L) w := h.perm List.perm_append_comm

section
variable {P : Program} {p : Post} {n : Nat} {e : Env} {ds : List Deferred} {o : Oper} {x y z : Operand} {ty ty' : TypeId} {v : Value} {w0 w : World} {L : Blocks} {K : Act → World → Prop} {Q : Exit → Act → World → Prop} {d : TypeDesc}
theorem c_makeSlice {dd E bytes : Nat} {k1 k2 : IntKind} {a : Int} {zz : Value} (m : Nat) (hs : St w0 L w) (ho : o.op = .makeSlice ty x y) (hdst : o.dst = some dd) (ht : P.underlying ty = some (.slice E)) (hsz : (P.info? E).map (·.size) = some 1) (hz : (P.info? E).bind (·.zero) = some zz) (hby : (P.info? E).map (·.bytes) = some bytes) (h1 : zz.oneCell' = true)
    (hx : opv n e x = .int k1 a) (hy : opv n e y = .int k2 a) (ham : a = m) (hb : m * bytes ≤ 140737488355328) (hm : m ≤ 9223372036854775807)
    (k : ∀ b w', w0.heap.size ≤ b → St w0 ((b, .cells ⟨List.replicate m zz⟩ E (0, 0)) :: L) w' → K (A n ((dd, .slice (some ⟨b, 0, none⟩) m m) :: e) ds) w') : OW P o (A n e ds) w K Q := by
  refine ⟨?_⟩
  subst ham
  obtain ⟨ii, hi, hz', hsz', hby'⟩ : ∃ ii, P.info? E = some ii ∧ ii.zero = some zz ∧ ii.size = 1 ∧ ii.bytes = bytes := by
    cases h : P.info? E with
    | none => rw [h] at hsz; cases hsz
    | some i => rw [h] at hsz hz hby; simp at hsz hz hby; exact ⟨i, rfl, hz, hsz, hby⟩
  have hbb : (ii.bytes : Int) * (m : Int) ≤ 281474976710656 := by
    have h : ((ii.bytes * m : Nat) : Int) ≤ 281474976710656 := by rw [hby', Nat.mul_comm]; omega
    rwa [Int.natCast_mul] at h
  have hrun := run_make (P := P) w ty E ii zz ht hi hz' k1 k2 m m (by omega) (Int.le_refl _) hbb (by omega)
  simp only [Int.toNat_natCast, hsz', Nat.mul_one, cells_one h1, madeCells_one] at hrun
  unfold Oper.wp
  simp only [A_eval, execOp, ho, hx, hy, Sem.run_bind, hrun, Result.andThen_ok, Sem.run_pure, Oper.upon, hdst, A_put]
  exact k _ _ hs.size (hs.alloc _)
/-- A struct, of parts. -/
theorem y_buildSG {fs : Array Field} {zs cells : List Value} {places : Array (Nat × Nat)} {parts : Array (Nat × Operand)} (ho : o.op = .build ty parts) (ht : P.underlying ty = some (.struct fs)) (hz : (P.info? ty).bind (·.zero) = some (.agg ⟨zs⟩))
    (hm : ∀ w, (fs.mapM fun f => do pure (f.offset, ← sizeOf f.type) : Sem (Array (Nat × Nat))).run P w = .ok places w)
    (hfill : Instr.fill (places[·]?) ⟨zs⟩ (parts.map fun (i, x) => (i, opv n e x)).toList = some ⟨cells⟩) : Y0 P n e o (.agg ⟨cells⟩) := fun w => by
  have hc : (Value.agg ⟨zs⟩).cells = ⟨zs⟩ := rfl
  simp only [execOp, ho, Instr.build, Sem.run_bind, run_zeroValue' hz, Result.andThen_ok, run_underlying ht]
  rw [hm w]
  simp only [Result.andThen_ok, hc, hfill, Sem.run_pure, Sem.run_bind]
/-- A struct of nothing but zero. -/
theorem y_build0 {fs : Array Field} {zs : List Value} {places : Array (Nat × Nat)} (ho : o.op = .build ty #[]) (ht : P.underlying ty = some (.struct fs)) (hz : (P.info? ty).bind (·.zero) = some (.agg ⟨zs⟩))
    (hm : ∀ w, (fs.mapM fun f => do pure (f.offset, ← sizeOf f.type) : Sem (Array (Nat × Nat))).run P w = .ok places w) : Y0 P n e o (.agg ⟨zs⟩) :=
  y_buildSG (places := places) (cells := zs) ho ht hz hm (by simp [Instr.fill])
end
end Go.Proofs.YtkolfgmpmnelmabGreatDoor.Vx
