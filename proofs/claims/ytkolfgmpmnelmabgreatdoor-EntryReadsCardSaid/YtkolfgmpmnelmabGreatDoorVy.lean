/-
  A small frame: slices of structs, maps that are asked and told, strings that are compared.
-/
import Derived.Test.YtkolfgmpmnelmabGreatDoorVo
import Derived.Test.YtkolfgmpmnelmabGreatDoorVp
import Derived.Test.YtkolfgmpmnelmabGreatDoorVs
namespace Go.Proofs.YtkolfgmpmnelmabGreatDoor.Ent
open Go Vx Go.Proofs
set_option linter.unusedVariables false
theorem _root_.Go.Proofs.YtkolfgmpmnelmabGreatDoor.Vx.Sl.oneE {w : World} {v : Value} {m : Nat} {f : Nat → Value} (h : Sl w v m f) : v.oneCell' = true := by
  obtain ⟨a, cap, h1, _⟩ := h.shape
  rw [h1]; rfl
section
variable {P : Program} {n : Nat} {e : Env} {o : Oper} {x y : Operand} {ty : TypeId} {w0 : World} {L : Blocks} {d : TypeDesc}
theorem y_indexOps {v : Value} {m s el : Nat} {k : IntKind} {i : Int} (ho : o.op = .indexAddr ty x y) (ht : P.underlying ty = some (.slice el)) (hs : (P.info? el).map (·.size) = some s) (hx : opv n e x = v) (hy : opv n e y = .int k i) (h : ∃ a cap, v = .slice a m cap ∧ (0 < m → a = some ⟨adB v, adO v, none⟩)) (h0 : 0 ≤ i) (h1 : i < m) : Y0 P n e o (pv (adB v) (adO v + i.toNat * s)) := by
  obtain ⟨a, cap, h2, h3⟩ := h
  rw [h2, h3 (by omega)] at hx
  exact y_indexSl ho ht hs hx hy h0 h1
theorem y_loadNOld {s b off : Nat} {vs : List Value} (ho : o.op = .load ty x) (ht : P.underlying ty = some d) (hd : isAggB d = true) (hsz : (P.info? ty).map (·.size) = some s) (hx : opv n e x = pv b off) (hc : ∀ q u, vs[q]? = some u → w0.cell? ⟨b, off + q, none⟩ = some u) (hl : vs.length = s) (h0 : 0 < s) (hb : b ∉ keys L) : Y1 P n e o (St w0 L) (.agg ⟨vs⟩) := fun w hs => by
  have hlt : b < w0.heap.size := by
    have h1 := hc 0 vs[0] (List.getElem?_eq_getElem (by omega))
    rcases Nat.lt_or_ge b w0.heap.size with h | h
    · exact h
    · simp [World.cell?, Array.getElem?_eq_none h] at h1
  have h1 : (loadCells ⟨b, off, none⟩ s).run P w = .ok ⟨vs⟩ w := by
    have := run_loadCells_list (P := P) w ⟨b, off, none⟩ vs (fun j u hj => by
      rw [add_lit, ← hc j u hj]
      exact World.cell?_of_block (a := ⟨b, off + j, none⟩) (hs.fr b hlt hb))
    rw [hl] at this; exact this
  have h2 : (loadVar ty ⟨b, off, none⟩).run P w = .ok (.agg ⟨vs⟩) w := by simp [loadVar, run_isAgg ht, hd, run_sizeOf' hsz, h1]
  simp only [execOp, ho, hx, Instr.loadAt, Instr.sureAddr, Sem.run_bind, Sem.run_pure, Result.andThen_ok, h2]
end
theorem _root_.Go.Proofs.YtkolfgmpmnelmabGreatDoor.Vx.St.at0E {W0 w : World} {b : Nat} {c c' : Array Value} {T : TypeId} {fz : Nat × Nat} {L : Blocks} (h : St W0 ((b, .cells c T fz) :: L) w) (e : c = c') : St W0 ((b, .cells c' T fz) :: L) w := e ▸ h
theorem freshLE {n b : Nat} {o : Obj} {L : Blocks} (hb : n ≤ b) (hL : ∀ x ∈ L, n ≤ x.1) : ∀ x ∈ (b, o) :: L, n ≤ x.1 := fun x hx => by
  rcases List.mem_cons.1 hx with rfl | hx
  · exact hb
  · exact hL x hx
theorem fr1 {n b : Nat} {o : Obj} (hb : n ≤ b) : ∀ x ∈ [(b, o)], n ≤ x.1 := freshLE hb (fun x hx => by cases hx)
theorem fr2 {n b c : Nat} {o p : Obj} (hb : n ≤ b) (hc : n ≤ c) : ∀ x ∈ [(b, o), (c, p)], n ≤ x.1 := freshLE hb (fr1 hc)
theorem fr3 {n b c d : Nat} {o p q : Obj} (hb : n ≤ b) (hc : n ≤ c) (hd : n ≤ d) : ∀ x ∈ [(b, o), (c, p), (d, q)], n ≤ x.1 := freshLE hb (fr2 hc hd)
theorem _root_.Go.Proofs.YtkolfgmpmnelmabGreatDoor.Vx.St.onlyE {w0 w : World} {x : Nat × Obj} {L : Blocks} (h : St w0 (x :: L) w) (hL : ∀ y ∈ L, w0.heap.size ≤ y.1) : St w0 [x] w := (h.perm (List.perm_append_singleton x L).symm).dropL (M := L) hL
theorem y_slenOps {P : Program} {n : Nat} {e : Env} {o : Oper} {x : Operand} {ty el : TypeId} {v : Value} {m : Nat} (ho : o.op = .call { callee := .builtin .len, args := #[x], argTypes := #[ty] }) (ht : P.underlying ty = some (.slice el)) (hx : opv n e x = v) (h : ∃ a cap, v = .slice a m cap ∧ (0 < m → a = some ⟨adB v, adO v, none⟩)) : Y0 P n e o (iv m) := by
  obtain ⟨a, cap, h1, _⟩ := h
  rw [h1] at hx; exact y_slen ho ht hx
theorem old_notin {n b : Nat} {L : Blocks} (hb : b < n) (hL : ∀ x ∈ L, n ≤ x.1) : b ∉ keys L := fun hm => by
  obtain ⟨x, hx, rfl⟩ := List.mem_map.1 hm
  have := hL x hx; omega
section
variable {P : Program} {p : Post} {n : Nat} {e : Env} {ds : List Deferred} {o : Oper} {x y z : Operand} {ty ty' : TypeId} {v : Value} {w0 w : World} {L : Blocks} {K : Act → World → Prop} {Q : Exit → Act → World → Prop} {kt el : TypeId} {k : IntKind} {a : Int}
theorem c_mapUpdate {i b c : Nat} {es : Array MapEntry} (hs : St w0 L w) (ho : o.op = .mapUpdate ty x y z) (hdst : o.dst = none) (hx : opv n e x = .map (some b)) (hy : opv n e y = .int k a) (hz : opv n e z = v) (ht : P.underlying ty = some (.map kt el)) (hk : P.underlying kt = some (.int k))
    (hi : L[i]? = some (b, .map es c)) (hf : Instr.findNow (.int k) (.int k a) es.toList 0 = some none) (kk : ∀ w', St w0 (L.set i (b, .map (es.push { key := .int k a, val := v, born := c }) (c + 1))) w' → K (A n e ds) w') : OW P o (A n e ds) w K Q := by
  refine ⟨?_⟩
  have hg := hs.get i hi
  unfold Oper.wp
  simp [A_eval, execOp, ho, hx, hy, hz, Instr.mapUpdate, run_underlying ht, getObj, setObj, Sem.run, hg, run_checkKey hk, run_findKey hk hf, Oper.upon, hdst, A_put_none]
  have hlt := lt_of_has hg
  refine kk _ (hs.ofUpd i hi ⟨rfl, rfl, rfl, by simp, by simp [hlt], fun j hj => ?_⟩)
  simp only [Array.getElem?_setIfInBounds]
  rw [if_neg (fun he => hj he.symm)]
theorem y_lookupP {i b c : Nat} {es : Array MapEntry} {u r : Value} (ho : o.op = .lookup ty x y false) (ht : P.underlying ty = some (.map kt el)) (hk : P.underlying kt = some (.int k)) (hz : (P.info? el).bind (·.zero) = some u) (hx : opv n e x = .map (some b)) (hy : opv n e y = .int k a) (hi : L[i]? = some (b, .map es c)) (hf : (∃ j, Instr.findNow (.int k) (.int k a) es.toList 0 = some (some (j, r))) ∨ (Instr.findNow (.int k) (.int k a) es.toList 0 = some none ∧ r = u)) :
    Y1 P n e o (St w0 L) r := fun w hs => by
  have hg := hs.get i hi
  rcases hf with ⟨j, hf⟩ | ⟨hf, rfl⟩ <;>
  simp [execOp, ho, hx, hy, Instr.lookup, run_underlying ht, getObj, Sem.run, hg, run_checkKey hk, run_findKey hk hf, run_zeroValue' hz]
theorem y_sge {l l' : List UInt8} (ho : o.op = .binOp .geq ty x y ty') (hx : opv n e x = str l) (hy : opv n e y = str l') : Y0 P n e o (.bool (!Op.bytesLess l l')) := fun w => by
  simp only [execOp, ho, hx, hy, binOp, Op.stringOp, run_eqGuard_str, Sem.run_bind, Result.andThen_ok, Sem.run_pure, toList_str]
theorem Y0.cast {a b : Int} (h : Y0 P n e o (iv a)) (q : a = b) : Y0 P n e o (iv b) := q ▸ h
theorem y_slsliceHi {s b off m cap : Nat} {kb : IntKind} {j : Int} {hi : Operand} (ho : o.op = .slice ty x none (some hi) none) (ht : P.underlying ty = some (.slice el)) (hs : (P.info? el).map (·.size) = some s) (hx : opv n e x = .slice (some ⟨b, off, none⟩) m cap) (hhi : opv n e hi = .int kb j)
    (h : 0 ≤ j ∧ j ≤ cap) : Y0 P n e o (.slice (some ⟨b, off, none⟩) j.toNat cap) := fun w => by
  have h1 : 0 ≤ j ∧ j ≤ (cap : Int) := h
  simp only [execOp, ho, hx, hhi, Option.map_some, Option.map_none, Instr.sliceAt, Instr.slice, Instr.sliceBounds, Instr.sliceBound, asIntOf, Sem.run_bind, Sem.run_pure, Result.andThen_ok, run_underlying ht, Option.isSome_none, Bool.false_eq_true, if_false, if_pos h1, run_sizeOf' hs, add_lit]
  by_cases hc : cap = 0
  · simp [hc]
  · have hc' : ¬ (cap = (0 : Int).toNat) := by simpa using hc
    simp
theorem y_slsliceHi0 {s cap m : Nat} {kb : IntKind} {j : Int} {hi : Operand} (ho : o.op = .slice ty x none (some hi) none) (ht : P.underlying ty = some (.slice el)) (hs : (P.info? el).map (·.size) = some s) (hx : opv n e x = .slice none m cap) (hhi : opv n e hi = .int kb j)
    (h : 0 ≤ j ∧ j ≤ cap) : Y0 P n e o (.slice none j.toNat cap) := fun w => by
  have h1 : 0 ≤ j ∧ j ≤ (cap : Int) := h
  simp only [execOp, ho, hx, hhi, Option.map_some, Option.map_none, Instr.sliceAt, Instr.slice, Instr.sliceBounds, Instr.sliceBound, asIntOf, Sem.run_bind, Sem.run_pure, Result.andThen_ok, run_underlying ht, Option.isSome_none, Bool.false_eq_true, if_false, if_pos h1, run_sizeOf' hs]
  simp
end
end Go.Proofs.YtkolfgmpmnelmabGreatDoor.Ent
