/-
  A small frame for walks, 10: maps with whole numbers for keys; structs that are built.
-/
import Derived.Test.YtkolfgmpmnelmabGreatDoorVi
import Derived.Lib.MinMax
namespace Go.Proofs.YtkolfgmpmnelmabGreatDoor.Vx
open Go

section
variable {P : Program} {p : Post} {n : Nat} {e : Env} {ds : List Deferred} {o : Oper} {x y z : Operand} {ty ty' : TypeId} {v : Value} {w0 w : World} {L : Blocks} {K : Act → World → Prop} {Q : Exit → Act → World → Prop} {kt el : TypeId} {k : IntKind} {a : Int}
theorem c_makeMap {dd : Nat} (hs : St w0 L w) (ho : o.op = .makeMap ty none) (hdst : o.dst = some dd)
    (k : ∀ b w', w0.heap.size ≤ b → St w0 ((b, .map #[] 0) :: L) w' → K (A n ((dd, .map (some b)) :: e) ds) w') : OW P o (A n e ds) w K Q := by
  refine ⟨?_⟩
  unfold Oper.wp
  simp only [A_eval, execOp, ho, Instr.makeMap, Option.map_none, newObj, Sem.run_bind, Sem.run, Sem.run_pure, Result.andThen_ok, Oper.upon, hdst, A_put]
  exact k _ _ hs.size (hs.alloc _)
theorem run_checkKey {emp : Bool} {t : TypeId} (ht : P.underlying t = some (.int k)) (m : Nat) (w : World) : (Instr.checkKey emp (m + 1) t (.int k a)).run P w = .ok () w := by
  simp [Instr.checkKey, run_underlying ht]
theorem run_findKey {t : TypeId} {es : List MapEntry} {r : Option (Nat × Value)} (ht : P.underlying t = some (.int k)) (h : Instr.findNow (.int k) (.int k a) es 0 = some r) (w : World) : (Instr.findKey t (.int k a) es).run P w = .ok r w := by
  simp only [Instr.findKey, Sem.run_bind, run_underlying ht, Result.andThen_ok, h, Sem.run_pure]
theorem c_insert {i b c : Nat} {es : Array MapEntry} (hs : St w0 L w) (ho : o.op = .insert ty x y z) (hdst : o.dst = none) (hx : opv n e x = .map (some b)) (hy : opv n e y = .int k a) (hz : opv n e z = v) (ht : P.underlying ty = some (.map kt el)) (hk : P.underlying kt = some (.int k))
    (hi : L[i]? = some (b, .map es c)) (hf : Instr.findNow (.int k) (.int k a) es.toList 0 = some none) (kk : ∀ w', St w0 (L.set i (b, .map (es.push { key := .int k a, val := v, born := c }) (c + 1))) w' → K (A n e ds) w') : OW P o (A n e ds) w K Q := by
  refine ⟨?_⟩
  have hg := hs.get i hi
  unfold Oper.wp
  simp [A_eval, execOp, ho, hx, hy, hz, Instr.mapUpdate, run_underlying ht, getObj, setObj, Sem.run, hg, run_checkKey hk, run_findKey hk hf, Oper.upon, hdst, A_put_none]
  have hlt := lt_of_has hg
  refine kk _ (hs.ofUpd i hi ⟨rfl, rfl, rfl, by simp, by simp [hlt], fun j hj => ?_⟩)
  simp only [Array.getElem?_setIfInBounds]
  rw [if_neg (fun he => hj he.symm)]
theorem y_max {a b : Int} {t1 t2 : TypeId} (ho : o.op = .call { callee := .builtin .max, args := #[x, y], argTypes := #[t1, t2] }) (hx : opv n e x = iv a) (hy : opv n e y = iv b) : Y0 P n e o (iv (max a b)) := fun w => by
  simp only [execOp, ho, resolve, invoke, builtin, Sem.run_bind, Sem.run_pure, Result.andThen_ok, List.map_toArray, List.map_cons, List.map_nil, hx, hy, Lib.run_max_ints]
theorem y_min {a b : Int} {t1 t2 : TypeId} (ho : o.op = .call { callee := .builtin .min, args := #[x, y], argTypes := #[t1, t2] }) (hx : opv n e x = iv a) (hy : opv n e y = iv b) : Y0 P n e o (iv (min a b)) := fun w => by
  simp only [execOp, ho, resolve, invoke, builtin, Sem.run_bind, Sem.run_pure, Result.andThen_ok, List.map_toArray, List.map_cons, List.map_nil, hx, hy, Lib.run_min_ints]
theorem y_buildS1 {fs : Array Field} {f : Field} {z0 v0 : Value} {x0 : Operand} (ho : o.op = .build ty #[(0, x0)]) (ht : P.underlying ty = some (.struct fs)) (hfs : fs = #[f]) (hoff : f.offset = 0) (hsz : (P.info? f.type).map (·.size) = some 1) (hz : (P.info? ty).bind (·.zero) = some (.agg ⟨[z0]⟩)) (h0 : opv n e x0 = v0) (k0 : v0.oneCell' = true) : Y0 P n e o (.agg ⟨[v0]⟩) := fun w => by
  subst hfs
  have hc : (Value.agg ⟨[z0]⟩).cells = #[z0] := rfl
  simp [execOp, ho, Instr.build, run_underlying ht, run_zeroValue' hz, run_sizeOf' hsz, hoff, h0, Instr.fill, cells_one k0, hc]
theorem y_lookup {i b c : Nat} {es : Array MapEntry} {u : Value} {j : Nat} (ho : o.op = .lookup ty x y true) (ht : P.underlying ty = some (.map kt el)) (hk : P.underlying kt = some (.int k)) (hx : opv n e x = .map (some b)) (hy : opv n e y = .int k a) (hi : L[i]? = some (b, .map es c)) (hf : Instr.findNow (.int k) (.int k a) es.toList 0 = some (some (j, u))) :
    Y1 P n e o (St w0 L) (.tuple #[u, .bool true]) := fun w hs => by
  have hg := hs.get i hi
  simp [execOp, ho, hx, hy, Instr.lookup, run_underlying ht, getObj, Sem.run, hg, run_checkKey hk, run_findKey hk hf]
theorem y_lookupNo {i b c : Nat} {es : Array MapEntry} {u : Value} (ho : o.op = .lookup ty x y true) (ht : P.underlying ty = some (.map kt el)) (hk : P.underlying kt = some (.int k)) (hz : (P.info? el).bind (·.zero) = some u) (hx : opv n e x = .map (some b)) (hy : opv n e y = .int k a) (hi : L[i]? = some (b, .map es c)) (hf : Instr.findNow (.int k) (.int k a) es.toList 0 = some none) :
    Y1 P n e o (St w0 L) (.tuple #[u, .bool false]) := fun w hs => by
  have hg := hs.get i hi
  simp [execOp, ho, hx, hy, Instr.lookup, run_underlying ht, getObj, Sem.run, hg, run_checkKey hk, run_findKey hk hf, run_zeroValue' hz]
end
end Go.Proofs.YtkolfgmpmnelmabGreatDoor.Vx
