/-
  A small frame for walks, 6: operations that turn the world: stores, new blocks, append, calls.
-/
import Derived.Test.YtkolfgmpmnelmabGreatDoorVe
namespace Go.Proofs.YtkolfgmpmnelmabGreatDoor.Vx
open Go

/-- One block is another one; all else is as it was. -/
structure Upd (w w' : World) (g : Nat) (o : Obj) : Prop where
  os : w'.os = w.os
  tape : w'.tape = w.tape
  output : w'.output = w.output
  size : w'.heap.size = w.heap.size
  self : w'.heap[g]? = some o
  oth : ∀ k, k ≠ g → w'.heap[k]? = w.heap[k]?
theorem St.ofUpd {w0 w w' : World} {L : Blocks} (h : St w0 L w) (i : Nat) {b : Nat} {o o' : Obj} (hi : L[i]? = some (b, o)) (hu : Upd w w' b o') : St w0 (L.set i (b, o')) w' :=
  h.upd i hi hu.os hu.tape hu.output (by rw [hu.size]; exact Nat.le_refl _) hu.self (fun k _ hne => hu.oth k hne)
theorem upd_setCell {w : World} {g off : Nat} {c : Array Value} {T : TypeId} {fz : Nat × Nat} (h : w.heap[g]? = some (.cells c T fz)) (v : Value) : Upd w (w.setCell ⟨g, off, none⟩ v) g (.cells (c.setIfInBounds off v) T fz) := by
  refine ⟨rfl, rfl, rfl, by simp [World.setCell], ?_, fun k hne => ?_⟩
  · simp only [World.setCell]
    rw [heap_modify_self _ h]; simp
  · simp only [World.setCell, Array.getElem?_modify]
    rw [if_neg (fun he => hne he.symm)]
theorem Upd.trans {w w1 w2 : World} {g : Nat} {o1 o2 : Obj} (h : Upd w w1 g o1) (h' : Upd w1 w2 g o2) : Upd w w2 g o2 :=
  ⟨h'.os.trans h.os, h'.tape.trans h.tape, h'.output.trans h.output, h'.size.trans h.size, h'.self, fun k hne => (h'.oth k hne).trans (h.oth k hne)⟩
theorem frozen_of_has {w : World} {b off : Nat} {c : Array Value} {T : TypeId} {fz : Nat × Nat} (h : w.heap[b]? = some (.cells c T fz)) (hf : Fz fz c.size) (ho : off < c.size) : w.frozen? ⟨b, off, none⟩ = false := by
  obtain ⟨lo, hi⟩ := fz
  simp only [World.frozen?, h]
  have := hf off ho
  simp only [Bool.and_eq_false_iff, decide_eq_false_iff_not]
  by_cases h1 : lo ≤ off
  · right; exact fun h2 => this ⟨h1, h2⟩
  · left; exact h1
theorem run_store' (P : Program) {w : World} {b off : Nat} {c : Array Value} {T : TypeId} {fz : Nat × Nat} (h : w.heap[b]? = some (.cells c T fz)) (hf : Fz fz c.size) (ho : off < c.size) {v : Value} (hv : v.oneCell' = true) :
    (store ⟨b, off, none⟩ v).run P w = .ok () (w.setCell ⟨b, off, none⟩ v) := by
  rw [run_store P w _ v _ hv, cell_of_has h, frozen_of_has h hf ho]
  simp [ho]
theorem set_mid (c : List Value) (o : Nat) (v : Value) (h : o < c.length) : c.set o v = c.take o ++ [v] ++ c.drop (o + 1) := by
  rw [List.set_eq_take_append_cons_drop, if_pos h]; simp
theorem run_storeCells' (P : Program) {g : Nat} {T : TypeId} {fz : Nat × Nat} (o : Nat) : ∀ (vs : List Value) (i : Nat) (c : Array Value) (w : World), w.heap[g]? = some (.cells c T fz) → Fz fz c.size → o + i + vs.length ≤ c.size → (∀ v ∈ vs, v.oneCell' = true) →
    ∃ w', (storeCells ⟨g, o, none⟩ vs i).run P w = .ok () w' ∧ Upd w w' g (.cells ⟨c.toList.take (o + i) ++ vs ++ c.toList.drop (o + i + vs.length)⟩ T fz)
  | [], i, c, w, h, _, hl, _ => ⟨w, by simp [storeCells], ⟨rfl, rfl, rfl, rfl, by simpa using h, fun _ _ => rfl⟩⟩
  | v :: vs, i, c, w, h, hf, hl, h1 => by
    simp only [List.length_cons] at hl
    have hst := run_store' P (off := o + i) h hf (by omega) (h1 v (by simp))
    have hu := upd_setCell (off := o + i) h v
    obtain ⟨w', hr, hu'⟩ := run_storeCells' P o vs (i + 1) (c.setIfInBounds (o + i) v) _ hu.self (by simpa using hf) (by simp; omega) (fun u hm => h1 u (by simp [hm]))
    refine ⟨w', ?_, ?_⟩
    · simp only [storeCells, Sem.run_bind, add_lit, hst, Result.andThen_ok, hr]
    · have he : ((c.setIfInBounds (o + i) v).toList.take (o + (i + 1)) ++ vs ++ (c.setIfInBounds (o + i) v).toList.drop (o + (i + 1) + vs.length)) = c.toList.take (o + i) ++ (v :: vs) ++ c.toList.drop (o + i + (v :: vs).length) := by
        have hlen : o + i < c.toList.length := by simp; omega
        rw [Array.toList_setIfInBounds, set_mid _ _ _ hlen]
        rw [List.take_append_of_le_length (by simp; omega), List.take_of_length_le (by simp; omega)]
        rw [List.drop_append, List.drop_of_length_le (by simp; omega)]
        simp only [List.nil_append, List.length_append, List.length_take, List.length_cons, List.length_nil, List.drop_drop, List.append_assoc, List.singleton_append, List.cons_append]
        congr 4
        omega
      rw [he] at hu'
      exact hu.trans hu'

section
variable {P : Program} {p : Post} {n : Nat} {e : Env} {ds : List Deferred} {o : Oper} {x y z : Operand} {ty ty' : TypeId} {v : Value} {w0 w : World} {L : Blocks} {K : Act → World → Prop} {Q : Exit → Act → World → Prop} {d : TypeDesc}

theorem c_store {i b off : Nat} {c : Array Value} {T : TypeId} {fz : Nat × Nat} (hs : St w0 L w) (ho : o.op = .store ty x y) (hdst : o.dst = none) (hx : opv n e x = pv b off) (hy : opv n e y = v) (hsz : (P.info? ty).map (·.size) = some 1) (hv : v.oneCell' = true)
    (hi : L[i]? = some (b, .cells c T fz)) (hoff : off < c.size) (hf : Fz fz c.size) (k : ∀ w', St w0 (L.set i (b, .cells (c.setIfInBounds off v) T fz)) w' → K (A n e ds) w') : OW P o (A n e ds) w K Q := by
  refine ⟨?_⟩
  have hc : v.cells = #[v] := by cases v <;> first | rfl | cases hv
  have hst := run_store' P (off := off) (hs.get i hi) hf hoff hv
  unfold Oper.wp
  simp only [A_eval, execOp, ho, hx, hy, Instr.storeAt, Instr.sureAddr, storeVar, run_sizeOf' hsz, Sem.run_bind, Sem.run_pure, Result.andThen_ok, hc, List.size_toArray, List.length_cons, List.length_nil, ne_eq, not_true_eq_false, if_false, storeCells, add_lit, Nat.add_zero, hst, Oper.upon, hdst, A_put_none]
  exact k _ (hs.ofUpd i hi (upd_setCell (hs.get i hi) v))
theorem c_storeN {i b off s : Nat} {c : Array Value} {T : TypeId} {fz : Nat × Nat} {vs : List Value} (hs : St w0 L w) (ho : o.op = .store ty x y) (hdst : o.dst = none) (hx : opv n e x = pv b off) (hy : opv n e y = .agg ⟨vs⟩) (hsz : (P.info? ty).map (·.size) = some s) (hl : vs.length = s) (hv : ∀ v ∈ vs, v.oneCell' = true)
    (hi : L[i]? = some (b, .cells c T fz)) (hoff : off + s ≤ c.size) (hf : Fz fz c.size) (k : ∀ w', St w0 (L.set i (b, .cells ⟨c.toList.take off ++ vs ++ c.toList.drop (off + vs.length)⟩ T fz)) w' → K (A n e ds) w') : OW P o (A n e ds) w K Q := by
  refine ⟨?_⟩
  obtain ⟨w', hst, hu⟩ := run_storeCells' P off vs 0 c w (hs.get i hi) hf (by omega) hv
  unfold Oper.wp
  have hsz' : (⟨vs⟩ : Array Value).size = s := by simpa using hl
  simp only [A_eval, execOp, ho, hx, hy, Instr.storeAt, Instr.sureAddr, storeVar, run_sizeOf' hsz, Sem.run_bind, Sem.run_pure, Result.andThen_ok, Value.cells, hsz', ne_eq, not_true_eq_false, if_false, hst, Oper.upon, hdst, A_put_none]
  simp only [Nat.add_zero] at hu
  exact k _ (hs.ofUpd i hi hu)
theorem run_zeroValue' {t : TypeId} {u : Value} (hz : (P.info? t).bind (·.zero) = some u) (w : World) : (zeroValue t).run P w = .ok u w := by
  cases hi : P.info? t with
  | none => rw [hi] at hz; cases hz
  | some i => rw [hi] at hz; simp only [Option.bind_some] at hz; simp [zeroValue, typeInfo, hi, hz]
theorem c_alloc {dd : Nat} {u : Value} (hs : St w0 L w) (ho : o.op = .alloc ty) (hdst : o.dst = some dd) (hz : (P.info? ty).bind (·.zero) = some u)
    (k : ∀ b w', w0.heap.size ≤ b → St w0 ((b, .cells u.cells ty (0, 0)) :: L) w' → K (A n ((dd, pv b 0) :: e) ds) w') : OW P o (A n e ds) w K Q := by
  refine ⟨?_⟩
  unfold Oper.wp
  simp only [A_eval, execOp, ho, Instr.alloc, Sem.run_bind, run_zeroValue' hz, Result.andThen_ok, newVar, newRow, newObj, Sem.run, Sem.run_pure, Oper.upon, hdst, A_put]
  exact k _ _ hs.size (hs.alloc _)
theorem c_box {dd : Nat} (hs : St w0 L w) (ho : o.op = .box ty x) (hdst : o.dst = some dd) (hx : opv n e x = v)
    (k : ∀ b w', w0.heap.size ≤ b → St w0 ((b, .cells v.cells ty (0, 0)) :: L) w' → K (A n ((dd, pv b 0) :: e) ds) w') : OW P o (A n e ds) w K Q := by
  refine ⟨?_⟩
  unfold Oper.wp
  simp only [A_eval, execOp, ho, hx, Instr.box, Sem.run_bind, Result.andThen_ok, newVar, newRow, newObj, Sem.run, Sem.run_pure, Oper.upon, hdst, A_put]
  exact k _ _ hs.size (hs.alloc _)
theorem c_buildSlice {dd m E s : Nat} {parts : Array (Nat × Operand)} {u : Value} {cells : List Value} (hs : St w0 L w) (ho : o.op = .buildSlice ty m parts) (hdst : o.dst = some dd) (ht : P.underlying ty = some (.slice E)) (hsz : (P.info? E).map (·.size) = some s)
    (hz : (P.info? E).bind (·.zero) = some u) (hm : 0 < m * s ∧ m * s ≤ 16777216)
    (hfill : Instr.fill (fun i => some (i * s, s)) ((Array.range (m * s)).map (u.cells[· % u.cells.size]!)) (parts.map fun (i, x) => (i, opv n e x)).toList = some ⟨cells⟩)
    (k : ∀ b w', w0.heap.size ≤ b → St w0 ((b, .cells ⟨cells⟩ E (0, 0)) :: L) w' → K (A n ((dd, .slice (some ⟨b, 0, none⟩) m m) :: e) ds) w') : OW P o (A n e ds) w K Q := by
  refine ⟨?_⟩
  have h1 : ¬ (m * s > 2 ^ 24) := by omega
  have h2 : ¬ (m * s = 0) := by omega
  unfold Oper.wp
  simp only [A_eval, execOp, ho, Instr.buildSlice, Sem.run_bind, run_underlying ht, run_sizeOf' hsz, run_zeroValue' hz, Result.andThen_ok, if_neg h1, if_neg h2, hfill, newRow, newObj, Sem.run, Sem.run_pure, Oper.upon, hdst, A_put]
  exact k _ _ hs.size (hs.alloc _)
theorem y_buildA {m el s : Nat} {parts : Array (Nat × Operand)} {zs cells : List Value} (ho : o.op = .build ty parts) (ht : P.underlying ty = some (.array m el)) (hz : (P.info? ty).bind (·.zero) = some (.agg ⟨zs⟩)) (hs : (P.info? el).map (·.size) = some s)
    (hfill : Instr.fill (fun i => some (i * s, s)) ⟨zs⟩ (parts.map fun (i, x) => (i, opv n e x)).toList = some ⟨cells⟩) : Y0 P n e o (.agg ⟨cells⟩) := fun w => by
  simp only [execOp, ho, Instr.build, Sem.run_bind, run_underlying ht, run_sizeOf' hs, run_zeroValue' hz, Result.andThen_ok, Value.cells, hfill, Sem.run_pure]
theorem y_iarr {m el : Nat} {cs : List Value} {k : IntKind} {i : Int} (ho : o.op = .index ty x y) (ht : P.underlying ty = some (.array m el)) (hel : P.underlying el = some d) (hd : isAggB d = false) (hs : (P.info? el).map (·.size) = some 1) (hx : opv n e x = .agg ⟨cs⟩) (hy : opv n e y = .int k i) (h0 : 0 ≤ i) (h1 : i < m) (hc : cs[i.toNat * 1]? = some v) : Y0 P n e o v := fun w => by
  have hc' : (⟨cs⟩ : Array Value)[i.toNat * 1]? = some v := by simpa using hc
  simp only [execOp, ho, hx, hy, Instr.index, asIntOf, part, asAgg, Sem.run_bind, Sem.run_pure, Result.andThen_ok, run_underlying ht, run_sizeOf' hs, run_isAgg hel, hd, h0, h1, and_self, if_true, Bool.false_eq_true, if_false, hc']
theorem cells_one {v : Value} (h : v.oneCell' = true) : v.cells = #[v] := by cases v <;> first | rfl | cases h
theorem c_bs1 {dd E : Nat} {u v0 : Value} {x0 : Operand} (hs : St w0 L w) (ho : o.op = .buildSlice ty 1 #[(0, x0)]) (hdst : o.dst = some dd) (ht : P.underlying ty = some (.slice E)) (hsz : (P.info? E).map (·.size) = some 1) (hz : (P.info? E).bind (·.zero) = some u)
    (h0 : opv n e x0 = v0) (k0 : v0.oneCell' = true) (k : ∀ b w', w0.heap.size ≤ b → St w0 ((b, .cells ⟨[v0]⟩ E (0, 0)) :: L) w' → K (A n ((dd, .slice (some ⟨b, 0, none⟩) 1 1) :: e) ds) w') : OW P o (A n e ds) w K Q :=
  c_buildSlice hs ho hdst ht hsz hz (by decide) (by simp [Instr.fill, h0, cells_one k0, show Array.range 1 = #[0] from rfl]) k
theorem c_bs2 {dd E : Nat} {u v0 v1 : Value} {x0 x1 : Operand} (hs : St w0 L w) (ho : o.op = .buildSlice ty 2 #[(0, x0), (1, x1)]) (hdst : o.dst = some dd) (ht : P.underlying ty = some (.slice E)) (hsz : (P.info? E).map (·.size) = some 1) (hz : (P.info? E).bind (·.zero) = some u)
    (h0 : opv n e x0 = v0) (h1 : opv n e x1 = v1) (k0 : v0.oneCell' = true) (k1 : v1.oneCell' = true) (k : ∀ b w', w0.heap.size ≤ b → St w0 ((b, .cells ⟨[v0, v1]⟩ E (0, 0)) :: L) w' → K (A n ((dd, .slice (some ⟨b, 0, none⟩) 2 2) :: e) ds) w') : OW P o (A n e ds) w K Q :=
  c_buildSlice hs ho hdst ht hsz hz (by decide) (by simp [Instr.fill, h0, h1, cells_one k0, cells_one k1, show Array.range 2 = #[0, 1] from rfl]) k
theorem c_bs4 {dd E : Nat} {u v0 v1 v2 v3 : Value} {x0 x1 x2 x3 : Operand} (hs : St w0 L w) (ho : o.op = .buildSlice ty 4 #[(0, x0), (1, x1), (2, x2), (3, x3)]) (hdst : o.dst = some dd) (ht : P.underlying ty = some (.slice E)) (hsz : (P.info? E).map (·.size) = some 1) (hz : (P.info? E).bind (·.zero) = some u)
    (h0 : opv n e x0 = v0) (h1 : opv n e x1 = v1) (h2 : opv n e x2 = v2) (h3 : opv n e x3 = v3) (k0 : v0.oneCell' = true) (k1 : v1.oneCell' = true) (k2 : v2.oneCell' = true) (k3 : v3.oneCell' = true)
    (k : ∀ b w', w0.heap.size ≤ b → St w0 ((b, .cells ⟨[v0, v1, v2, v3]⟩ E (0, 0)) :: L) w' → K (A n ((dd, .slice (some ⟨b, 0, none⟩) 4 4) :: e) ds) w') : OW P o (A n e ds) w K Q :=
  c_buildSlice hs ho hdst ht hsz hz (by decide) (by simp [Instr.fill, h0, h1, h2, h3, cells_one k0, cells_one k1, cells_one k2, cells_one k3, show Array.range 4 = #[0, 1, 2, 3] from rfl]) k
theorem c_bs3 {dd E : Nat} {u v0 v1 v2 : Value} {x0 x1 x2 : Operand} (hs : St w0 L w) (ho : o.op = .buildSlice ty 3 #[(0, x0), (1, x1), (2, x2)]) (hdst : o.dst = some dd) (ht : P.underlying ty = some (.slice E)) (hsz : (P.info? E).map (·.size) = some 1) (hz : (P.info? E).bind (·.zero) = some u)
    (h0 : opv n e x0 = v0) (h1 : opv n e x1 = v1) (h2 : opv n e x2 = v2) (k0 : v0.oneCell' = true) (k1 : v1.oneCell' = true) (k2 : v2.oneCell' = true)
    (k : ∀ b w', w0.heap.size ≤ b → St w0 ((b, .cells ⟨[v0, v1, v2]⟩ E (0, 0)) :: L) w' → K (A n ((dd, .slice (some ⟨b, 0, none⟩) 3 3) :: e) ds) w') : OW P o (A n e ds) w K Q :=
  c_buildSlice hs ho hdst ht hsz hz (by decide) (by simp [Instr.fill, h0, h1, h2, cells_one k0, cells_one k1, cells_one k2, show Array.range 3 = #[0, 1, 2] from rfl]) k
theorem c_call {f : Operand} {g : Nat} {fn : Func} {args : Array Operand} {ats : Array TypeId} {caps : Array Value} {vs : List Value} {R : Value → World → Prop} {dd : Nat} (ho : o.op = .call { callee := .value f, args := args, argTypes := ats }) (hdst : o.dst = some dd)
    (hf : opv n e f = .func (.func g) #[] caps) (hfn : P.funcs[g]? = some fn) (hnm : (fn.name == "runtime.NumGoroutine") = false) (hbody : fn.body.isNone = false)
    (hc : C P g ⟨vs⟩ w R) (hargs : args.toList.map (opv n e) ++ caps.toList = vs) (k : ∀ v w', R v w' → K (A n ((dd, v) :: e) ds) w') : OW P o (A n e ds) w K Q := by
  refine ⟨?_⟩
  have ha : args.map (opv n e) ++ caps = ⟨vs⟩ := by
    apply Array.ext'
    simp only [Array.toList_append, Array.toList_map]; exact hargs
  unfold Oper.wp
  simp only [A_eval, execOp, ho, resolve, hf, Deferred.ofValue, Sem.run_bind, Sem.run_pure, Result.andThen_ok, invoke, callFunc, program, Sem.run, hfn, hnm, Bool.false_eq_true, if_false, hbody, Array.empty_append, ha, Oper.upon]
  refine Calls.mono hc fun e' w' he => ?_
  obtain ⟨v, rfl, hv⟩ := he
  simp only [hdst, A_put]
  exact k _ _ hv
/-- The slice's own row, in the list of what is known. -/
theorem c_append {dd E s g m kk cap0 : Nat} {bytes : Nat} {zz : Value} {xs : List Value} {news : List Value} {ent L0 : Blocks} {T' : TypeId} {fz' : Nat × Nat} (hs : St w0 ((g, .cells ⟨news⟩ T' fz') :: (L0 ++ ent)) w) (hgn : w0.heap.size ≤ g)
    (ho : o.op = .call { callee := .builtin .append, args := #[x, y], argTypes := #[ty, ty] }) (hdst : o.dst = some dd) (ht : P.underlying ty = some (.slice E)) (hsz' : (P.info? E).map (·.size) = some s) (hz' : (P.info? E).bind (·.zero) = some zz) (hby' : (P.info? E).map (·.bytes) = some bytes) (hzs : zz.cells.size = s) (hsp : 0 < s)
    (hx : opv n e x = v) (hr : Row w0.heap.size E s v m xs ent) (hy : opv n e y = .slice (some ⟨g, 0, none⟩) kk cap0) (hk : 0 < kk) (hl : news.length = kk * s) (h1 : ∀ u ∈ news, u.oneCell' = true) (hbytes : (m + kk) * bytes ≤ 140737488355328) (hmax : m + kk ≤ 9223372036854775807)
    (k : ∀ v' ent' w', Row w0.heap.size E s v' (m + kk) (xs ++ news) ent' → St w0 (L0 ++ ent') w' → K (A n ((dd, v') :: e) ds) w') : OW P o (A n e ds) w K Q := by
  refine ⟨?_⟩
  obtain ⟨ii, hi, hz, hsz, hby⟩ : ∃ ii, P.info? E = some ii ∧ ii.zero = some zz ∧ ii.size = s ∧ ii.bytes = bytes := by
    cases h : P.info? E with
    | none => rw [h] at hsz'; cases hsz'
    | some i => rw [h] at hsz' hz' hby'; simp at hsz' hz' hby'; exact ⟨i, rfl, hz', hsz', hby'⟩
  subst hsz; subst hby
  have hg := hs.get 0 rfl
  have hnews : ∀ j u, news[j]? = some u → w.cell? ((⟨g, 0, none⟩ : Addr).add j) = some u := fun j u hj => by
    rw [add_lit, cell_of_has hg]; simpa using hj
  have hlen : (xs ++ news).length = (m + kk) * ii.size := by rw [List.length_append, hr.1, hl, Nat.add_mul]
  have hs' : St w0 (L0 ++ ent) w := hs.drop (.inl hgn)
  have hml : m + kk ≤ maxLen := hmax
  -- a new block in the old one's place
  have grown : ∀ (old : Nat), old < m + kk → St w0 (L0 ++ [(w.heap.size, .cells (xs.toArray ++ news.toArray ++ Builtin.zeroCells zz.cells (grownCap w (m + kk) old E - (m + kk))) E (0, 0))])
        (w.drew.alloc (.cells (xs.toArray ++ news.toArray ++ Builtin.zeroCells zz.cells (grownCap w (m + kk) old E - (m + kk))) E)) ∧
      Row w0.heap.size E ii.size (.slice (some ⟨w.heap.size, 0, none⟩) (m + kk) (grownCap w (m + kk) old E)) (m + kk) (xs ++ news) [(w.heap.size, .cells (xs.toArray ++ news.toArray ++ Builtin.zeroCells zz.cells (grownCap w (m + kk) old E - (m + kk))) E (0, 0))] := by
    intro old hold
    have hge := grownCap_ge w (m + kk) old E
    have hcm := grownCap_le_maxLen w (m + kk) old E hml
    constructor
    · have ha := (hs'.drewN (w.drawn + 1)).alloc (.cells (xs.toArray ++ news.toArray ++ Builtin.zeroCells zz.cells (grownCap w (m + kk) old E - (m + kk))) E (0, 0))
      have hp : St w0 (ent ++ (L0 ++ [(w.heap.size, .cells (xs.toArray ++ news.toArray ++ Builtin.zeroCells zz.cells (grownCap w (m + kk) old E - (m + kk))) E (0, 0))])) (w.drew.alloc (.cells (xs.toArray ++ news.toArray ++ Builtin.zeroCells zz.cells (grownCap w (m + kk) old E - (m + kk))) E)) := by
        refine ha.perm ?_
        have h0 : ((w.heap.size, Obj.cells (xs.toArray ++ news.toArray ++ Builtin.zeroCells zz.cells (grownCap w (m + kk) old E - (m + kk))) E (0, 0)) :: (L0 ++ ent)).Perm ((L0 ++ ent) ++ [(w.heap.size, Obj.cells (xs.toArray ++ news.toArray ++ Builtin.zeroCells zz.cells (grownCap w (m + kk) old E - (m + kk))) E (0, 0))]) := (List.perm_append_singleton _ _).symm
        refine h0.trans ?_
        rw [← List.append_assoc]
        exact (List.perm_append_comm (l₁ := L0) (l₂ := ent)).append_right _
      rcases hr.2 with ⟨_, _, he⟩ | ⟨g1, cap1, cur1, fz1, _, he, hB, _⟩
      · rw [he] at hp; exact hp
      · rw [he] at hp; exact hp.drop (.inl hB)
    · refine ⟨hlen, .inr ⟨_, _, _, _, rfl, rfl, hs.size, hge, hcm, ?_, ?_, Fz.zero _⟩⟩
      · simp only [Array.size_append, List.size_toArray, size_zeroCells, hzs, hr.1, hl, ← Nat.add_mul]
        congr 1; omega
      · simp only [Array.toList_append]
        rw [show xs.toArray.toList ++ news.toArray.toList = xs ++ news from rfl, ← hlen]
        exact List.take_left
  unfold Oper.wp
  simp only [A_eval, execOp, ho, resolve, invoke, builtin, Sem.run_bind, Sem.run_pure, Result.andThen_ok, List.map_toArray, List.map_cons, List.map_nil, hx, hy]
  rcases hr.2 with ⟨rfl, rfl, rfl⟩ | ⟨g1, cap1, cur1, fz1, rfl, rfl, hB, hmc, hcm, hcs, htake, hfz⟩
  · have hxs : xs = [] := List.eq_nil_of_length_eq_zero (by simpa using hr.1)
    subst hxs
    have hbb : kk * ii.bytes ≤ 281474976710656 := by rw [Nat.zero_add] at hbytes; omega
    have hrun := run_append_nil (P := P) w ty o.type E ii zz ht hi hz ⟨g, 0, none⟩ kk cap0 news hl hnews hk (by omega) hbb
    obtain ⟨h3, h4⟩ := grown 0 (by omega)
    simp only [Nat.zero_add, List.nil_append, Array.empty_append] at h3 h4 hrun
    rw [hrun]
    simp only [Result.andThen_ok, Oper.upon, hdst, A_put]
    refine k _ _ _ ?_ h3
    simpa using h4
  · by_cases hroom : m + kk ≤ cap1
    · have hg1 : w.heap[g1]? = some (.cells cur1 E fz1) := hs'.has (g1, .cells cur1 E fz1) (by simp)
      have hfit : m * ii.size + news.length ≤ cur1.size := by rw [hl, hcs, ← Nat.add_mul]; exact Nat.mul_le_mul_right _ hroom
      obtain ⟨w', hst, hu⟩ := run_storeCells' P (g := g1) (m * ii.size) news 0 cur1 w hg1 hfz (by omega) h1
      have hf := run_firstCells_some (P := P) w ii.size kk ⟨g, 0, none⟩ kk cap0 news hl hnews
      have hrun : (Builtin.append_ #[ty, ty] o.type #[.slice (some ⟨g1, 0, none⟩) m cap1, .slice (some ⟨g, 0, none⟩) kk cap0]).run P w = .ok (.slice (some ⟨g1, 0, none⟩) (m + kk) cap1) w' := by
        simp [Builtin.append_, run_underlying ht, sizeOf, typeInfo, hi, Builtin.lenOf, hroom, hf, Addr.add_lit, hst]
      rw [hrun]
      simp only [Result.andThen_ok, Oper.upon, hdst, A_put]
      simp only [Nat.add_zero] at hu
      refine k _ [(g1, .cells ⟨cur1.toList.take (m * ii.size) ++ news ++ cur1.toList.drop (m * ii.size + news.length)⟩ E fz1)] w' ?_ ?_
      · refine ⟨hlen, .inr ⟨g1, cap1, _, fz1, rfl, rfl, hB, hroom, hcm, ?_, ?_, ?_⟩⟩
        · simp only [List.size_toArray, List.length_append, List.length_take, List.length_drop, Array.length_toList]; omega
        · rw [htake, ← hlen]; exact List.take_left
        · have : (⟨cur1.toList.take (m * ii.size) ++ news ++ cur1.toList.drop (m * ii.size + news.length)⟩ : Array Value).size = cur1.size := by
            simp only [List.size_toArray, List.length_append, List.length_take, List.length_drop, Array.length_toList]; omega
          rw [this]; exact hfz
      · have hi' : (L0 ++ [(g1, Obj.cells cur1 E fz1)])[L0.length]? = some (g1, .cells cur1 E fz1) := by simp
        have h5 := hs'.ofUpd L0.length hi' hu
        rwa [List.set_append_right _ _ (Nat.le_refl _), Nat.sub_self, List.set_cons_zero] at h5
    · have hg1 : w.heap[g1]? = some (.cells cur1 E fz1) := hs'.has (g1, .cells cur1 E fz1) (by simp)
      have holds : ∀ j u, xs[j]? = some u → w.cell? ((⟨g1, 0, none⟩ : Addr).add j) = some u := fun j u hj => by
        rw [add_lit, cell_of_has hg1, Nat.zero_add]
        rw [← htake, List.getElem?_take] at hj
        split at hj
        · simpa using hj
        · cases hj
      have hrun := run_append_grow (P := P) w ty o.type E ii zz ht hi hz ⟨g1, 0, none⟩ m cap1 xs hr.1 holds ⟨g, 0, none⟩ kk cap0 news hl hnews (by omega) (by omega) (growslice_fits (by omega) hbytes)
      obtain ⟨h3, h4⟩ := grown cap1 (by omega)
      rw [hrun]
      simp only [Result.andThen_ok, Oper.upon, hdst, A_put]
      exact k _ _ _ h4 h3
end
end Go.Proofs.YtkolfgmpmnelmabGreatDoor.Vx
