/-
  A small frame for walks, 11: append in general; more operations on numbers.
-/
import Derived.Test.YtkolfgmpmnelmabGreatDoorVo
namespace Go.Proofs.YtkolfgmpmnelmabGreatDoor.Vx
open Go

/-- The cells of kk elements that a slice has, wherever they lie. -/
def Src (w : World) (s : Nat) (v : Value) (kk : Nat) (news : List Value) : Prop :=
  news.length = kk * s ∧ ∃ a cap, v = .slice a kk cap ∧ (0 < kk → ∃ g off, a = some ⟨g, off, none⟩ ∧ ∀ j u, news[j]? = some u → w.cell? ⟨g, off + j, none⟩ = some u)
theorem Src.ofBlock {w : World} {s b kk cap : Nat} {news : List Value} {T : TypeId} {fz : Nat × Nat} (h : w.heap[b]? = some (.cells ⟨news⟩ T fz)) (hl : news.length = kk * s) : Src w s (.slice (some ⟨b, 0, none⟩) kk cap) kk news :=
  ⟨hl, _, cap, rfl, fun _ => ⟨b, 0, rfl, fun j u hj => by rw [cell_of_has h]; simpa using hj⟩⟩
theorem Src.ofRow {w0 w : World} {L ent : Blocks} {B E s m : Nat} {v : Value} {xs : List Value} (hr : Row B E s v m xs ent) (hs : St w0 L w) (hin : ∀ x ∈ ent, x ∈ L) : Src w s v m xs := by
  refine ⟨hr.1, ?_⟩
  rcases hr.2 with ⟨rfl, rfl, rfl⟩ | ⟨g, cap, cur, fz, rfl, rfl, hB, hmc, hcm, hcs, htake, hfz⟩
  · exact ⟨none, 0, rfl, fun h => absurd h (Nat.lt_irrefl _)⟩
  · refine ⟨_, cap, rfl, fun _ => ⟨g, 0, rfl, fun j u hj => ?_⟩⟩
    rw [cell_of_has (hs.has (g, .cells cur E fz) (hin _ (by simp))), Nat.zero_add]
    rw [← htake, List.getElem?_take] at hj
    split at hj
    · simpa using hj
    · cases hj
theorem Src.ofSl {w : World} {v : Value} {m : Nat} {f : Nat → Value} (h : Sl w v m f) : Src w 1 v m ((List.range m).map f) := by
  obtain ⟨a, cap, h1, h2⟩ := h.shape
  refine ⟨by simp, a, cap, h1, fun h0 => ⟨_, _, h2 h0, fun j u hj => ?_⟩⟩
  rw [List.getElem?_map] at hj
  by_cases hjm : j < m
  · rw [List.getElem?_range hjm] at hj
    simp only [Option.map_some, Option.some.injEq] at hj
    rw [← hj]; exact h.cell j hjm
  · rw [List.getElem?_eq_none (by simp; omega)] at hj; cases hj
/-- What is new may be forgotten, from the front. -/
theorem St.dropL {w0 w : World} {M L : Blocks} (h : St w0 (M ++ L) w) (hM : ∀ x ∈ M, w0.heap.size ≤ x.1) : St w0 L w := by
  induction M with
  | nil => exact h
  | cons x M ih => exact ih (St.drop (x := x) h (.inl (hM x (by simp)))) (fun y hy => hM y (by simp [hy]))
theorem St.mem {w0 w : World} {L : Blocks} (h : St w0 L w) {b : Nat} {o : Obj} (hb : (b, o) ∈ L) : w.heap[b]? = some o := h.has (b, o) hb

section
variable {P : Program} {p : Post} {n : Nat} {e : Env} {ds : List Deferred} {o : Oper} {x y z : Operand} {ty ty' : TypeId} {v : Value} {w0 w : World} {L : Blocks} {K : Act → World → Prop} {Q : Exit → Act → World → Prop} {d : TypeDesc}
theorem run_lenOf {a : Option Addr} {kk cap : Nat} (w : World) : (Builtin.lenOf (.slice a kk cap)).run P w = .ok kk w := rfl
theorem c_buildSlice0 {dd E s : Nat} (hs : St w0 L w) (ho : o.op = .buildSlice ty 0 #[]) (hdst : o.dst = some dd) (ht : P.underlying ty = some (.slice E)) (hsz : (P.info? E).map (·.size) = some s)
    (k : ∀ b w', w0.heap.size ≤ b → St w0 ((b, .cells ⟨[]⟩ E (0, 0)) :: L) w' → K (A n ((dd, .slice (some ⟨b, 0, none⟩) 0 0) :: e) ds) w') : OW P o (A n e ds) w K Q := by
  refine ⟨?_⟩
  unfold Oper.wp
  have hf : Instr.fill (fun i => some (i * s, s)) ((Array.range (0 * s)).map ((#[] : Array Value)[· % (#[] : Array Value).size]!)) ((#[] : Array (Nat × Operand)).map fun (i, x) => (i, opv n e x)).toList = some ⟨[]⟩ := by simp [Instr.fill]
  simp only [A_eval, execOp, ho, Instr.buildSlice, Sem.run_bind, run_underlying ht, run_sizeOf' hsz, Result.andThen_ok, Nat.zero_mul, if_true, Sem.run_pure, if_neg (show ¬ ((0 : Nat) > 2 ^ 24) by omega)]
  simp only [Nat.zero_mul] at hf
  simp only [hf, newRow, newObj, Sem.run_bind, Sem.run, Sem.run_pure, Result.andThen_ok, Oper.upon, hdst, A_put]
  exact k _ _ hs.size (hs.alloc _)
/-- append, of whatever elements, to a slice that the call owns. -/
theorem c_appendG {dd B E s m kk : Nat} {bytes : Nat} {zz vy : Value} {xs : List Value} {news : List Value} {ent L0 : Blocks} (hs : St w0 L w) (hp : L.Perm (L0 ++ ent))
    (ho : o.op = .call { callee := .builtin .append, args := #[x, y], argTypes := #[ty, ty] }) (hdst : o.dst = some dd) (ht : P.underlying ty = some (.slice E)) (hsz' : (P.info? E).map (·.size) = some s) (hz' : (P.info? E).bind (·.zero) = some zz) (hby' : (P.info? E).map (·.bytes) = some bytes) (hzs : zz.cells.size = s)
    (hx : opv n e x = v) (hr : Row B E s v m xs ent) (hB : B ≤ w0.heap.size) (hold : ∀ x ∈ ent, w0.heap.size ≤ x.1 ∨ w0.heap[x.1]? = some x.2) (hy : opv n e y = vy) (hY : Src w s vy kk news) (h1 : ∀ u ∈ news, u.oneCell' = true) (hbytes : (m + kk) * bytes ≤ 140737488355328) (hmax : m + kk ≤ 9223372036854775807)
    (k : ∀ v' ent' w', Row B E s v' (m + kk) (xs ++ news) ent' → (∀ x ∈ ent', x.1 ∈ keys ent ∨ w0.heap.size ≤ x.1) → St w0 (L0 ++ ent') w' → K (A n ((dd, v') :: e) ds) w') : OW P o (A n e ds) w K Q := by
  refine ⟨?_⟩
  obtain ⟨ii, hi, hz, hsz, hby⟩ : ∃ ii, P.info? E = some ii ∧ ii.zero = some zz ∧ ii.size = s ∧ ii.bytes = bytes := by
    cases h : P.info? E with
    | none => rw [h] at hsz'; cases hsz'
    | some i => rw [h] at hsz' hz' hby'; simp at hsz' hz' hby'; exact ⟨i, rfl, hz', hsz', hby'⟩
  subst hsz; subst hby
  have hs' : St w0 (L0 ++ ent) w := hs.perm hp
  obtain ⟨hl, ay, cap0, rfl, hnews0⟩ := hY
  have hlen : (xs ++ news).length = (m + kk) * ii.size := by rw [List.length_append, hr.1, hl, Nat.add_mul]
  have hml : m + kk ≤ maxLen := hmax
  unfold Oper.wp
  simp only [A_eval, execOp, ho, resolve, invoke, builtin, Sem.run_bind, Sem.run_pure, Result.andThen_ok, List.map_toArray, List.map_cons, List.map_nil, hx, hy]
  by_cases hk0 : kk = 0
  · -- nothing is appended
    subst hk0
    have hn : news = [] := List.eq_nil_of_length_eq_zero (by simpa using hl)
    subst hn
    have hrun : (Builtin.append_ #[ty, ty] o.type #[v, .slice ay 0 cap0]).run P w = .ok v w := by
      have hfc : ∀ w, (Builtin.firstCells ii.size 0 (.slice ay 0 cap0)).run P w = .ok #[] w := by
        intro w
        cases ay with
        | none => exact run_firstCells_none w _ _ _ _
        | some a => exact run_firstCells_some (P := P) w ii.size 0 a 0 cap0 [] (by simp) (fun j u hj => by simp at hj)
      rcases hr.2 with ⟨rfl, rfl, rfl⟩ | ⟨g1, cap1, cur1, fz1, rfl, rfl, _, hmc, _⟩
      · simp [Builtin.append_, run_underlying ht, sizeOf, typeInfo, hi, Builtin.lenOf, hfc]
      · simp [Builtin.append_, run_underlying ht, sizeOf, typeInfo, hi, Builtin.lenOf, hfc, hmc, storeCells]
    rw [hrun]
    simp only [Result.andThen_ok, Oper.upon, hdst, A_put]
    exact k v ent w (by simpa using hr) (fun x hx => .inl (List.mem_map.2 ⟨x, hx, rfl⟩)) hs'
  · have hk : 0 < kk := Nat.pos_of_ne_zero hk0
    obtain ⟨g, off, rfl, hcell⟩ := hnews0 hk
    have hnews : ∀ j u, news[j]? = some u → w.cell? ((⟨g, off, none⟩ : Addr).add j) = some u := fun j u hj => by rw [add_lit]; exact hcell j u hj
    have grown : ∀ (old : Nat), old < m + kk → St w0 (L0 ++ [(w.heap.size, .cells (xs.toArray ++ news.toArray ++ Builtin.zeroCells zz.cells (grownCap w (m + kk) old E - (m + kk))) E (0, 0))])
          (w.drew.alloc (.cells (xs.toArray ++ news.toArray ++ Builtin.zeroCells zz.cells (grownCap w (m + kk) old E - (m + kk))) E)) ∧
        Row B E ii.size (.slice (some ⟨w.heap.size, 0, none⟩) (m + kk) (grownCap w (m + kk) old E)) (m + kk) (xs ++ news) [(w.heap.size, .cells (xs.toArray ++ news.toArray ++ Builtin.zeroCells zz.cells (grownCap w (m + kk) old E - (m + kk))) E (0, 0))] := by
      intro old hold'
      have hge := grownCap_ge w (m + kk) old E
      have hcm := grownCap_le_maxLen w (m + kk) old E hml
      constructor
      · have ha := (hs'.drewN (w.drawn + 1)).alloc (.cells (xs.toArray ++ news.toArray ++ Builtin.zeroCells zz.cells (grownCap w (m + kk) old E - (m + kk))) E (0, 0))
        have hp : St w0 (ent ++ (L0 ++ [(w.heap.size, .cells (xs.toArray ++ news.toArray ++ Builtin.zeroCells zz.cells (grownCap w (m + kk) old E - (m + kk))) E (0, 0))])) (w.drew.alloc (.cells (xs.toArray ++ news.toArray ++ Builtin.zeroCells zz.cells (grownCap w (m + kk) old E - (m + kk))) E)) := by
          refine ha.perm ?_
          have h0 : ((w.heap.size, Obj.cells (xs.toArray ++ news.toArray ++ Builtin.zeroCells zz.cells (grownCap w (m + kk) old E - (m + kk))) E (0, 0)) :: (L0 ++ ent)).Perm ((L0 ++ ent) ++ [(w.heap.size, Obj.cells (xs.toArray ++ news.toArray ++ Builtin.zeroCells zz.cells (grownCap w (m + kk) old E - (m + kk))) E (0, 0))]) := (List.perm_append_singleton _ _).symm
          refine h0.trans ?_
          rw [← List.append_assoc]
          exact (List.perm_append_comm (l₁ := L0) (l₂ := ent)).append_right _
        rcases hr.2 with ⟨_, _, he⟩ | ⟨g1, cap1, cur1, fz1, _, he, hB1, _⟩
        · rw [he] at hp; exact hp
        · rw [he] at hp; exact hp.drop (hold _ (by rw [he]; simp))
      · refine ⟨hlen, .inr ⟨_, _, _, _, rfl, rfl, Nat.le_trans hB hs.size, hge, hcm, ?_, ?_, Fz.zero _⟩⟩
        · simp only [Array.size_append, List.size_toArray, size_zeroCells, hzs, hr.1, hl, ← Nat.add_mul]
          congr 1; omega
        · simp only [Array.toList_append]
          rw [show xs.toArray.toList ++ news.toArray.toList = xs ++ news from rfl, ← hlen]
          exact List.take_left
    have hnew : ∀ (o : Obj), ∀ x ∈ [(w.heap.size, o)], x.1 ∈ keys ent ∨ w0.heap.size ≤ x.1 := fun o x hx => by
      rw [List.mem_singleton.1 hx]; exact .inr hs.size
    rcases hr.2 with ⟨rfl, rfl, rfl⟩ | ⟨g1, cap1, cur1, fz1, rfl, rfl, hB1, hmc, hcm, hcs, htake, hfz⟩
    · have hxs : xs = [] := List.eq_nil_of_length_eq_zero (by simpa using hr.1)
      subst hxs
      have hbb : kk * ii.bytes ≤ 281474976710656 := by rw [Nat.zero_add] at hbytes; omega
      have hrun := run_append_nil (P := P) w ty o.type E ii zz ht hi hz ⟨g, off, none⟩ kk cap0 news hl hnews hk (by omega) hbb
      obtain ⟨h3, h4⟩ := grown 0 (by omega)
      simp only [Nat.zero_add, List.nil_append, Array.empty_append] at h3 h4 hrun
      rw [hrun]
      simp only [Result.andThen_ok, Oper.upon, hdst, A_put]
      refine k _ _ _ ?_ (hnew _) h3
      simpa using h4
    · by_cases hroom : m + kk ≤ cap1
      · have hg1 : w.heap[g1]? = some (.cells cur1 E fz1) := hs'.has (g1, .cells cur1 E fz1) (by simp)
        have hfit : m * ii.size + news.length ≤ cur1.size := by rw [hl, hcs, ← Nat.add_mul]; exact Nat.mul_le_mul_right _ hroom
        obtain ⟨w', hst, hu⟩ := run_storeCells' P (g := g1) (m * ii.size) news 0 cur1 w hg1 hfz (by omega) h1
        have hf := run_firstCells_some (P := P) w ii.size kk ⟨g, off, none⟩ kk cap0 news hl hnews
        have hrun : (Builtin.append_ #[ty, ty] o.type #[.slice (some ⟨g1, 0, none⟩) m cap1, .slice (some ⟨g, off, none⟩) kk cap0]).run P w = .ok (.slice (some ⟨g1, 0, none⟩) (m + kk) cap1) w' := by
          simp [Builtin.append_, run_underlying ht, sizeOf, typeInfo, hi, Builtin.lenOf, hroom, hf, Addr.add_lit, hst]
        rw [hrun]
        simp only [Result.andThen_ok, Oper.upon, hdst, A_put]
        simp only [Nat.add_zero] at hu
        refine k _ [(g1, .cells ⟨cur1.toList.take (m * ii.size) ++ news ++ cur1.toList.drop (m * ii.size + news.length)⟩ E fz1)] w' ?_ ?_ ?_
        · refine ⟨hlen, .inr ⟨g1, cap1, _, fz1, rfl, rfl, hB1, hroom, hcm, ?_, ?_, ?_⟩⟩
          · simp only [List.size_toArray, List.length_append, List.length_take, List.length_drop, Array.length_toList]; omega
          · rw [htake, ← hlen]; exact List.take_left
          · have : (⟨cur1.toList.take (m * ii.size) ++ news ++ cur1.toList.drop (m * ii.size + news.length)⟩ : Array Value).size = cur1.size := by
              simp only [List.size_toArray, List.length_append, List.length_take, List.length_drop, Array.length_toList]; omega
            rw [this]; exact hfz
        · intro x hx
          rw [List.mem_singleton.1 hx]; exact .inl (by simp [keys])
        · have hi' : (L0 ++ [(g1, Obj.cells cur1 E fz1)])[L0.length]? = some (g1, .cells cur1 E fz1) := by simp
          have h5 := hs'.ofUpd L0.length hi' hu
          rwa [List.set_append_right _ _ (Nat.le_refl _), Nat.sub_self, List.set_cons_zero] at h5
      · have hg1 : w.heap[g1]? = some (.cells cur1 E fz1) := hs'.has (g1, .cells cur1 E fz1) (by simp)
        have holds : ∀ j u, xs[j]? = some u → w.cell? ((⟨g1, 0, none⟩ : Addr).add j) = some u := fun j u hj => by
          rw [add_lit, cell_of_has hg1, Nat.zero_add]
          rw [← htake, List.getElem?_take] at hj
          split at hj
          · simpa using hj
          · cases hj
        have hrun := run_append_grow (P := P) w ty o.type E ii zz ht hi hz ⟨g1, 0, none⟩ m cap1 xs hr.1 holds ⟨g, off, none⟩ kk cap0 news hl hnews (by omega) (by omega) (growslice_fits (by omega) hbytes)
        obtain ⟨h3, h4⟩ := grown cap1 (by omega)
        rw [hrun]
        simp only [Result.andThen_ok, Oper.upon, hdst, A_put]
        exact k _ _ _ h4 (hnew _) h3
/-- append to a slice without room: a new row. -/
theorem c_appendFull {dd E s m kk : Nat} {bytes : Nat} {zz vy : Value} {ax : Option Addr} {xs : List Value} {news : List Value} (hs : St w0 L w)
    (ho : o.op = .call { callee := .builtin .append, args := #[x, y], argTypes := #[ty, ty] }) (hdst : o.dst = some dd) (ht : P.underlying ty = some (.slice E)) (hsz' : (P.info? E).map (·.size) = some s) (hz' : (P.info? E).bind (·.zero) = some zz) (hby' : (P.info? E).map (·.bytes) = some bytes) (hzs : zz.cells.size = s)
    (hx : opv n e x = .slice ax m m) (hX : Src w s (.slice ax m m) m xs) (hax : 0 < m ∨ ax = none ∨ ∃ g off, ax = some ⟨g, off, none⟩) (hy : opv n e y = vy) (hY : Src w s vy kk news) (hk : 0 < kk) (hbytes : (m + kk) * bytes ≤ 140737488355328) (hmax : m + kk ≤ 9223372036854775807)
    (k : ∀ v' ent' w', Row w0.heap.size E s v' (m + kk) (xs ++ news) ent' → (∀ x ∈ ent', w.heap.size ≤ x.1) → St w0 (ent' ++ L) w' → K (A n ((dd, v') :: e) ds) w') : OW P o (A n e ds) w K Q := by
  refine ⟨?_⟩
  obtain ⟨ii, hi, hz, hsz, hby⟩ : ∃ ii, P.info? E = some ii ∧ ii.zero = some zz ∧ ii.size = s ∧ ii.bytes = bytes := by
    cases h : P.info? E with
    | none => rw [h] at hsz'; cases hsz'
    | some i => rw [h] at hsz' hz' hby'; simp at hsz' hz' hby'; exact ⟨i, rfl, hz', hsz', hby'⟩
  subst hsz; subst hby
  obtain ⟨hl, ay, cap0, rfl, hnews0⟩ := hY
  obtain ⟨hlx, ax', capx, hxe, holds0⟩ := hX
  injection hxe with e1 e2 e3
  subst e1; subst e3
  obtain ⟨g, off, rfl, hcell⟩ := hnews0 hk
  have hnews : ∀ j u, news[j]? = some u → w.cell? ((⟨g, off, none⟩ : Addr).add j) = some u := fun j u hj => by rw [add_lit]; exact hcell j u hj
  have hlen : (xs ++ news).length = (m + kk) * ii.size := by rw [List.length_append, hlx, hl, Nat.add_mul]
  have hml : m + kk ≤ maxLen := hmax
  have grown : ∀ (old : Nat), old < m + kk → St w0 ([(w.heap.size, .cells (xs.toArray ++ news.toArray ++ Builtin.zeroCells zz.cells (grownCap w (m + kk) old E - (m + kk))) E (0, 0))] ++ L)
        (w.drew.alloc (.cells (xs.toArray ++ news.toArray ++ Builtin.zeroCells zz.cells (grownCap w (m + kk) old E - (m + kk))) E)) ∧
      Row w0.heap.size E ii.size (.slice (some ⟨w.heap.size, 0, none⟩) (m + kk) (grownCap w (m + kk) old E)) (m + kk) (xs ++ news) [(w.heap.size, .cells (xs.toArray ++ news.toArray ++ Builtin.zeroCells zz.cells (grownCap w (m + kk) old E - (m + kk))) E (0, 0))] := by
    intro old hold'
    have hge := grownCap_ge w (m + kk) old E
    have hcm := grownCap_le_maxLen w (m + kk) old E hml
    refine ⟨(hs.drewN (w.drawn + 1)).alloc _, hlen, .inr ⟨_, _, _, _, rfl, rfl, hs.size, hge, hcm, ?_, ?_, Fz.zero _⟩⟩
    · simp only [Array.size_append, List.size_toArray, size_zeroCells, hzs, hlx, hl, ← Nat.add_mul]
      congr 1; omega
    · simp only [Array.toList_append]
      rw [show xs.toArray.toList ++ news.toArray.toList = xs ++ news from rfl, ← hlen]
      exact List.take_left
  have hnew : ∀ (o : Obj), ∀ x ∈ [(w.heap.size, o)], w.heap.size ≤ x.1 := fun o x hx => by
    rw [List.mem_singleton.1 hx]; exact Nat.le_refl _
  unfold Oper.wp
  simp only [A_eval, execOp, ho, resolve, invoke, builtin, Sem.run_bind, Sem.run_pure, Result.andThen_ok, List.map_toArray, List.map_cons, List.map_nil, hx, hy]
  by_cases hm0 : m = 0 ∧ ax = none
  · obtain ⟨rfl, rfl⟩ := hm0
    have hxs : xs = [] := List.eq_nil_of_length_eq_zero (by simpa using hlx)
    subst hxs
    have hbb : kk * ii.bytes ≤ 281474976710656 := by rw [Nat.zero_add] at hbytes; omega
    have hrun := run_append_nil (P := P) w ty o.type E ii zz ht hi hz ⟨g, off, none⟩ kk cap0 news hl hnews hk (by omega) hbb
    obtain ⟨h3, h4⟩ := grown 0 (by omega)
    simp only [Nat.zero_add, List.nil_append, Array.empty_append] at h3 h4 hrun
    rw [hrun]
    simp only [Result.andThen_ok, Oper.upon, hdst, A_put]
    refine k _ _ _ ?_ (hnew _) h3
    simpa using h4
  · obtain ⟨gx, ox, rfl⟩ : ∃ g off, ax = some ⟨g, off, none⟩ := by
      rcases hax with h | h | h
      · obtain ⟨g, off, h1, _⟩ := holds0 h; exact ⟨g, off, h1⟩
      · rcases Nat.eq_zero_or_pos m with h' | h'
        · exact absurd ⟨h', h⟩ hm0
        · obtain ⟨g, off, h1, _⟩ := holds0 h'; exact ⟨g, off, h1⟩
      · exact h
    have holds : ∀ j u, xs[j]? = some u → w.cell? ((⟨gx, ox, none⟩ : Addr).add j) = some u := fun j u hj => by
      rcases Nat.eq_zero_or_pos m with h' | h'
      · subst h'
        have hxs : xs = [] := List.eq_nil_of_length_eq_zero (by simpa using hlx)
        subst hxs; simp at hj
      · obtain ⟨g2, o2, h1, h2⟩ := holds0 h'
        injection h1 with h1; injection h1 with h3 h4
        subst h3; subst h4
        rw [add_lit]; exact h2 j u hj
    have hrun := run_append_grow (P := P) w ty o.type E ii zz ht hi hz ⟨gx, ox, none⟩ m m xs hlx holds ⟨g, off, none⟩ kk cap0 news hl hnews (by omega) (by omega) (growslice_fits (by omega) hbytes)
    obtain ⟨h3, h4⟩ := grown m (by omega)
    rw [hrun]
    simp only [Result.andThen_ok, Oper.upon, hdst, A_put]
    exact k _ _ _ h4 (hnew _) h3

/-! More operations on numbers -/
variable {u u' : UInt32} {q q' : UInt64} {c : UInt8}
theorem y_mul32 (ho : o.op = .binOp .mul ty x y ty') (hx : opv n e x = uv u) (hy : opv n e y = uv u') : Y0 P n e o (uv (u * u')) := by
  have := y_mul (P := P) ho hx hy
  rw [wrap_u32] at this
  have h : ((u.toNat : Int) * u'.toNat) % 4294967296 = ((u * u').toNat : Int) := by rw [UInt32.toNat_mul]; simp only [Int.natCast_emod, Int.natCast_mul]; rfl
  rw [h] at this; exact this
theorem y_rem32 (ho : o.op = .binOp .rem ty x y ty') (hx : opv n e x = uv u) (hy : opv n e y = uv u') (h : u' ≠ 0) : Y0 P n e o (uv (u % u')) := by
  have h0 : ((u'.toNat : Nat) : Int) ≠ 0 := by
    intro h'; apply h; apply UInt32.toNat_inj.1; simpa using h'
  have := y_rem (P := P) ho hx hy h0
  rw [Int.tmod_eq_emod_of_nonneg (by omega)] at this
  have h1 : (u.toNat : Int) % u'.toNat = ((u % u').toNat : Int) := by rw [UInt32.toNat_mod]; rfl
  rw [h1] at this; exact this
theorem y_quo32 (ho : o.op = .binOp .quo ty x y ty') (hx : opv n e x = uv u) (hy : opv n e y = uv u') (h : u' ≠ 0) : Y0 P n e o (uv (u / u')) := by
  have h0 : ((u'.toNat : Nat) : Int) ≠ 0 := by
    intro h'; apply h; apply UInt32.toNat_inj.1; simpa using h'
  have := y_quo (P := P) ho hx hy h0
  rw [Int.tdiv_eq_ediv_of_nonneg (by omega), wrap_u32] at this
  have h1 : (u.toNat : Int) / u'.toNat % 4294967296 = ((u / u').toNat : Int) := by
    rw [UInt32.toNat_div, Int.natCast_ediv]
    apply Int.emod_eq_of_lt
    · exact Int.ediv_nonneg (by omega) (by omega)
    · have := Int.ediv_le_self (a := (u.toNat : Int)) u'.toNat (by omega)
      have := u.toNat_lt; omega
  rw [h1] at this; exact this
theorem y_quo64u (ho : o.op = .binOp .quo ty x y ty') (hx : opv n e x = qv q) (hy : opv n e y = qv q') (h : q' ≠ 0) : Y0 P n e o (qv (q / q')) := by
  have h0 : ((q'.toNat : Nat) : Int) ≠ 0 := by
    intro h'; apply h; apply UInt64.toNat_inj.1; simpa using h'
  have := y_quo (P := P) ho hx hy h0
  rw [Int.tdiv_eq_ediv_of_nonneg (by omega), wrap_u64] at this
  have h1 : (q.toNat : Int) / q'.toNat % 18446744073709551616 = ((q / q').toNat : Int) := by
    rw [UInt64.toNat_div, Int.natCast_ediv]
    apply Int.emod_eq_of_lt
    · exact Int.ediv_nonneg (by omega) (by omega)
    · have := Int.ediv_le_self (a := (q.toNat : Int)) q'.toNat (by omega)
      have := q.toNat_lt; omega
  rw [h1] at this; exact this
theorem y_add64u (ho : o.op = .binOp .add ty x y ty') (hx : opv n e x = qv q) (hy : opv n e y = qv q') : Y0 P n e o (qv (q + q')) := by
  have := y_add (P := P) ho hx hy
  rw [wrap_u64] at this
  have h : ((q.toNat : Int) + q'.toNat) % 18446744073709551616 = ((q + q').toNat : Int) := by rw [UInt64.toNat_add]; omega
  rw [h] at this; exact this
theorem y_sub64u (ho : o.op = .binOp .sub ty x y ty') (hx : opv n e x = qv q) (hy : opv n e y = qv q') : Y0 P n e o (qv (q - q')) := by
  have := y_sub (P := P) ho hx hy
  rw [wrap_u64] at this
  have h : ((q.toNat : Int) - q'.toNat) % 18446744073709551616 = ((q - q').toNat : Int) := by
    rw [UInt64.toNat_sub]
    have := q.toNat_lt; have := q'.toNat_lt; omega
  rw [h] at this; exact this
theorem bits64 (u : UInt64) : BitVec.ofInt 64 (u.toNat : Int) = u.toBitVec := by
  apply BitVec.eq_of_toNat_eq
  rw [BitVec.toNat_ofInt]
  have := u.toNat_lt
  simp [UInt64.toNat_toBitVec] <;> omega
theorem y_bits64 {op : BinOp} {f : BitVec 64 → BitVec 64 → BitVec 64} (hop : ∀ a b : Int, Op.intBits op .u64 a b = pure (.int .u64 (IntKind.u64.wrap (f (BitVec.ofInt 64 a) (BitVec.ofInt 64 b)).toNat)))
    (hb : ∀ (a b : Int) (t : TypeId), binOp op t (.int .u64 a) (.int .u64 b) = Op.intBits op .u64 a b)
    (ho : o.op = .binOp op ty x y ty') (hx : opv n e x = qv q) (hy : opv n e y = qv q') : Y0 P n e o (qv ⟨f q.toBitVec q'.toBitVec⟩) := fun w => by
  simp only [execOp, ho, hx, hy, hb, hop, bits64, Sem.run_bind, run_eqGuard_int, Result.andThen_ok, Sem.run_pure]
  rw [wrap_u64, Int.emod_eq_of_lt (by omega) (by have := (f q.toBitVec q'.toBitVec).isLt; omega)]
  rfl
theorem y_or64u (ho : o.op = .binOp .or ty x y ty') (hx : opv n e x = qv q) (hy : opv n e y = qv q') : Y0 P n e o (qv (q ||| q')) :=
  y_bits64 (f := (· ||| ·)) (fun _ _ => rfl) (fun _ _ _ => by simp [binOp]) ho hx hy
theorem y_and64u (ho : o.op = .binOp .and ty x y ty') (hx : opv n e x = qv q) (hy : opv n e y = qv q') : Y0 P n e o (qv (q &&& q')) :=
  y_bits64 (f := (· &&& ·)) (fun _ _ => rfl) (fun _ _ _ => by simp [binOp]) ho hx hy
theorem y_xor64u (ho : o.op = .binOp .xor ty x y ty') (hx : opv n e x = qv q) (hy : opv n e y = qv q') : Y0 P n e o (qv (q ^^^ q')) :=
  y_bits64 (f := (· ^^^ ·)) (fun _ _ => rfl) (fun _ _ _ => by simp [binOp]) ho hx hy
theorem y_shl64 {k : IntKind} {s : Nat} (ho : o.op = .binOp .shl ty x y ty') (hx : opv n e x = qv q) {a : Int} (hy : opv n e y = .int k a) (ha : a = (s : Int)) (hs : s < 64) : Y0 P n e o (qv (q <<< UInt64.ofNat s)) := fun w => by
  subst ha
  have h1 : ¬ ((s : Int) < 0) := by omega
  simp only [execOp, ho, hx, hy, binOp, Op.shift, Sem.run_bind, run_eqGuard_int, Result.andThen_ok, h1, if_false, Sem.run_pure, Int.toNat_natCast]
  have h2 : min s IntKind.u64.bits = s := by simp [IntKind.bits]; omega
  have h3 : (UInt64.ofNat s).toNat % 64 = s := by simp; omega
  rw [h2, wrap_u64]
  congr 3
  rw [UInt64.toNat_shiftLeft, h3, Nat.shiftLeft_eq]
  simp only [Int.natCast_emod, Int.natCast_mul, Int.natCast_pow]
  rfl
theorem y_c32to64 {d : TypeDesc} (ho : o.op = .convert ty ty' x) (hs : P.underlying ty = some d) (ht : P.underlying ty' = some (.int .u64)) (hx : opv n e x = uv u) : Y0 P n e o (qv u.toUInt64) := by
  have := y_conv ho hs ht hx
  rw [wrap_u64] at this
  have h : (u.toNat : Int) % 18446744073709551616 = (u.toUInt64.toNat : Int) := by rw [UInt32.toNat_toUInt64]; have := u.toNat_lt; omega
  rw [h] at this; exact this
theorem y_c64to32 {d : TypeDesc} (ho : o.op = .convert ty ty' x) (hs : P.underlying ty = some d) (ht : P.underlying ty' = some (.int .u32)) (hx : opv n e x = qv q) : Y0 P n e o (uv q.toUInt32) := by
  have := y_conv ho hs ht hx
  rw [wrap_u32] at this
  have h : (q.toNat : Int) % 4294967296 = (q.toUInt32.toNat : Int) := by rw [UInt64.toNat_toUInt32]; omega
  rw [h] at this; exact this
theorem y_c8to64 {d : TypeDesc} (ho : o.op = .convert ty ty' x) (hs : P.underlying ty = some d) (ht : P.underlying ty' = some (.int .u64)) (hx : opv n e x = bv c) : Y0 P n e o (qv c.toUInt64) := by
  have := y_conv ho hs ht hx
  rw [wrap_u64] at this
  have h : (c.toNat : Int) % 18446744073709551616 = (c.toUInt64.toNat : Int) := by rw [UInt8.toNat_toUInt64]; have := c.toNat_lt; omega
  rw [h] at this; exact this
theorem y_buildA4 {el : Nat} {z0 z1 z2 z3 v0 v1 v2 v3 : Value} {x0 x1 x2 x3 : Operand} (ho : o.op = .build ty #[(0, x0), (1, x1), (2, x2), (3, x3)]) (ht : P.underlying ty = some (.array 4 el)) (hz : (P.info? ty).bind (·.zero) = some (.agg ⟨[z0, z1, z2, z3]⟩)) (hs : (P.info? el).map (·.size) = some 1)
    (h0 : opv n e x0 = v0) (h1 : opv n e x1 = v1) (h2 : opv n e x2 = v2) (h3 : opv n e x3 = v3) (k0 : v0.oneCell' = true) (k1 : v1.oneCell' = true) (k2 : v2.oneCell' = true) (k3 : v3.oneCell' = true) :
    Y0 P n e o (.agg ⟨[v0, v1, v2, v3]⟩) :=
  y_buildA ho ht hz hs (by simp [Instr.fill, h0, h1, h2, h3, cells_one k0, cells_one k1, cells_one k2, cells_one k3])
end
end Go.Proofs.YtkolfgmpmnelmabGreatDoor.Vx
