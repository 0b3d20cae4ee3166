/-
  Plain words: what the document says of files, as a walk finds it.
-/
import Derived.Test.YtkolfgmpmnelmabGreatDoorN4
import Derived.Lib.Join
namespace Go.Proofs.YtkolfgmpmnelmabGreatDoor.Ent
open Go Vx Go.Proofs
set_option linter.unusedVariables false
theorem needI_zero {n : Int} (h : n ≤ 0) : needI n = 0 := by rw [needI]; omega
theorem needI_pos {n : Int} (h : 0 < n) : needI n = (n - 1) / 80 + 1 := by rw [needI]; omega
/-! ### Names -/
/-- The bytes before i are fit for a name. -/
def NameTo (s : List UInt8) (i : Nat) : Prop := ∀ j, j < i → low (s.getD j 0) = true ∨ (0 < j ∧ dig (s.getD j 0) = true)
theorem NameTo.zero (s : List UInt8) : NameTo s 0 := fun j h => absurd h (Nat.not_lt_zero _)
theorem NameTo.succ {s : List UInt8} {i : Nat} (h : NameTo s i) (h1 : low (s.getD i 0) = true ∨ (0 < i ∧ dig (s.getD i 0) = true)) : NameTo s (i + 1) := fun j hj => by
  rcases Nat.lt_or_ge j i with h2 | h2
  · exact h j h2
  · obtain rfl : j = i := by omega
    exact h1
theorem getD_mem8 {s : List UInt8} {j : Nat} (h : j < s.length) : s.getD j 0 ∈ s := by
  rw [List.getD_eq_getElem?_getD, List.getElem?_eq_getElem h]; exact List.getElem_mem h
theorem nameP_iff (s : List UInt8) : NameP s ↔ 1 ≤ s.length ∧ s.length ≤ 10 ∧ NameTo s s.length := by
  constructor
  · intro h
    refine ⟨List.length_pos_iff.2 h.ne, h.len, fun j hj => ?_⟩
    have h1 := h.all _ (getD_mem8 hj)
    rcases Nat.eq_zero_or_pos j with rfl | hp
    · exact .inl h.first
    · rw [Bool.or_eq_true] at h1
      exact h1.imp id (fun h => ⟨hp, h⟩)
  · rintro ⟨h1, h2, h3⟩
    refine ⟨fun e => (by rw [e] at h1; simp at h1), h2, ?_, fun c hc => ?_⟩
    · rcases h3 0 h1 with h | h
      · exact h
      · omega
    · obtain ⟨j, hj, rfl⟩ := List.getElem_of_mem hc
      have h4 := h3 j hj
      rw [List.getD_eq_getElem?_getD, List.getElem?_eq_getElem hj, Option.getD_some] at h4
      rw [Bool.or_eq_true]
      exact h4.imp id (fun h => h.2)
/-! ### Files, one by one -/
structure Ok1 (l : List Fl) (i : Nat) : Prop where
  name : NameP (l.getD i default).nm
  rise : 0 < i → Op.bytesLess (l.getD (i - 1) default).nm (l.getD i default).nm = true
  size : 0 ≤ (l.getD i default).sz ∧ (l.getD i default).sz ≤ 1920
  need : ((l.getD i default).cs.length : Int) = needI (l.getD i default).sz
  range : ∀ k ∈ (l.getD i default).cs, 3 ≤ k ∧ k < 24
theorem RightP.ok1 {l : List Fl} (h : RightP l) {i : Nat} (hi : i < l.length) : Ok1 l i :=
  have n := h.nextOf hi
  ⟨n.name, n.rise, n.size, n.need, n.range⟩
theorem allCells_pre (l : List Fl) (k : Nat) : (allCells (l.take k)).Sublist (allCells l) := by
  have e : allCells l = allCells (l.take k) ++ allCells (l.drop k) := by rw [allCells, allCells, allCells, ← List.flatMap_append, List.take_append_drop]
  rw [e]; exact List.sublist_append_left _ _
theorem right_of {l : List Fl} (h : ∀ i, i < l.length → Ok1 l i) (h8 : l.length ≤ 8) (hn : (allCells l).Nodup) : RightP l := by
  have key : ∀ i, i ≤ l.length → RightP (l.take i) := by
    intro i
    induction i with
    | zero => exact fun _ => RightP.zero l
    | succ i ih =>
      intro hi
      have o := h i (by omega)
      exact (ih (by omega)).more h8 (by omega) ⟨o.name, o.rise, o.size, o.need, o.range, by rw [← allCells_take (by omega)]; exact (allCells_pre l (i + 1)).nodup hn⟩
  exact (key l.length (Nat.le_refl _)).all (Nat.le_refl _)
/-! ### Cells, seen or seen again -/
structure SeenL (es : Array MapEntry) (S : List Int) : Prop where
  seen : SeenE es S
  le : es.size ≤ S.length
  eq : es.size = S.length ↔ S.Nodup
theorem SeenL.nil : SeenL #[] [] := ⟨SeenE.nil, by simp, by simp⟩
theorem SeenL.push {es : Array MapEntry} {S : List Int} (h : SeenL es S) {k : Int} (hk : k ∉ S) (c : Nat) : SeenL (es.push { key := .int .i64 k, val := .bool true, born := c }) (S ++ [k]) := by
  have h1 := h.le
  refine ⟨h.seen.push hk c, by rw [Array.size_push, List.length_append, List.length_singleton]; omega, ?_⟩
  rw [Array.size_push, List.length_append, List.length_singleton, Nat.add_right_cancel_iff, h.eq]
  exact ⟨fun hn => nodup_snoc hn hk, fun hn => (List.nodup_append.1 hn).1⟩
theorem SeenL.again {es : Array MapEntry} {S : List Int} (h : SeenL es S) {k : Int} (hk : k ∈ S) : SeenL es (S ++ [k]) := by
  have h1 := h.le
  refine ⟨⟨fun a ha => ?_, fun a ha => ?_⟩, by rw [List.length_append, List.length_singleton]; omega, ?_⟩
  · rcases List.mem_append.1 ha with h2 | h2
    · exact h.seen.yes a h2
    · rw [List.mem_singleton] at h2; subst h2; exact h.seen.yes a hk
  · exact h.seen.no a (fun h2 => ha (List.mem_append_left _ h2))
  · rw [List.length_append, List.length_singleton]
    refine ⟨fun h2 => (by omega), fun hn => absurd ?_ ((List.nodup_append.1 hn).2.2 k hk k (by simp))⟩
    rfl
theorem find_at {a : Int} {v : Value} {j : Nat} : ∀ (l : List MapEntry) (i : Nat), Instr.findNow (.int .i64) (.int .i64 a) l i = some (some (j, v)) → i ≤ j ∧ ∃ c, l[j - i]? = some { key := .int .i64 a, val := v, born := c }
  | [], i, h => by simp [Instr.findNow] at h
  | e :: l, i, h => by
    simp only [Instr.findNow] at h
    split at h
    · rename_i hs
      cases h
      refine ⟨Nat.le_refl _, e.born, ?_⟩
      rw [Nat.sub_self, List.getElem?_cons_zero]
      obtain ⟨key, val, born⟩ := e
      congr 2
      dsimp only at hs
      cases key <;> simp [Instr.sameNow] at hs
      obtain ⟨h1, h2⟩ := hs
      rw [h1, h2]
    · obtain ⟨h1, c, h2⟩ := find_at l (i + 1) h
      refine ⟨by omega, c, ?_⟩
      rw [show j - i = (j - (i + 1)) + 1 from by omega, List.getElem?_cons_succ]
      exact h2
    · cases h
section
variable {P : Program} {p : Post} {n : Nat} {e : Env} {ds : List Deferred} {o : Oper} {x y z : Operand} {ty ty' : TypeId} {v : Value} {w0 w : World} {L : Blocks} {K : Act → World → Prop} {Q : Exit → Act → World → Prop} {kt el : TypeId} {k : IntKind} {a : Int}
theorem c_mapAgain {i b c j : Nat} {es : Array MapEntry} (hs : St w0 L w) (ho : o.op = .mapUpdate ty x y z) (hdst : o.dst = none) (hx : opv n e x = .map (some b)) (hy : opv n e y = .int .i64 a) (hz : opv n e z = v) (ht : P.underlying ty = some (.map kt el)) (hk : P.underlying kt = some (.int .i64))
    (hi : L[i]? = some (b, .map es c)) (hf : Instr.findNow (.int .i64) (.int .i64 a) es.toList 0 = some (some (j, v))) (kk : ∀ w', St w0 (L.set i (b, .map es c)) w' → K (A n e ds) w') : OW P o (A n e ds) w K Q := by
  refine ⟨?_⟩
  have hg := hs.get i hi
  obtain ⟨_, bn, hj⟩ := find_at _ _ hf
  rw [Nat.sub_zero, Array.getElem?_toList] at hj
  have hsame : (es.modify j fun e => { e with key := .int .i64 a, val := v }) = es := by
    apply Array.ext_getElem?
    intro q
    rw [Array.getElem?_modify]
    split
    · rename_i h; subst h; rw [hj]; rfl
    · rfl
  have hbits : Instr.sameBits 10000 (.int .i64 a) (.int .i64 a) = true := by simp [Instr.sameBits]
  unfold Oper.wp
  simp [A_eval, execOp, ho, hx, hy, hz, Instr.mapUpdate, run_underlying ht, getObj, setObj, Sem.run, hg, run_checkKey hk, run_findKey hk hf, Oper.upon, hdst, A_put_none, Instr.keyThatStays, hj, hbits, hsame]
  have hlt := lt_of_has hg
  refine kk _ (hs.ofUpd i hi ⟨rfl, rfl, rfl, by simp, by simp [hlt], fun j hj => ?_⟩)
  simp only [Array.getElem?_setIfInBounds]
  rw [if_neg (fun he => hj he.symm)]
theorem c_mapSeen {i b c : Nat} {es : Array MapEntry} {S : List Int} (hS : SeenL es S) (hs : St w0 L w) (ho : o.op = .mapUpdate ty x y z) (hdst : o.dst = none) (hx : opv n e x = .map (some b)) (hy : opv n e y = .int .i64 a) (hz : opv n e z = .bool true) (ht : P.underlying ty = some (.map kt el)) (hk : P.underlying kt = some (.int .i64))
    (hi : L[i]? = some (b, .map es c)) (kk : ∀ es' c' w', SeenL es' (S ++ [a]) → St w0 (L.set i (b, .map es' c')) w' → K (A n e ds) w') : OW P o (A n e ds) w K Q := by
  by_cases hm : a ∈ S
  · obtain ⟨j, hj⟩ := hS.seen.yes a hm
    exact c_mapAgain hs ho hdst hx hy hz ht hk hi hj (fun w' => kk _ _ w' (hS.again hm))
  · exact c_mapUpdate hs ho hdst hx hy hz ht hk hi (hS.seen.no a hm) (fun w' => kk _ _ w' (hS.push hm c))
theorem y_lenMap {i b c : Nat} {es : Array MapEntry} (ho : o.op = .call { callee := .builtin .len, args := #[x], argTypes := #[ty] }) (ht : P.underlying ty = some (.map kt el)) (hx : opv n e x = .map (some b)) (hi : L[i]? = some (b, .map es c)) : Y1 P n e o (St w0 L) (iv es.size) := fun w hs => by
  have hg := hs.get i hi
  simp [execOp, ho, resolve, invoke, builtin, hx, Builtin.len_, run_underlying ht, getObj, Sem.run, hg, goInt]
theorem less_or (l l' : List UInt8) : (Op.bytesLess l l' || l == l') = !Op.bytesLess l' l := by
  induction l generalizing l' with
  | nil => cases l' <;> simp [Op.bytesLess]
  | cons a l ih =>
    cases l' with
    | nil => simp [Op.bytesLess]
    | cons b l' =>
      simp only [Op.bytesLess]
      have h := ih l'
      rcases Nat.lt_trichotomy a.toNat b.toNat with h1 | h1 | h1
      · have e1 : a < b := h1
        have e2 : ¬ b < a := fun h2 => by have : b.toNat < a.toNat := h2; omega
        have e3 : (b == a) = false := by rw [beq_eq_false_iff_ne]; intro e; subst e; omega
        simp [e1, e2, e3]
      · obtain rfl : a = b := UInt8.toNat_inj.1 h1
        have e1 : ¬ a < a := fun h2 => by have : a.toNat < a.toNat := h2; omega
        simp only [e1, decide_false, beq_self_eq_true, Bool.true_and, Bool.false_or]
        rw [← h]; simp
      · have e1 : b < a := h1
        have e2 : ¬ a < b := fun h2 => by have : a.toNat < b.toNat := h2; omega
        have e3 : (a == b) = false := by rw [beq_eq_false_iff_ne]; intro e; subst e; omega
        have e4 : ¬ a = b := by simpa using e3
        simp [e1, e2, e4]
theorem y_sle {l l' : List UInt8} (ho : o.op = .binOp .leq ty x y ty') (hx : opv n e x = str l) (hy : opv n e y = str l') : Y0 P n e o (.bool (!Op.bytesLess l' l)) := fun w => by
  simp only [execOp, ho, hx, hy, binOp, Op.stringOp, run_eqGuard_str, Sem.run_bind, Result.andThen_ok, Sem.run_pure, toList_str, less_or]
end
/-! ### A line, joined -/
theorem join_lb (f : Fl) : Lib.join (f.nm :: (f.sz :: f.cs).map Lib.itoa) [32] = lb f := by
  rw [Lib.join_cons, lb, nums, Lib.joinTail, List.map_map, ← List.flatMap_def]
  rfl
/-! ### Read, as the document reads -/
theorem reads_yes {s : List UInt8} (h : RightP (readV s)) (e : printed (readV s) = s) : Reads s (some (readV s)) := ⟨h, e⟩
theorem reads_no {s : List UInt8} (h : ¬ (RightP (readV s) ∧ printed (readV s) = s)) : Reads s none := fun m hm e => h (by
  have h1 : readV s = m := by rw [← e]; exact readV_printed (fun f hf => hm.fl hf)
  rw [h1]; exact ⟨hm, e⟩)
end Go.Proofs.YtkolfgmpmnelmabGreatDoor.Ent
