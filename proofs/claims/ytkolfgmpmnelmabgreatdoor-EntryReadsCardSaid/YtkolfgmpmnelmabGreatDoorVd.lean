/-
  A small frame for walks, 4: what single operations do: those that turn nothing.
-/
import Derived.Test.YtkolfgmpmnelmabGreatDoorVc
namespace Go.Proofs.YtkolfgmpmnelmabGreatDoor.Vx
open Go

/-! ### Values -/
@[reducible] def iv (i : Int) : Value := .int .i64 i
@[reducible] def uv (x : UInt32) : Value := .int .u32 (x.toNat : Int)
@[reducible] def bv (x : UInt8) : Value := .int .u8 (x.toNat : Int)
@[reducible] def qv (x : UInt64) : Value := .int .u64 (x.toNat : Int)
@[reducible] def str (l : List UInt8) : Value := .string ⟨⟨l⟩⟩
@[reducible] def pv (b off : Nat) : Value := .pointer (some ⟨b, off, none⟩)

/-! ### Steps -/
section
variable {P : Program} {ops : Array Oper} {p : Post} {n : Nat} {e : Env} {ds : List Deferred} {o : Oper} {S : World → Prop} {w : World}
/-- It yields v in every world. -/
def Y0 (P : Program) (n : Nat) (e : Env) (o : Oper) (v : Value) : Prop := ∀ w, (execOp (opv n e) o).run P w = .ok (.value v) w
/-- In every world of S. -/
def Y1 (P : Program) (n : Nat) (e : Env) (o : Oper) (S : World → Prop) (v : Value) : Prop := ∀ w, S w → (execOp (opv n e) o).run P w = .ok (.value v) w

theorem wanted_none (h : o.guard = none) {a : Act} : Region.wanted o (yielded ops a.tmps) = true := by simp [Region.wanted, h]
theorem yielded_A {j d : Nat} {b : Bool} (hj : (ops[j]?).bind (·.dst) = some d) (hb : opv n e (.tmp d) = .bool b) : yielded ops (A n e ds).tmps j = some b := by
  unfold yielded
  rw [hj]
  rw [opv_tmp] at hb
  split at hb
  · rename_i hd
    have : (tm n e)[d]? = some (.bool b) := by
      simp only [tm]
      rw [Array.getElem?_ofFn]
      simp [hd, hb]
    simp only [Option.bind_some, A, this]
  · simp [undef] at hb
theorem wanted_yes {j d : Nat} {b : Bool} (hg : o.guard = some (j, b)) (hj : (ops[j]?).bind (·.dst) = some d) (hb : opv n e (.tmp d) = .bool b) : Region.wanted o (yielded ops (A n e ds).tmps) = true := by
  simp [Region.wanted, hg, yielded_A hj hb]
theorem wanted_no {j d : Nat} {b b' : Bool} (hg : o.guard = some (j, b)) (hj : (ops[j]?).bind (·.dst) = some d) (hb : opv n e (.tmp d) = .bool b') (hne : b' ≠ b) : Region.wanted o (yielded ops (A n e ds).tmps) = false := by
  simp [Region.wanted, hg, yielded_A hj hb, hne]

theorem wanted_noU {j d : Nat} {b : Bool} (hg : o.guard = some (j, b)) (hj : (ops[j]?).bind (·.dst) = some d) (hu : opv n e (.tmp d) = undef) : Region.wanted o (yielded ops (A n e ds).tmps) = false := by
  have h : yielded ops (A n e ds).tmps j = none := by
    unfold yielded
    rw [hj]
    rw [opv_tmp] at hu
    have h1 : (tm n e)[d]? = none ∨ (tm n e)[d]? = some undef := by
      simp only [tm]
      rw [Array.getElem?_ofFn]
      by_cases hd : d < n
      · right; simp [hd] at hu ⊢; exact hu
      · left; simp [hd]
    rcases h1 with h1 | h1 <;> simp [A, h1, undef]
  simp [Region.wanted, hg, h]

theorem L0 {r : List Oper} {d : Nat} {v : Value} (hw : Region.wanted o (yielded ops (A n e ds).tmps) = true) (hd : o.dst = some d) (h : Y0 P n e o v) (k : wpL P ops p r (A n ((d, v) :: e) ds) w) : wpL P ops p (o :: r) (A n e ds) w := by
  refine ⟨?_⟩
  simp only [wpL0]; rw [if_pos hw]
  unfold Oper.wp
  rw [A_eval, h w]
  simp only [Oper.upon, hd, A_put]; exact k.out
theorem L1 {r : List Oper} {d : Nat} {v : Value} (hw : Region.wanted o (yielded ops (A n e ds).tmps) = true) (hd : o.dst = some d) (hS : S w) (h : Y1 P n e o S v) (k : wpL P ops p r (A n ((d, v) :: e) ds) w) : wpL P ops p (o :: r) (A n e ds) w := by
  refine ⟨?_⟩
  simp only [wpL0]; rw [if_pos hw]
  unfold Oper.wp
  rw [A_eval, h w hS]
  simp only [Oper.upon, hd, A_put]; exact k.out
theorem wanted_yesB {j d : Nat} {b b' : Bool} (hg : o.guard = some (j, b)) (hj : (ops[j]?).bind (·.dst) = some d) (hb : opv n e (.tmp d) = .bool b') (h : b' = b) : Region.wanted o (yielded ops (A n e ds).tmps) = true :=
  wanted_yes hg hj (hb.trans (by rw [h]))
theorem wanted_noB {j d : Nat} {b b' c : Bool} (hg : o.guard = some (j, b)) (hj : (ops[j]?).bind (·.dst) = some d) (hb : opv n e (.tmp d) = .bool b') (h : b' = c) (hne : c ≠ b) : Region.wanted o (yielded ops (A n e ds).tmps) = false :=
  wanted_no hg hj (hb.trans (by rw [h])) hne
theorem Lsp {r : List Oper} {t : Nat} {b : Bool} (hb : opv n e (.tmp t) = .bool b) (h1 : b = true → wpL P ops p r (A n e ds) w) (h2 : b = false → wpL P ops p r (A n e ds) w) : wpL P ops p r (A n e ds) w := by
  cases b
  · exact h2 rfl
  · exact h1 rfl
theorem Lkn {r : List Oper} {t : Nat} {b b0 : Bool} (_ : opv n e (.tmp t) = .bool b) (h : b = b0) (k : b = b0 → wpL P ops p r (A n e ds) w) : wpL P ops p r (A n e ds) w := k h
theorem Esp {r : List (Nat × Nat × Oper)} {t : Nat} {b : Bool} (hb : opv n e (.tmp t) = .bool b) (h1 : b = true → wpE P ops p S r (A n e ds) w) (h2 : b = false → wpE P ops p S r (A n e ds) w) : wpE P ops p S r (A n e ds) w := by
  cases b
  · exact h2 rfl
  · exact h1 rfl
theorem Ekn {r : List (Nat × Nat × Oper)} {t : Nat} {b b0 : Bool} (_ : opv n e (.tmp t) = .bool b) (h : b = b0) (k : b = b0 → wpE P ops p S r (A n e ds) w) : wpE P ops p S r (A n e ds) w := k h
theorem Wsp {c : Code} {t : Nat} {b : Bool} (hb : opv n e (.tmp t) = .bool b) (h1 : b = true → W P c p (A n e ds) w) (h2 : b = false → W P c p (A n e ds) w) : W P c p (A n e ds) w := by
  cases b
  · exact h2 rfl
  · exact h1 rfl
theorem Wkn {c : Code} {t : Nat} {b b0 : Bool} (_ : opv n e (.tmp t) = .bool b) (h : b = b0) (k : b = b0 → W P c p (A n e ds) w) : W P c p (A n e ds) w := k h
theorem W_condT {c : Operand} {x y : Code} {b : Bool} (hc : opv n e c = .bool b) (h : b = true) (k : W P x p (A n e ds) w) : W P (.cond c x y) p (A n e ds) w :=
  W_cond hc (fun _ => k) (fun h' => by rw [h] at h'; cases h')
theorem W_condF {c : Operand} {x y : Code} {b : Bool} (hc : opv n e c = .bool b) (h : b = false) (k : W P y p (A n e ds) w) : W P (.cond c x y) p (A n e ds) w :=
  W_cond hc (fun h' => by rw [h] at h'; cases h') (fun _ => k)
theorem W_drawSt {w0 : World} {L : Blocks} {a : Act} {id : Nat} (perm : List (Nat × Nat)) (hs : St w0 L w) (hm : P.follows .mixedOrders = true)
    (hst : (Region.noSelect ops && (perm.length == ops.size) && okE ops (kindOf perm) perm (Array.replicate ops.size false)) = true)
    (h : ∀ w', St w0 L w' → wpE P ops p (St w0 L) (mkE ops perm) a w') : W P (.region id ops true) p a w :=
  W_draw perm (St w0 L) hm hst (h _ (hs.drewN _))
/-- An operation whose guard shuts it out. -/
theorem Lno {r : List Oper} {d : Nat} (hw : Region.wanted o (yielded ops (A n e ds).tmps) = false) (hd : o.dst = some d) (k : wpL P ops p r (A n ((d, undef) :: e) ds) w) : wpL P ops p (o :: r) (A n e ds) w := by
  refine ⟨?_⟩
  simp only [wpL0]; rw [if_neg (by rw [hw]; simp), hd, A_put]; exact k.out
/-- What an operation does, closed. -/
structure OW (P : Program) (o : Oper) (a : Act) (w : World) (K : Act → World → Prop) (Q : Exit → Act → World → Prop) : Prop where
  out : o.wp P a w K Q
theorem wp_K {K K' : Act → World → Prop} {a : Act} {p : Post} (h : o.wp P a w K p.Q) (hk : ∀ a w, K a w → K' a w) : o.wp P a w K' p.Q := by
  revert h
  unfold Oper.wp
  generalize (execOp a.eval o).run P w = rr
  intro h
  cases rr with
  | ok x w' =>
    cases x <;> simp only [Oper.upon] at h ⊢
    case enter f args =>
      refine Calls.mono h fun e w'' he => ?_
      cases e with
      | returned u => exact hk _ _ he
      | panicked c => exact he
      | outgrown => exact he
    case row row args => exact Rows.mono h fun u w'' he => hk _ _ he
    all_goals exact hk _ _ h
  | halt x w' => cases x <;> exact h
theorem Lc {r : List Oper} (hw : Region.wanted o (yielded ops (A n e ds).tmps) = true) (h : OW P o (A n e ds) w (wpL P ops p r) p.Q) : wpL P ops p (o :: r) (A n e ds) w := by
  refine ⟨?_⟩
  simp only [wpL0]; rw [if_pos hw]; exact wp_K h.out fun _ _ h => h.out
theorem Lnil (h : p.nrm (A n e ds) w) : wpL P ops p [] (A n e ds) w := ⟨h⟩

theorem E0 {r : List (Nat × Nat × Oper)} {i d : Nat} {v : Value} (hw : Region.wanted o (yielded ops (A n e ds).tmps) = true) (hd : o.dst = some d) (h : Y0 P n e o v) (k : wpE P ops p S r (A n ((d, v) :: e) ds) w) : wpE P ops p S ((0, i, o) :: r) (A n e ds) w :=
  ⟨⟨v, .inl ⟨hw, fun w _ => by rw [A_eval]; exact h w⟩, by rw [hd, A_put]; exact k.out⟩⟩
theorem Eno {r : List (Nat × Nat × Oper)} {i d : Nat} (hw : Region.wanted o (yielded ops (A n e ds).tmps) = false) (hd : o.dst = some d) (k : wpE P ops p S r (A n ((d, undef) :: e) ds) w) : wpE P ops p S ((0, i, o) :: r) (A n e ds) w :=
  ⟨⟨undef, .inr ⟨hw, rfl⟩, by rw [hd, A_put]; exact k.out⟩⟩
theorem E1no {r : List (Nat × Nat × Oper)} {i d : Nat} (hS : S w) (hw : Region.wanted o (yielded ops (A n e ds).tmps) = false) (hd : o.dst = some d) (k : wpE P ops p S r (A n ((d, undef) :: e) ds) w) : wpE P ops p S ((1, i, o) :: r) (A n e ds) w :=
  ⟨⟨hS, undef, .inr ⟨hw, rfl⟩, by rw [hd, A_put]; exact k.out⟩⟩
theorem E1 {r : List (Nat × Nat × Oper)} {i d : Nat} {v : Value} (hS : S w) (hw : Region.wanted o (yielded ops (A n e ds).tmps) = true) (hd : o.dst = some d) (h : Y1 P n e o S v) (k : wpE P ops p S r (A n ((d, v) :: e) ds) w) : wpE P ops p S ((1, i, o) :: r) (A n e ds) w :=
  ⟨⟨hS, v, .inl ⟨hw, fun w hs => by rw [A_eval]; exact h w hs⟩, by rw [hd, A_put]; exact k.out⟩⟩
theorem E2 {r : List (Nat × Nat × Oper)} {i : Nat} (hw : Region.wanted o (yielded ops (A n e ds).tmps) = true) (h : OW P o (A n e ds) w (wpE P ops p S r) p.Q) : wpE P ops p S ((2, i, o) :: r) (A n e ds) w := by
  refine ⟨?_⟩
  simp only [wpE0]; rw [if_pos hw]; exact wp_K h.out fun _ _ h => h.out
theorem E2no {r : List (Nat × Nat × Oper)} {i d : Nat} (hw : Region.wanted o (yielded ops (A n e ds).tmps) = false) (hd : o.dst = some d) (k : wpE P ops p S r (A n ((d, undef) :: e) ds) w) : wpE P ops p S ((2, i, o) :: r) (A n e ds) w := by
  refine ⟨?_⟩
  simp only [wpE0]; rw [if_neg (by rw [hw]; simp), hd, A_put]; exact k.out
theorem E3no {r : List (Nat × Nat × Oper)} {i d : Nat} (hw : Region.wanted o (yielded ops (A n e ds).tmps) = false) (hd : o.dst = some d) (k : wpE P ops p S r (A n ((d, undef) :: e) ds) w) : wpE P ops p S ((3, i, o) :: r) (A n e ds) w := by
  refine ⟨?_⟩
  simp only [wpE0]; rw [if_neg (by rw [hw]; simp), hd, A_put]; exact k.out
theorem E3 {r : List (Nat × Nat × Oper)} {i : Nat} (hw : Region.wanted o (yielded ops (A n e ds).tmps) = true) (h : OW P o (A n e ds) w (fun a' w' => (S w → S w') ∧ wpE P ops p S r a' w') p.Q) : wpE P ops p S ((3, i, o) :: r) (A n e ds) w := by
  refine ⟨?_⟩
  simp only [wpE0]; rw [if_pos hw]; exact wp_K h.out fun _ _ h => ⟨h.1, h.2.out⟩
theorem Enil (h : p.nrm (A n e ds) w) : wpE P ops p S [] (A n e ds) w := ⟨h⟩
theorem Y0.y1 {v : Value} (h : Y0 P n e o v) : Y1 P n e o S v := fun w _ => h w
end

/-! ### Operations that turn nothing -/
section
variable {P : Program} {n : Nat} {e : Env} {ds : List Deferred} {o : Oper} {x y z : Operand} {ty ty' : TypeId} {v : Value}
theorem y_move (ho : o.op = .move x) (hx : opv n e x = v) : Y0 P n e o v := fun w => by simp [execOp, ho, hx]
theorem y_assign (ho : o.op = .assign x) (hx : opv n e x = v) : Y0 P n e o v := fun w => by simp [execOp, ho, hx]
theorem y_pick {b : Bool} {v1 v2 : Value} (ho : o.op = .pick x y z) (hx : opv n e x = .bool b) (hy : opv n e y = v1) (hz : opv n e z = v2) : Y0 P n e o (match b with | true => v1 | false => v2) := fun w => by
  cases b <;> simp [execOp, ho, hx, hy, hz, asBool]
theorem run_eqGuard_plain (op : BinOp) (t : TypeId) (x y : Operand) (a b : Value) (h : op ≠ .eql ∧ op ≠ .neq) (w : World) : (eqGuard op t x y a b).run P w = .ok () w := by
  unfold eqGuard
  cases op <;> simp_all
theorem run_eqGuard_int (op : BinOp) (t : TypeId) (x y : Operand) (k k' : IntKind) (a b : Int) (w : World) : (eqGuard op t x y (.int k a) (.int k' b)).run P w = .ok () w := by
  unfold eqGuard
  cases op <;> simp
theorem run_eqGuard_str (op : BinOp) (t : TypeId) (x y : Operand) (a b : ByteArray) (w : World) : (eqGuard op t x y (.string a) (.string b)).run P w = .ok () w := by
  unfold eqGuard
  cases op <;> simp
theorem run_eqGuard_bool (op : BinOp) (t : TypeId) (x y : Operand) (a b : Bool) (w : World) : (eqGuard op t x y (.bool a) (.bool b)).run P w = .ok () w := by
  unfold eqGuard
  cases op <;> simp
theorem y_pickT {b : Bool} {v1 : Value} (ho : o.op = .pick x y z) (hx : opv n e x = .bool b) (h : b = true) (hy : opv n e y = v1) : Y0 P n e o v1 := fun w => by
  simp [execOp, ho, hx, hy, asBool, h]
theorem y_pickF {b : Bool} {v1 : Value} (ho : o.op = .pick x y z) (hx : opv n e x = .bool b) (h : b = false) (hz : opv n e z = v1) : Y0 P n e o v1 := fun w => by
  simp [execOp, ho, hx, hz, asBool, h]
variable {k : IntKind} {a b : Int}
theorem y_add (ho : o.op = .binOp .add ty x y ty') (hx : opv n e x = .int k a) (hy : opv n e y = .int k b) : Y0 P n e o (.int k (k.wrap (a + b))) := fun w => by
  simp [execOp, ho, hx, hy, binOp, Op.intArith, run_eqGuard_int]
theorem y_sub (ho : o.op = .binOp .sub ty x y ty') (hx : opv n e x = .int k a) (hy : opv n e y = .int k b) : Y0 P n e o (.int k (k.wrap (a - b))) := fun w => by
  simp [execOp, ho, hx, hy, binOp, Op.intArith, run_eqGuard_int]
theorem y_mul (ho : o.op = .binOp .mul ty x y ty') (hx : opv n e x = .int k a) (hy : opv n e y = .int k b) : Y0 P n e o (.int k (k.wrap (a * b))) := fun w => by
  simp [execOp, ho, hx, hy, binOp, Op.intArith, run_eqGuard_int]
theorem y_lt (ho : o.op = .binOp .lss ty x y ty') (hx : opv n e x = .int k a) (hy : opv n e y = .int k b) : Y0 P n e o (.bool (decide (a < b))) := fun w => by
  simp [execOp, ho, hx, hy, binOp, Op.intCmp, run_eqGuard_int]
theorem y_le (ho : o.op = .binOp .leq ty x y ty') (hx : opv n e x = .int k a) (hy : opv n e y = .int k b) : Y0 P n e o (.bool (decide (a ≤ b))) := fun w => by
  simp [execOp, ho, hx, hy, binOp, Op.intCmp, run_eqGuard_int]
theorem y_gt (ho : o.op = .binOp .gtr ty x y ty') (hx : opv n e x = .int k a) (hy : opv n e y = .int k b) : Y0 P n e o (.bool (decide (b < a))) := fun w => by
  simp [execOp, ho, hx, hy, binOp, Op.intCmp, run_eqGuard_int]
theorem y_ge (ho : o.op = .binOp .geq ty x y ty') (hx : opv n e x = .int k a) (hy : opv n e y = .int k b) : Y0 P n e o (.bool (decide (b ≤ a))) := fun w => by
  simp [execOp, ho, hx, hy, binOp, Op.intCmp, run_eqGuard_int]
theorem y_eq (ho : o.op = .binOp .eql ty x y ty') (hx : opv n e x = .int k a) (hy : opv n e y = .int k b) : Y0 P n e o (.bool (decide (a = b))) := fun w => by
  simp [execOp, ho, hx, hy, binOp, Op.intCmp, run_eqGuard_int]; rfl
theorem y_ne (ho : o.op = .binOp .neq ty x y ty') (hx : opv n e x = .int k a) (hy : opv n e y = .int k b) : Y0 P n e o (.bool (!decide (a = b))) := fun w => by
  simp [execOp, ho, hx, hy, binOp, Op.intCmp, run_eqGuard_int]; rfl
theorem wrap_i64 {z : Int} (h : -9223372036854775808 ≤ z ∧ z ≤ 9223372036854775807) : IntKind.i64.wrap z = z := IntWalk.i64_in z h
theorem y_add64 (ho : o.op = .binOp .add ty x y ty') (hx : opv n e x = iv a) (hy : opv n e y = iv b) (h : -9223372036854775808 ≤ a + b ∧ a + b ≤ 9223372036854775807) : Y0 P n e o (iv (a + b)) := by
  have := y_add (P := P) ho hx hy; rw [wrap_i64 h] at this; exact this
theorem y_sub64 (ho : o.op = .binOp .sub ty x y ty') (hx : opv n e x = iv a) (hy : opv n e y = iv b) (h : -9223372036854775808 ≤ a - b ∧ a - b ≤ 9223372036854775807) : Y0 P n e o (iv (a - b)) := by
  have := y_sub (P := P) ho hx hy; rw [wrap_i64 h] at this; exact this
theorem y_mul64 (ho : o.op = .binOp .mul ty x y ty') (hx : opv n e x = iv a) (hy : opv n e y = iv b) (h : -9223372036854775808 ≤ a * b ∧ a * b ≤ 9223372036854775807) : Y0 P n e o (iv (a * b)) := by
  have := y_mul (P := P) ho hx hy; rw [wrap_i64 h] at this; exact this
theorem y_rem (ho : o.op = .binOp .rem ty x y ty') (hx : opv n e x = .int k a) (hy : opv n e y = .int k b) (hb : b ≠ 0) : Y0 P n e o (.int k (a.tmod b)) := fun w => by
  simp [execOp, ho, hx, hy, binOp, Op.intDiv, run_eqGuard_int, hb]
theorem y_quo (ho : o.op = .binOp .quo ty x y ty') (hx : opv n e x = .int k a) (hy : opv n e y = .int k b) (hb : b ≠ 0) : Y0 P n e o (.int k (k.wrap (a.tdiv b))) := fun w => by
  simp [execOp, ho, hx, hy, binOp, Op.intDiv, run_eqGuard_int, hb]
theorem y_rem64 (ho : o.op = .binOp .rem ty x y ty') (hx : opv n e x = iv a) (hy : opv n e y = iv b) (ha : 0 ≤ a) (hb : 0 < b) : Y0 P n e o (iv (a % b)) := by
  have := y_rem (P := P) ho hx hy (by omega); rw [Int.tmod_eq_emod_of_nonneg ha] at this; exact this
theorem y_quo64 (ho : o.op = .binOp .quo ty x y ty') (hx : opv n e x = iv a) (hy : opv n e y = iv b) (ha : 0 ≤ a) (hb : 0 < b) (hm : a ≤ 9223372036854775807) : Y0 P n e o (iv (a / b)) := by
  have := y_quo (P := P) ho hx hy (by omega)
  rw [Int.tdiv_eq_ediv_of_nonneg ha, wrap_i64 ⟨by have := Int.ediv_nonneg ha (Int.le_of_lt hb); omega, by have := Int.ediv_le_self b ha; omega⟩] at this
  exact this

/-! bools -/
theorem y_not {c : Bool} (ho : o.op = .unOp .not ty x) (hx : opv n e x = .bool c) : Y0 P n e o (.bool (!c)) := fun w => by
  simp [execOp, ho, hx, Op.unary]
theorem binOp_eql_bool (a b : Bool) : binOp .eql ty (.bool a) (.bool b) = (do pure (.bool (← Op.equal ty (.bool a) (.bool b)))) := rfl
theorem binOp_neq_bool (a b : Bool) : binOp .neq ty (.bool a) (.bool b) = (do pure (.bool (!(← Op.equal ty (.bool a) (.bool b))))) := rfl
theorem run_equal_bool (ht : P.underlying ty = some .bool) (a b : Bool) (w : World) : (Op.equal ty (.bool a) (.bool b)).run P w = .ok (a == b) w := by
  have h : ∀ d : Nat, (Op.equalIn (d + 1) ty (.bool a) (.bool b)).run P w = .ok (a == b) w := fun d => by simp [Op.equalIn, run_underlying ht]
  exact h 9999
theorem y_beq {a b : Bool} (ho : o.op = .binOp .eql ty x y ty') (ht : P.underlying ty = some .bool) (hx : opv n e x = .bool a) (hy : opv n e y = .bool b) : Y0 P n e o (.bool (a == b)) := fun w => by
  simp only [execOp, ho, hx, hy, Sem.run_bind, run_eqGuard_bool, Result.andThen_ok, binOp_eql_bool, run_equal_bool ht, Sem.run_pure]
theorem y_bne {a b : Bool} (ho : o.op = .binOp .neq ty x y ty') (ht : P.underlying ty = some .bool) (hx : opv n e x = .bool a) (hy : opv n e y = .bool b) : Y0 P n e o (.bool (!(a == b))) := fun w => by
  simp only [execOp, ho, hx, hy, Sem.run_bind, run_eqGuard_bool, Result.andThen_ok, binOp_neq_bool, run_equal_bool ht, Sem.run_pure]
/-! numbers of 32 bits, of 8, of 64 -/
theorem wrap_u32 (z : Int) : IntKind.u32.wrap z = z % 4294967296 := by simp [IntKind.wrap, IntKind.bits, IntKind.signed]
theorem wrap_u8 (z : Int) : IntKind.u8.wrap z = z % 256 := by simp [IntKind.wrap, IntKind.bits, IntKind.signed]
theorem wrap_u64 (z : Int) : IntKind.u64.wrap z = z % 18446744073709551616 := by simp [IntKind.wrap, IntKind.bits, IntKind.signed]
variable {u u' : UInt32}
theorem y_add32 (ho : o.op = .binOp .add ty x y ty') (hx : opv n e x = uv u) (hy : opv n e y = uv u') : Y0 P n e o (uv (u + u')) := by
  have := y_add (P := P) ho hx hy
  rw [wrap_u32] at this
  have h : ((u.toNat : Int) + u'.toNat) % 4294967296 = ((u + u').toNat : Int) := by rw [UInt32.toNat_add]; omega
  rw [h] at this; exact this
theorem y_sub32 (ho : o.op = .binOp .sub ty x y ty') (hx : opv n e x = uv u) (hy : opv n e y = uv u') : Y0 P n e o (uv (u - u')) := by
  have := y_sub (P := P) ho hx hy
  rw [wrap_u32] at this
  have h : ((u.toNat : Int) - u'.toNat) % 4294967296 = ((u - u').toNat : Int) := by
    rw [UInt32.toNat_sub]
    have := u.toNat_lt; have := u'.toNat_lt; omega
  rw [h] at this; exact this
theorem bits32 (u : UInt32) : BitVec.ofInt 32 (u.toNat : Int) = u.toBitVec := by
  apply BitVec.eq_of_toNat_eq
  rw [BitVec.toNat_ofInt]
  have := u.toNat_lt
  simp [UInt32.toNat_toBitVec] <;> omega
theorem y_bits32 {op : BinOp} {f : BitVec 32 → BitVec 32 → BitVec 32} (hop : ∀ a b : Int, Op.intBits op .u32 a b = pure (.int .u32 (IntKind.u32.wrap (f (BitVec.ofInt 32 a) (BitVec.ofInt 32 b)).toNat)))
    (hb : ∀ (a b : Int) (t : TypeId), binOp op t (.int .u32 a) (.int .u32 b) = Op.intBits op .u32 a b)
    (ho : o.op = .binOp op ty x y ty') (hx : opv n e x = uv u) (hy : opv n e y = uv u') : Y0 P n e o (uv ⟨f u.toBitVec u'.toBitVec⟩) := fun w => by
  simp only [execOp, ho, hx, hy, hb, hop, bits32, Sem.run_bind, run_eqGuard_int, Result.andThen_ok, Sem.run_pure]
  rw [wrap_u32, Int.emod_eq_of_lt (by omega) (by have := (f u.toBitVec u'.toBitVec).isLt; omega)]
  rfl
theorem y_xor32 (ho : o.op = .binOp .xor ty x y ty') (hx : opv n e x = uv u) (hy : opv n e y = uv u') : Y0 P n e o (uv (u ^^^ u')) :=
  y_bits32 (f := (· ^^^ ·)) (fun _ _ => rfl) (fun _ _ _ => by simp [binOp]) ho hx hy
theorem y_or32 (ho : o.op = .binOp .or ty x y ty') (hx : opv n e x = uv u) (hy : opv n e y = uv u') : Y0 P n e o (uv (u ||| u')) :=
  y_bits32 (f := (· ||| ·)) (fun _ _ => rfl) (fun _ _ _ => by simp [binOp]) ho hx hy
theorem y_and32 (ho : o.op = .binOp .and ty x y ty') (hx : opv n e x = uv u) (hy : opv n e y = uv u') : Y0 P n e o (uv (u &&& u')) :=
  y_bits32 (f := (· &&& ·)) (fun _ _ => rfl) (fun _ _ _ => by simp [binOp]) ho hx hy
theorem y_shl32 {k : IntKind} {s : Nat} (ho : o.op = .binOp .shl ty x y ty') (hx : opv n e x = uv u) {a : Int} (hy : opv n e y = .int k a) (ha : a = (s : Int)) (hs : s < 32) : Y0 P n e o (uv (u <<< UInt32.ofNat s)) := fun w => by
  subst ha
  have h1 : ¬ ((s : Int) < 0) := by omega
  simp only [execOp, ho, hx, hy, binOp, Op.shift, Sem.run_bind, run_eqGuard_int, Result.andThen_ok, h1, if_false, Sem.run_pure, Int.toNat_natCast]
  have h2 : min s IntKind.u32.bits = s := by simp [IntKind.bits]; omega
  have h3 : (UInt32.ofNat s).toNat % 32 = s := by simp; omega
  rw [h2, wrap_u32]
  congr 3
  rw [UInt32.toNat_shiftLeft, h3, Nat.shiftLeft_eq]
  simp only [Int.natCast_emod, Int.natCast_mul, Int.natCast_pow]
  rfl
theorem y_shr32 {k : IntKind} {s : Nat} (ho : o.op = .binOp .shr ty x y ty') (hx : opv n e x = uv u) {a : Int} (hy : opv n e y = .int k a) (ha : a = (s : Int)) (hs : s < 32) : Y0 P n e o (uv (u >>> UInt32.ofNat s)) := fun w => by
  subst ha
  have h1 : ¬ ((s : Int) < 0) := by omega
  simp only [execOp, ho, hx, hy, binOp, Op.shift, Sem.run_bind, run_eqGuard_int, Result.andThen_ok, h1, if_false, Sem.run_pure, Int.toNat_natCast]
  have h2 : min s IntKind.u32.bits = s := by simp [IntKind.bits]; omega
  have h3 : (UInt32.ofNat s).toNat % 32 = s := by simp; omega
  rw [h2]
  congr 3
  rw [UInt32.toNat_shiftRight, h3, Nat.shiftRight_eq_div_pow]
  have hp : (2 : Int) ^ s = ((2 ^ s : Nat) : Int) := by rw [Int.natCast_pow]; rfl
  rw [hp, Int.fdiv_eq_ediv_of_nonneg _ (Int.natCast_nonneg _)]
  exact (Int.natCast_ediv _ _).symm
theorem y_shri64 {k : IntKind} {a c : Int} {s : Nat} (ho : o.op = .binOp .shr ty x y ty') (hx : opv n e x = iv a) (hy : opv n e y = .int k c) (hc : c = (s : Int)) (hs : s < 64) : Y0 P n e o (iv (a / 2 ^ s)) := fun w => by
  subst hc
  have h1 : ¬ ((s : Int) < 0) := by omega
  simp only [execOp, ho, hx, hy, binOp, Op.shift, Sem.run_bind, run_eqGuard_int, Result.andThen_ok, h1, if_false, Sem.run_pure, Int.toNat_natCast]
  have h2 : min s IntKind.i64.bits = s := by simp [IntKind.bits]; omega
  rw [h2, Int.fdiv_eq_ediv_of_nonneg _ (by have hp : (2 : Int) ^ s = ((2 ^ s : Nat) : Int) := by rw [Int.natCast_pow]; rfl
                                           rw [hp]; exact Int.natCast_nonneg _)]
theorem y_xorneg32 (ho : o.op = .unOp .xor ty x) (hx : opv n e x = uv u) : Y0 P n e o (uv (~~~u)) := fun w => by
  have h1 : (BitVec.ofInt 32 (IntKind.u32.max) ^^^ BitVec.ofInt 32 (u.toNat : Int)) = ~~~u.toBitVec := by
    rw [bits32]
    have : BitVec.ofInt 32 IntKind.u32.max = BitVec.allOnes 32 := by decide
    rw [this, BitVec.allOnes_xor]
  simp only [execOp, ho, hx, Op.unary, Op.intBits, IntKind.signed, Bool.false_eq_true, if_false, IntKind.bits, Sem.run_bind, Sem.run_pure, Result.andThen_ok]
  show Result.ok (Next.value (Value.int .u32 (IntKind.u32.wrap ((BitVec.ofInt 32 IntKind.u32.max ^^^ BitVec.ofInt 32 (u.toNat : Int)).toNat)))) w = _
  rw [h1, wrap_u32, Int.emod_eq_of_lt (by omega) (by have := (~~~u.toBitVec).isLt; omega)]
  rfl
variable {c c' : UInt8} {q q' : UInt64}
theorem bits8 (u : UInt8) : BitVec.ofInt 8 (u.toNat : Int) = u.toBitVec := by
  apply BitVec.eq_of_toNat_eq
  rw [BitVec.toNat_ofInt]
  have := u.toNat_lt
  simp [UInt8.toNat_toBitVec] <;> omega
theorem y_bits8 {op : BinOp} {f : BitVec 8 → BitVec 8 → BitVec 8} (hop : ∀ a b : Int, Op.intBits op .u8 a b = pure (.int .u8 (IntKind.u8.wrap (f (BitVec.ofInt 8 a) (BitVec.ofInt 8 b)).toNat)))
    (hb : ∀ (a b : Int) (t : TypeId), binOp op t (.int .u8 a) (.int .u8 b) = Op.intBits op .u8 a b)
    (ho : o.op = .binOp op ty x y ty') (hx : opv n e x = bv c) (hy : opv n e y = bv c') : Y0 P n e o (bv ⟨f c.toBitVec c'.toBitVec⟩) := fun w => by
  simp only [execOp, ho, hx, hy, hb, hop, bits8, Sem.run_bind, run_eqGuard_int, Result.andThen_ok, Sem.run_pure]
  rw [wrap_u8, Int.emod_eq_of_lt (by omega) (by have := (f c.toBitVec c'.toBitVec).isLt; omega)]
  rfl
theorem y_xor8 (ho : o.op = .binOp .xor ty x y ty') (hx : opv n e x = bv c) (hy : opv n e y = bv c') : Y0 P n e o (bv (c ^^^ c')) :=
  y_bits8 (f := (· ^^^ ·)) (fun _ _ => rfl) (fun _ _ _ => by simp [binOp]) ho hx hy
theorem y_and8 (ho : o.op = .binOp .and ty x y ty') (hx : opv n e x = bv c) (hy : opv n e y = bv c') : Y0 P n e o (bv (c &&& c')) :=
  y_bits8 (f := (· &&& ·)) (fun _ _ => rfl) (fun _ _ _ => by simp [binOp]) ho hx hy
theorem y_or8 (ho : o.op = .binOp .or ty x y ty') (hx : opv n e x = bv c) (hy : opv n e y = bv c') : Y0 P n e o (bv (c ||| c')) :=
  y_bits8 (f := (· ||| ·)) (fun _ _ => rfl) (fun _ _ _ => by simp [binOp]) ho hx hy
theorem y_shr8 {k : IntKind} {s : Nat} (ho : o.op = .binOp .shr ty x y ty') (hx : opv n e x = bv c) {a : Int} (hy : opv n e y = .int k a) (ha : a = (s : Int)) (hs : s < 8) : Y0 P n e o (bv (c >>> UInt8.ofNat s)) := fun w => by
  subst ha
  have h1 : ¬ ((s : Int) < 0) := by omega
  simp only [execOp, ho, hx, hy, binOp, Op.shift, Sem.run_bind, run_eqGuard_int, Result.andThen_ok, h1, if_false, Sem.run_pure, Int.toNat_natCast]
  have h2 : min s IntKind.u8.bits = s := by simp [IntKind.bits]; omega
  have h3 : (UInt8.ofNat s).toNat % 8 = s := by simp; omega
  rw [h2]
  congr 3
  rw [UInt8.toNat_shiftRight, h3, Nat.shiftRight_eq_div_pow]
  have hp : (2 : Int) ^ s = ((2 ^ s : Nat) : Int) := by rw [Int.natCast_pow]; rfl
  rw [hp, Int.fdiv_eq_ediv_of_nonneg _ (Int.natCast_nonneg _)]
  exact (Int.natCast_ediv _ _).symm
theorem y_shl8 {k : IntKind} {s : Nat} (ho : o.op = .binOp .shl ty x y ty') (hx : opv n e x = bv c) {a : Int} (hy : opv n e y = .int k a) (ha : a = (s : Int)) (hs : s < 8) : Y0 P n e o (bv (c <<< UInt8.ofNat s)) := fun w => by
  subst ha
  have h1 : ¬ ((s : Int) < 0) := by omega
  simp only [execOp, ho, hx, hy, binOp, Op.shift, Sem.run_bind, run_eqGuard_int, Result.andThen_ok, h1, if_false, Sem.run_pure, Int.toNat_natCast]
  have h2 : min s IntKind.u8.bits = s := by simp [IntKind.bits]; omega
  have h3 : (UInt8.ofNat s).toNat % 8 = s := by simp; omega
  rw [h2, wrap_u8]
  congr 3
  rw [UInt8.toNat_shiftLeft, h3, Nat.shiftLeft_eq]
  simp only [Int.natCast_emod, Int.natCast_mul, Int.natCast_pow]
  rfl
theorem y_shr64 {k : IntKind} {s : Nat} (ho : o.op = .binOp .shr ty x y ty') (hx : opv n e x = qv q) {a : Int} (hy : opv n e y = .int k a) (ha : a = (s : Int)) (hs : s < 64) : Y0 P n e o (qv (q >>> UInt64.ofNat s)) := fun w => by
  subst ha
  have h1 : ¬ ((s : Int) < 0) := by omega
  simp only [execOp, ho, hx, hy, binOp, Op.shift, Sem.run_bind, run_eqGuard_int, Result.andThen_ok, h1, if_false, Sem.run_pure, Int.toNat_natCast]
  have h2 : min s IntKind.u64.bits = s := by simp [IntKind.bits]; omega
  have h3 : (UInt64.ofNat s).toNat % 64 = s := by simp; omega
  rw [h2]
  congr 3
  rw [UInt64.toNat_shiftRight, h3, Nat.shiftRight_eq_div_pow]
  have hp : (2 : Int) ^ s = ((2 ^ s : Nat) : Int) := by rw [Int.natCast_pow]; rfl
  rw [hp, Int.fdiv_eq_ediv_of_nonneg _ (Int.natCast_nonneg _)]
  exact (Int.natCast_ediv _ _).symm
theorem y_mul64u (ho : o.op = .binOp .mul ty x y ty') (hx : opv n e x = qv q) (hy : opv n e y = qv q') : Y0 P n e o (qv (q * q')) := by
  have := y_mul (P := P) ho hx hy
  rw [wrap_u64] at this
  have h : ((q.toNat : Int) * q'.toNat) % 18446744073709551616 = ((q * q').toNat : Int) := by rw [UInt64.toNat_mul]; simp only [Int.natCast_emod, Int.natCast_mul]; rfl
  rw [h] at this; exact this
/-! conversions between numbers -/
theorem run_convert_int {k : IntKind} {a : Int} {j : IntKind} {d : TypeDesc} (hs : P.underlying ty = some d) (ht : P.underlying ty' = some (.int k)) (w : World) : (convert ty ty' (.int j a)).run P w = .ok (.int k (k.wrap a)) w := by
  simp [convert, run_underlying hs, run_underlying ht, Conv.intToInt]
theorem y_conv {k j : IntKind} {a : Int} {d : TypeDesc} (ho : o.op = .convert ty ty' x) (hs : P.underlying ty = some d) (ht : P.underlying ty' = some (.int k)) (hx : opv n e x = .int j a) : Y0 P n e o (.int k (k.wrap a)) := fun w => by
  simp only [execOp, ho, hx, Sem.run_bind, run_convert_int hs ht, Result.andThen_ok, Sem.run_pure]
theorem y_c8to32 {d : TypeDesc} (ho : o.op = .convert ty ty' x) (hs : P.underlying ty = some d) (ht : P.underlying ty' = some (.int .u32)) (hx : opv n e x = bv c) : Y0 P n e o (uv c.toUInt32) := by
  have := y_conv ho hs ht hx
  rw [wrap_u32] at this
  have h : (c.toNat : Int) % 4294967296 = (c.toUInt32.toNat : Int) := by rw [UInt8.toNat_toUInt32]; have := c.toNat_lt; omega
  rw [h] at this; exact this
theorem y_c32to8 {d : TypeDesc} (ho : o.op = .convert ty ty' x) (hs : P.underlying ty = some d) (ht : P.underlying ty' = some (.int .u8)) (hx : opv n e x = uv u) : Y0 P n e o (bv u.toUInt8) := by
  have := y_conv ho hs ht hx
  rw [wrap_u8] at this
  have h : (u.toNat : Int) % 256 = (u.toUInt8.toNat : Int) := by rw [UInt32.toNat_toUInt8]; omega
  rw [h] at this; exact this
theorem y_c64to8 {d : TypeDesc} (ho : o.op = .convert ty ty' x) (hs : P.underlying ty = some d) (ht : P.underlying ty' = some (.int .u8)) (hx : opv n e x = qv q) : Y0 P n e o (bv q.toUInt8) := by
  have := y_conv ho hs ht hx
  rw [wrap_u8] at this
  have h : (q.toNat : Int) % 256 = (q.toUInt8.toNat : Int) := by rw [UInt64.toNat_toUInt8]; omega
  rw [h] at this; exact this
/-- The bits of a whole number. -/
def u8of (a : Int) : UInt8 := UInt8.ofNat (a % 256).toNat
def u32of (a : Int) : UInt32 := UInt32.ofNat (a % 4294967296).toNat
def u64of (a : Int) : UInt64 := UInt64.ofNat (a % 18446744073709551616).toNat
theorem y_cito8 {a : Int} {d : TypeDesc} (ho : o.op = .convert ty ty' x) (hs : P.underlying ty = some d) (ht : P.underlying ty' = some (.int .u8)) (hx : opv n e x = .int .i64 a) : Y0 P n e o (bv (u8of a)) := by
  have := y_conv ho hs ht hx
  rw [wrap_u8] at this
  have h : a % 256 = ((u8of a).toNat : Int) := by simp [u8of]; omega
  rw [h] at this; exact this
theorem y_cito32 {a : Int} {d : TypeDesc} (ho : o.op = .convert ty ty' x) (hs : P.underlying ty = some d) (ht : P.underlying ty' = some (.int .u32)) (hx : opv n e x = .int .i64 a) : Y0 P n e o (uv (u32of a)) := by
  have := y_conv ho hs ht hx
  rw [wrap_u32] at this
  have h : a % 4294967296 = ((u32of a).toNat : Int) := by simp [u32of]; omega
  rw [h] at this; exact this
theorem y_cito64 {a : Int} {d : TypeDesc} (ho : o.op = .convert ty ty' x) (hs : P.underlying ty = some d) (ht : P.underlying ty' = some (.int .u64)) (hx : opv n e x = .int .i64 a) : Y0 P n e o (qv (u64of a)) := by
  have := y_conv ho hs ht hx
  rw [wrap_u64] at this
  have h : a % 18446744073709551616 = ((u64of a).toNat : Int) := by simp [u64of]; omega
  rw [h] at this; exact this
theorem y_c8toi {d : TypeDesc} (ho : o.op = .convert ty ty' x) (hs : P.underlying ty = some d) (ht : P.underlying ty' = some (.int .i64)) (hx : opv n e x = bv c) : Y0 P n e o (iv c.toNat) := by
  have := y_conv ho hs ht hx
  rw [wrap_i64 (by have := c.toNat_lt; omega)] at this; exact this
/-! strings -/
theorem y_len {l : List UInt8} (ho : o.op = .call { callee := .builtin .len, args := #[x], argTypes := #[ty] }) (ht : P.underlying ty = some .string) (hx : opv n e x = str l) : Y0 P n e o (iv l.length) := fun w => by
  have hs : (⟨⟨l⟩⟩ : ByteArray).size = l.length := rfl
  simp [execOp, ho, resolve, invoke, builtin, Builtin.len_, hx, run_underlying ht, goInt, hs]
theorem y_slen {a : Option Addr} {m cap : Nat} {d : TypeId} (ho : o.op = .call { callee := .builtin .len, args := #[x], argTypes := #[ty] }) (ht : P.underlying ty = some (.slice d)) (hx : opv n e x = .slice a m cap) : Y0 P n e o (iv m) := fun w => by
  simp [execOp, ho, resolve, invoke, builtin, Builtin.len_, hx, run_underlying ht, goInt]
theorem y_sindex {l : List UInt8} {k : IntKind} {i : Int} (ho : o.op = .index ty x y) (ht : P.underlying ty = some .string) (hx : opv n e x = str l) (hy : opv n e y = .int k i) (h0 : 0 ≤ i) (h1 : i < l.length) : Y0 P n e o (bv (l.getD i.toNat 0)) := fun w => by
  have h2 : i.toNat < l.length := by omega
  have h3 : (⟨⟨l⟩⟩ : ByteArray)[i.toNat]? = some (l.getD i.toNat 0) := by
    have hs : i.toNat < (⟨⟨l⟩⟩ : ByteArray).size := h2
    rw [getElem?_pos (⟨⟨l⟩⟩ : ByteArray) i.toNat hs, ByteArray.getElem_eq_getElem_data]
    simp [h2]
  simp only [execOp, ho, hx, hy, Instr.index, asIntOf, Sem.run_bind, Sem.run_pure, Result.andThen_ok, run_underlying ht, if_pos h0, h3]
end
end Go.Proofs.YtkolfgmpmnelmabGreatDoor.Vx
