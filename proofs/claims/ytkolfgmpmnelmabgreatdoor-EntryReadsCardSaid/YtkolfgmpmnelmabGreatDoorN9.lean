/-
  Walk: entry.Parse.
-/
import Derived.Test.YtkolfgmpmnelmabGreatDoorN8
namespace Go.Proofs.YtkolfgmpmnelmabGreatDoor.Ent
open Go Vx Go.Proofs Go.RowKit
set_option linter.unusedVariables false
set_option maxRecDepth 8000
set_option maxHeartbeats 2000000
theorem trim10_any (s : List UInt8) (hl : s.length ≤ 9223372036854775807) (w : World) : C Tryz.prog 33 ⟨[str s, str [10]]⟩ w fun v w' => v = str (cutEnd s) ∧ St w [] w' :=
  Calls.mono (Tryz.strings_TrimSuffix ⟨⟨s⟩⟩ ⟨⟨[10]⟩⟩ w hl) fun e w' ⟨he, hb⟩ => ⟨_, he, by rw [suffix_cut], by rw [hb]; exact St.init w⟩
theorem strs_at {l : List (List UInt8)} {i : Int} (j : Nat) (hi : i.toNat = j) (h : j < l.length) : (⟨l.map str⟩ : Array Value)[0 + i.toNat * 1]? = some (str (l.getD j [])) := by
  rw [hi, Nat.mul_one, Nat.zero_add]
  simp [List.getD_eq_getElem?_getD, h]
theorem strs_at1 {l : List (List UInt8)} {i : Int} {ofs : Nat} (j : Nat) (hi : i.toNat = j) (ho : ofs = 1) (h : j < l.tail.length) : (⟨l.map str⟩ : Array Value)[ofs + i.toNat * 1]? = some (str (l.tail.getD j [])) := by
  subst ho
  rw [List.length_tail] at h
  rw [hi, Nat.mul_one]
  cases l with
  | nil => simp at h
  | cons a r => simp only [List.length_cons] at h; simp [List.getD_eq_getElem?_getD, show j < r.length from by omega, Nat.add_comm 1 j]
theorem Y0.castV {P : Program} {n : Nat} {e : Env} {o : Oper} {a b : Value} (h : Y0 P n e o a) (q : a = b) : Y0 P n e o b := q ▸ h
theorem Row_mono {B B' E s m : Nat} {v : Value} {xs : List Value} {ent : Blocks} (h : Row B E s v m xs ent) (hB : B' ≤ B) : Row B' E s v m xs ent := by
  refine ⟨h.1, ?_⟩
  rcases h.2 with h1 | ⟨g, cap, cur, fz, h1, h2, h3, h4⟩
  · exact .inl h1
  · exact .inr ⟨g, cap, cur, fz, h1, h2, Nat.le_trans hB h3, h4⟩
theorem EntAt.keepW {w W w' : World} {L0 L : Blocks} (hE : EntAt w) (h0 : St w L0 W) (hs : St W L w') (hf0 : ∀ z ∈ L0, w.heap.size ≤ z.1) (hf : ∀ z ∈ L, w.heap.size ≤ z.1) : EntAt w' :=
  hE.keep (h0.compose hs (fun b hb => .inr (by obtain ⟨x, hx, rfl⟩ := List.mem_map.1 hb; exact hf0 x hx))) hf
theorem freshAE {n : Nat} {L M : Blocks} (hL : ∀ x ∈ L, n ≤ x.1) (hM : ∀ x ∈ M, n ≤ x.1) : ∀ x ∈ L ++ M, n ≤ x.1 := fun x hx => (List.mem_append.1 hx).elim (hL x) (hM x)
/-- The function's own blocks, and the iterator's. -/
def PL (s : List UInt8) (b1 b2 b3 b4 bs bp bz : Nat) (u v : Value) : Blocks := [(b4, .cells #[v] 22 (0, 0)), (b3, .cells #[.nilIface] 28 (0, 0)), (b2, .cells #[.slice none 0 0] 22 (0, 0)), (b1, .cells #[str s] 9 (0, 0)), (bz, .cells #[iv 0] 3 (0, 0)), (bp, .cells #[str [10]] 9 (0, 0)), (bs, .cells #[u] 9 (0, 0))]
def PI (w : World) (s : List UInt8) (b1 b2 b3 b4 bs bp bz : Nat) (pre : List (List UInt8)) (W : World) : Prop :=
  ∃ u v ent m vc rows, pre.mapM line? = some m ∧ FB w.heap.size v (if s = [] then [] else m) vc ent rows ∧ St w (PL s b1 b2 b3 b4 bs bp bz u v ++ (ent ++ rows)) W
def PX (w : World) (s : List UInt8) (b2 b3 : Nat) (pre : List (List UInt8)) (W : World) : Prop :=
  read? s = none ∧ ∃ L, St w ((b3, .cells #[.iface 24 (iv 3)] 28 (0, 0)) :: (b2, .cells #[.slice none 0 0] 22 (0, 0)) :: L) W ∧ (∀ x ∈ L, w.heap.size ≤ x.1) ∧ ∀ x ∈ L, isC x.2 = true
theorem PL_isC {s : List UInt8} {b1 b2 b3 b4 bs bp bz : Nat} {u v : Value} : ∀ x ∈ PL s b1 b2 b3 b4 bs bp bz u v, isC x.2 = true := by
  intro x hx
  simp only [PL, List.mem_cons, List.not_mem_nil, or_false] at hx
  rcases hx with rfl | rfl | rfl | rfl | rfl | rfl | rfl <;> rfl
theorem PI.own {w wl : World} {s : List UInt8} {b1 b2 b3 b4 bs bp bz : Nat} (hw : w.heap.size ≤ wl.heap.size) : OwnFrom wl.heap.size (PI w s b1 b2 b3 b4 bs bp bz) := by
  rintro pre X Y row ⟨u, v, ent, m, vc, rows, h1, h2, h3⟩ hgr hr
  refine ⟨u, v, ent, m, vc, rows, h1, h2, h3.grown hgr (fun r e => ⟨Nat.le_trans hw (hr r e).1, (hr r e).2⟩) (fun x hx => ?_)⟩
  rcases List.mem_append.1 hx with hx | hx
  · exact PL_isC x hx
  · rcases List.mem_append.1 hx with hx | hx
    · exact Row_isC h2.row x hx
    · exact h2.isc x hx
theorem PX.own {w wl : World} {s : List UInt8} {b2 b3 : Nat} (hw : w.heap.size ≤ wl.heap.size) : OwnFrom wl.heap.size (PX w s b2 b3) := by
  rintro pre X Y row ⟨h1, L, h2, h3, h4⟩ hgr hr
  refine ⟨h1, L, h2.grown hgr (fun r e => ⟨Nat.le_trans hw (hr r e).1, (hr r e).2⟩) (fun x hx => ?_), h3, h4⟩
  rcases List.mem_cons.1 hx with rfl | hx
  · rfl
  · rcases List.mem_cons.1 hx with rfl | hx
    · rfl
    · exact h4 x hx
theorem PI.turn {w : World} {s : List UInt8} {b1 b2 b3 b4 bs bp bz : Nat} (pre : List (List UInt8)) (A : World) (v : Value) : PI w s b1 b2 b3 b4 bs bp bz pre A → PI w s b1 b2 b3 b4 bs bp bz pre (A.setCell ⟨bs, 0, none⟩ v) := by
  rintro ⟨u, v', ent, m, vc, rows, h1, h2, h3⟩
  exact ⟨v, v', ent, m, vc, rows, h1, h2, h3.setCell 6 rfl 0 v⟩
theorem perm_mid {A E R : Blocks} : (A ++ (E ++ R)).Perm ((A ++ R) ++ E) := by
  rw [List.append_assoc]
  exact List.Perm.append_left _ List.perm_append_comm
theorem atoi_bad {y : List UInt8} {e : Value} (h : (∃ n, num? y = some n ∧ numV y = n ∧ e = .nilIface) ∨ (num? y = none ∧ ∃ tp p, e = .iface tp p)) (hn : num? y = none) : ∃ tp p, e = .iface tp p := by
  rcases h with ⟨n, h1, _⟩ | ⟨_, h⟩
  · rw [h1] at hn; cases hn
  · exact h
theorem atoi_good {y : List UInt8} {e : Value} (h : (∃ n, num? y = some n ∧ numV y = n ∧ e = .nilIface) ∨ (num? y = none ∧ ∃ tp p, e = .iface tp p)) (hn : ¬ num? y = none) : num? y = some (numV y) ∧ e = .nilIface := by
  rcases h with ⟨n, h1, h2, h3⟩ | ⟨h1, _⟩
  · rw [h2]; exact ⟨h1, h3⟩
  · exact absurd h1 hn
theorem perm_mid2 {A F E R : Blocks} : (A ++ (F ++ (E ++ R))).Perm ((A ++ (F ++ R)) ++ E) := by
  rw [List.append_assoc A]
  exact List.Perm.append_left _ perm_mid
theorem perm_sw {A E F R : Blocks} : (A ++ (F ++ (E ++ R))).Perm (A ++ (E ++ (F ++ R))) := by
  refine List.Perm.append_left _ ?_
  rw [← List.append_assoc, ← List.append_assoc]
  exact List.Perm.append_right _ List.perm_append_comm
theorem perm_front {A F R : Blocks} : (A ++ (F ++ R)).Perm (F ++ (A ++ R)) := by
  rw [← List.append_assoc, ← List.append_assoc]
  exact List.Perm.append_right _ List.perm_append_comm
theorem perm_32 {a b c d e : Nat × Obj} {R : Blocks} : (a :: b :: c :: d :: e :: R).Perm (d :: e :: a :: b :: c :: R) :=
  List.Perm.append_right R (List.perm_append_comm (l₁ := [a, b, c]) (l₂ := [d, e]))
theorem headD_app {ns : List Int} {a : Int} (h : ns ≠ []) : (ns ++ [a]).headD 0 = ns.headD 0 := by cases ns <;> simp_all
theorem tail_app {ns : List Int} {a : Int} (h : ns ≠ []) : (ns ++ [a]).tail = ns.tail ++ [a] := by cases ns <;> simp_all
theorem take_snocS {l : List (List UInt8)} {k : Nat} (h : k < l.length) : l.take (k + 1) = l.take k ++ [l.getD k []] := by
  rw [List.take_add_one, List.getElem?_eq_getElem h, List.getD_eq_getElem?_getD, List.getElem?_eq_getElem h]; rfl
theorem split_at {l : List (List UInt8)} {k : Nat} (h : k < l.length) : l = l.take k ++ l.getD k [] :: l.drop (k + 1) := by
  rw [List.getD_eq_getElem?_getD, List.getElem?_eq_getElem h]
  simp
theorem Row_one {B E s m : Nat} {v : Value} {xs : List Value} {ent : Blocks} (h : Row B E s v m xs ent) : v.oneCell' = true := by
  rcases h.2 with ⟨rfl, _⟩ | ⟨g, cap, cur, fz, rfl, _⟩ <;> rfl
theorem keepsOf {B : Nat} {w W W' : World} {L0 L : Blocks} (h0 : St w L0 W) (hic : ∀ x ∈ L0, isC x.2 = true) (hs : St W L W') (h : ∀ x ∈ L, W.heap.size ≤ x.1 ∨ x.1 ∈ keys L0) : KeepsFrom B W W' :=
  KeepsFrom.ofSt hs (fun x hx => (h x hx).imp id (fun hm => by
    obtain ⟨z, hz, e⟩ := List.mem_map.1 hm
    exact ⟨z.2, by rw [← e]; exact h0.has z hz, hic z hz⟩))
theorem inA {n : Nat} {K : List Nat} {L M : Blocks} (hL : ∀ x ∈ L, n ≤ x.1 ∨ x.1 ∈ K) (hM : ∀ x ∈ M, n ≤ x.1 ∨ x.1 ∈ K) : ∀ x ∈ L ++ M, n ≤ x.1 ∨ x.1 ∈ K := fun x hx => (List.mem_append.1 hx).elim (hL x) (hM x)
theorem inC {n b : Nat} {o : Obj} {K : List Nat} {L : Blocks} (hb : n ≤ b ∨ b ∈ K) (hL : ∀ x ∈ L, n ≤ x.1 ∨ x.1 ∈ K) : ∀ x ∈ (b, o) :: L, n ≤ x.1 ∨ x.1 ∈ K := fun x hx => by
  rcases List.mem_cons.1 hx with rfl | hx
  · exact hb
  · exact hL x hx
theorem PL_same {w W W' : World} {s : List UInt8} {b1 b2 b3 b4 bs bp bz : Nat} {u v v' : Value} {X : Blocks} {L : Blocks} (h0 : St w (PL s b1 b2 b3 b4 bs bp bz u v ++ X) W) (hs : St W L W') (hL : ∀ x ∈ PL s b1 b2 b3 b4 bs bp bz u v', x ∈ L) : Same [bs, bp, bz] W W' := by
  intro k hk
  simp only [List.mem_cons, List.not_mem_nil, or_false] at hk
  rcases hk with rfl | rfl | rfl
  · rw [hs.has (k, .cells #[u] 9 (0, 0)) (hL _ (by simp [PL])), h0.has (k, .cells #[u] 9 (0, 0)) (List.mem_append_left _ (by simp [PL]))]
  · rw [hs.has (k, .cells #[str [10]] 9 (0, 0)) (hL _ (by simp [PL])), h0.has (k, .cells #[str [10]] 9 (0, 0)) (List.mem_append_left _ (by simp [PL]))]
  · rw [hs.has (k, .cells #[iv 0] 3 (0, 0)) (hL _ (by simp [PL])), h0.has (k, .cells #[iv 0] 3 (0, 0)) (List.mem_append_left _ (by simp [PL]))]
theorem keysE {A E R : Blocks} {k : Nat} (h : k ∈ keys E) : k ∈ keys (A ++ (E ++ R)) := by
  simp only [keys, List.map_append, List.mem_append]
  exact .inr (.inl h)
theorem keysR {A E R : Blocks} {x : Nat × Obj} (h : x ∈ R) : x.1 ∈ keys (A ++ (E ++ R)) := by
  simp only [keys, List.map_append, List.mem_append]
  exact .inr (.inr (List.mem_map.2 ⟨x, h, rfl⟩))
theorem isCL {a : Nat × Obj} {L : Blocks} (ha : isC a.2 = true) (h : ∀ x ∈ L, isC x.2 = true) : ∀ x ∈ a :: L, isC x.2 = true := fun x hx => by
  rcases List.mem_cons.1 hx with rfl | hx
  · exact ha
  · exact h x hx
theorem isCA {L M : Blocks} (hL : ∀ x ∈ L, isC x.2 = true) (hM : ∀ x ∈ M, isC x.2 = true) : ∀ x ∈ L ++ M, isC x.2 = true := fun x hx => (List.mem_append.1 hx).elim (hL x) (hM x)
theorem PL_keys {s : List UInt8} {b1 b2 b3 b4 bs bp bz : Nat} {u v u' v' : Value} {X : Blocks} {n : Nat} : ∀ x ∈ PL s b1 b2 b3 b4 bs bp bz u v, n ≤ x.1 ∨ x.1 ∈ keys (PL s b1 b2 b3 b4 bs bp bz u' v' ++ X) := by
  intro x hx
  right
  simp only [PL, List.mem_cons, List.not_mem_nil, or_false] at hx
  rcases hx with rfl | rfl | rfl | rfl | rfl | rfl | rfl <;> simp [keys, PL]
theorem mem7 {a b c d e f g x : Nat × Obj} {R : Blocks} (h : x ∈ R) : x ∈ a :: b :: c :: d :: e :: f :: g :: R := by simp [h]
theorem isC7 {a b c d e f g : Nat × Obj} {R : Blocks} (ha : isC a.2 = true) (hb : isC b.2 = true) (hc : isC c.2 = true) (hd : isC d.2 = true) (he : isC e.2 = true) (hf : isC f.2 = true) (hg : isC g.2 = true) (hR : ∀ x ∈ R, isC x.2 = true) : ∀ x ∈ a :: b :: c :: d :: e :: f :: g :: R, isC x.2 = true := by
  intro x hx
  simp only [List.mem_cons] at hx
  rcases hx with rfl | rfl | rfl | rfl | rfl | rfl | rfl | hx <;> first | assumption | exact hR x hx
theorem PL_fresh {n : Nat} {s : List UInt8} {b1 b2 b3 b4 bs bp bz : Nat} {u v : Value} (h1 : n ≤ b1) (h2 : n ≤ b2) (h3 : n ≤ b3) (h4 : n ≤ b4) (h5 : n ≤ bs) (h6 : n ≤ bp) (h7 : n ≤ bz) : ∀ x ∈ PL s b1 b2 b3 b4 bs bp bz u v, n ≤ x.1 := by
  intro x hx
  simp only [PL, List.mem_cons, List.not_mem_nil, or_false] at hx
  rcases hx with rfl | rfl | rfl | rfl | rfl | rfl | rfl <;> assumption
end Go.Proofs.YtkolfgmpmnelmabGreatDoor.Ent
