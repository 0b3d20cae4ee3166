/-
  Walks: slices.Backward over writes, (*zone.Device).Get where writes wait.
-/
import Derived.Test.YtkolfgmpmnelmabDoorZL
namespace Go.Proofs.YtkolfgmpmnelmabDoor
open Go Vx Go.Proofs Go.RowKit Go.Shelf
set_option linter.unusedVariables false
attribute [local go_sem] Oper.semAt_some

/-- The writes, from the last one on, each with its place. -/
def backL : Nat → List (Nat × List UInt8) → List (Nat × Nat × List UInt8)
  | 0, _ => []
  | k + 1, l => (k, l.getD k (0, [])) :: backL k l
/-- What has come when a round says 'no more'. -/
def PartOf (ws : List (Nat × List UInt8)) (pre : List (Nat × Nat × List UInt8)) : Prop := ∃ k, k < ws.length ∧ pre ++ backL k ws = backL ws.length ws
theorem backL_len : ∀ (n : Nat) (l : List (Nat × List UInt8)), (backL n l).length = n
  | 0, _ => rfl
  | n + 1, l => by rw [backL, List.length_cons, backL_len n l]
theorem backL_at : ∀ (n : Nat) (l : List (Nat × List UInt8)) (j : Nat), j < n → (backL n l)[j]? = some (n - 1 - j, l.getD (n - 1 - j) (0, []))
  | 0, _, j, h => absurd h (Nat.not_lt_zero _)
  | n + 1, l, 0, _ => by rw [backL]; simp
  | n + 1, l, j + 1, h => by
    rw [backL, List.getElem?_cons_succ, backL_at n l j (by omega)]
    have e : n - 1 - j = n + 1 - 1 - (j + 1) := by omega
    rw [e]
/-- The last write to a slot, or what it had. -/
theorem landF_skip {slot : Nat → List UInt8} {l : List (Nat × List UInt8)} {i : Nat} {k : Nat} : ∀ {n : Nat}, k ≤ n → (∀ m, k ≤ m → m < n → (l.getD m (0, [])).1 ≠ i) → landF slot l (fun _ => true) n i = landF slot l (fun _ => true) k i
  | 0, h, _ => by rw [show k = 0 by omega]
  | n + 1, h, hn => by
    by_cases e : k = n + 1
    · rw [e]
    · rw [landF, if_pos rfl, updF_ne _ _ (fun e2 => hn n (by omega) (by omega) e2.symm)]
      exact landF_skip (by omega) (fun m h1 h2 => hn m h1 (by omega))
theorem landF_none {slot : Nat → List UInt8} {l : List (Nat × List UInt8)} {i : Nat} {ys : List (Nat × Nat × List UInt8)} (hy : ys = backL l.length l) (h : ∀ p ∈ ys, p.2.1 ≠ i) : landF slot l (fun _ => true) l.length i = slot i := by
  subst hy
  refine landF_skip (Nat.zero_le _) fun m _ hm => ?_
  have h1 := backL_at l.length l (l.length - 1 - m) (by omega)
  rw [show l.length - 1 - (l.length - 1 - m) = m by omega] at h1
  exact h _ (List.mem_of_getElem? h1)
theorem landF_found {slot : Nat → List UInt8} {l : List (Nat × List UInt8)} {i : Nat} {ini : List (Nat × Nat × List UInt8)} {last : Nat × Nat × List UInt8} (hp : PartOf l (ini ++ [last])) (h : ∀ p ∈ ini, p.2.1 ≠ i) (hl : last.2.1 = i) : landF slot l (fun _ => true) l.length i = last.2.2 := by
  obtain ⟨k, hk, he⟩ := hp
  have hlen := congrArg List.length he
  simp only [List.length_append, backL_len, List.length_cons, List.length_nil] at hlen
  have hlast : last = (k, l.getD k (0, [])) := by
    have h1 := backL_at l.length l ini.length (by omega)
    rw [← he, List.append_assoc, List.getElem?_append_right (Nat.le_refl _), Nat.sub_self, List.singleton_append, List.getElem?_cons_zero, show l.length - 1 - ini.length = k by omega] at h1
    exact Option.some.inj h1
  have hrest : ∀ m, k + 1 ≤ m → m < l.length → (l.getD m (0, [])).1 ≠ i := fun m h1 h2 => by
    have h3 := backL_at l.length l (l.length - 1 - m) (by omega)
    rw [← he, List.append_assoc, List.getElem?_append_left (by omega), show l.length - 1 - (l.length - 1 - m) = m by omega] at h3
    exact h _ (List.mem_of_getElem? h3)
  rw [landF_skip (k := k + 1) (by omega) hrest, landF, if_pos rfl]
  subst hlast
  rw [← hl, updF_at]
def wEnc (x : Nat × Nat × List UInt8) : Array Value := #[.int .i64 x.1, .agg #[.int .i64 x.2.1, .string ⟨⟨x.2.2⟩⟩]]
/-- The row of writes lies at g. -/
def WrAt (W : World) (g : Nat) (l : List (Nat × List UInt8)) : Prop := ∀ j, j < l.length → W.cell? ⟨g, j * 2, none⟩ = some (.int .i64 ((l.getD j (0, [])).1 : Int)) ∧ W.cell? ⟨g, j * 2 + 1, none⟩ = some (.string ⟨⟨(l.getD j (0, [])).2⟩⟩)

def intOfZ : Value → Int
  | .int _ n => n
  | _ => 0
set_option maxRecDepth 100000 in
set_option maxHeartbeats 1000000 in
theorem back1G_in (F : Fence) (n : Nat) (h6 : F.fn 132) (hro : F.round = none) (hn : 1 ≤ n) (l Bn n₀ g cap : Nat) (ws : List (Nat × List UInt8)) (J Jx : List (Nat × Nat × List UInt8) → World → Prop)
    (hY : ∀ pre x W, J pre W → pre.length < ws.length → YieldAt F (n - 1) Tryd.prog l (wEnc x) W fun e W' => (e = .returned (.bool true) ∧ J (pre ++ [x]) W' ∧ Below n₀ W W') ∨ (e = .returned (.bool false) ∧ Jx (pre ++ [x]) W'))
    (W : World) (hBn : W.cell? ⟨Bn, 0, none⟩ = some (.slice (some ⟨g, 0, none⟩) ws.length cap)) (hW : WrAt W g ws) (hb1 : Bn < n₀) (hb2 : g < n₀) (hwl : ws.length ≤ 100000) (h0 : J [] W) :
    CallsIn F n Tryd.prog 132 #[.func (.yield l) #[] #[], .pointer (some ⟨Bn, 0, none⟩)] W fun e W' => (∃ v, e = .returned v) ∧ ((∃ ys, ys = backL ws.length ws ∧ J ys W') ∨ (∃ pre, PartOf ws pre ∧ Jx pre W')) := by
  refine callsIn_of_wp Tryd.func132 rfl h6 ?_ hro
  simp only [Tryd.ntmps132, List.size_toArray, List.length_cons, List.length_nil, Nat.reduceAdd, Nat.reduceSub, Array.replicate_succ, Array.replicate_zero, List.push_toArray, List.append_toArray, List.nil_append, List.cons_append]
  gi_wp2
  gi_loopw [3] (fun p wr => ∃ (k : Nat) (pre : List (Nat × Nat × List UInt8)), p = .int .i64 ((k : Int) - 1) ∧ k ≤ ws.length ∧ pre.length + k = ws.length ∧ pre ++ backL k ws = backL ws.length ws ∧ J pre wr ∧ wr.cell? ⟨Bn, 0, none⟩ = some (.slice (some ⟨g, 0, none⟩) ws.length cap) ∧ WrAt wr g ws)
    (fun p wr => (intOfZ p + 1).toNat)
  case atStart => exact ⟨ws.length, [], rfl, Nat.le_refl _, by simp, rfl, h0, hBn, hW⟩
  case round =>
    obtain ⟨k, pre, rfl, hk, hpl, hpre, hJs, hc, hws⟩ := hrel
    cases k with
    | zero =>
      gi_wp2
      go_end0
      exact ⟨⟨_, rfl⟩, .inl ⟨pre, by simpa [backL] using hpre, hJs⟩⟩
    | succ k =>
      obtain ⟨hw1, hw2⟩ := hws k (by omega)
      obtain ⟨fn, tmps, assign, body, hy, hR⟩ := hY pre (k, ws.getD k (0, [])) wr hJs (by omega)
      rw [wEnc] at hy
      simp only [List.getD_eq_getElem?_getD] at hy
      gi_wp2
      refine hR.mono ?_
      rintro e W3 (⟨rfl, hJ3, hk3⟩ | ⟨rfl, hJx3⟩)
      · gi_wp2
        go_roundw
        case rel => exact ⟨k, pre ++ [(k, ws.getD k (0, []))], iv_eq (by omega), by omega, by simp; omega, by rw [List.append_assoc]; exact hpre, hJ3, (hk3.cell (p := ⟨Bn, 0, none⟩) hb1).trans hc, fun j hj => ⟨(hk3.cell (p := ⟨g, j * 2, none⟩) hb2).trans (hws j hj).1, (hk3.cell (p := ⟨g, j * 2 + 1, none⟩) hb2).trans (hws j hj).2⟩⟩
        case measure => simp [intOfZ]
      · gi_wp2
        refine bodyPost_ret (results_none rfl _ _ _) rfl ?_
        exact ⟨⟨_, rfl⟩, .inr ⟨_, ⟨k, by omega, by rw [List.append_assoc]; exact hpre⟩, hJx3⟩⟩
set_option maxHeartbeats 1000000 in
theorem backG_in (F : Fence) (n : Nat) (h5 : F.fn 97) (hro : F.round = none) (a : Option Addr) (len cap : Nat) (w : World) :
    CallsIn F n Tryd.prog 97 #[.slice a len cap] w fun e w' => e = .returned (.func (.func 132) #[] #[.pointer (some ⟨w.heap.size, 0, none⟩)]) ∧ w' = w.alloc (.cells #[.slice a len cap] 102) := by
  refine callsIn_of_wp Tryd.func97 rfl h5 ?_ hro
  simp only [Tryd.ntmps97, List.size_toArray, List.length_cons, List.length_nil, Nat.reduceAdd, Nat.reduceSub, Array.replicate_succ, Array.replicate_zero, List.push_toArray, List.append_toArray, List.nil_append, List.cons_append]
  gi_wp2
  go_ret
  exact ⟨rfl, rfl⟩
theorem backG_stops (F : Fence) (n : Nat) (h6 : F.fn 132) (hro : F.round = none) (hn : 1 ≤ n) (Bn g cap : Nat) (ws : List (Nat × List UInt8)) (hwl : ws.length ≤ 100000) (w : World) (hBn : Bn < w.heap.size) (hg : g < w.heap.size) (hc : w.cell? ⟨Bn, 0, none⟩ = some (.slice (some ⟨g, 0, none⟩) ws.length cap)) (hW : WrAt w g ws) :
    SeqStopsK F n Tryd.prog 132 #[.pointer (some ⟨Bn, 0, none⟩)] wEnc (Below w.heap.size) (fun ys => ys = backL ws.length ws) (PartOf ws) ws.length w := fun l J Jx W hB _ _ hY h0 =>
  back1G_in F n h6 hro hn l Bn w.heap.size g cap ws J Jx hY W ((hB.cell (p := ⟨Bn, 0, none⟩) hBn).trans hc) (fun j hj => ⟨(hB.cell (p := ⟨g, j * 2, none⟩) hg).trans (hW j hj).1, (hB.cell (p := ⟨g, j * 2 + 1, none⟩) hg).trans (hW j hj).2⟩) hBn hg hwl h0
end Go.Proofs.YtkolfgmpmnelmabDoor
