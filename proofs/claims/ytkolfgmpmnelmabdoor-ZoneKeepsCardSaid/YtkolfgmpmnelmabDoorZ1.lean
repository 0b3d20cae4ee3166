/-
  Walks: slices.Backward of no writes, (*zone.Device).Get where none waits: by the kit's own walk of a range over a function.
-/
import Derived.RangeFuncBox
import Derived.Sort.EveryDepth
import Derived.RangeFuncLeaves
import Derived.Shelf.Abstract
import Derived.WalkKit
import Derived.OwnWalkIn
import Derived.TacticsInMore
import Derived.LoopNIn
import Derived.LoopIn
import Derived.Maps.AppendAt
import Derived.Test.YtkolfgmpmnelmabDoorProg
import Derived.Test.YtkolfgmpmnelmabDoorVs
namespace Go.Proofs.YtkolfgmpmnelmabDoor
open Go Vx Go.Proofs Go.RowKit Go.Shelf
set_option linter.unusedVariables false
attribute [local go_sem] Oper.semAt_some

theorem results_cells2 {P : Program} {fn : Func} {p q : Tmp} {t u : TypeId} {d d' : TypeDesc} (h : fn.results = #[.cell p t, .cell q u]) (ht : P.underlying t = some d) (hd : isAggB d = false) (hu : P.underlying u = some d') (hd' : isAggB d' = false) {tmps : Array Value} {a b : Addr} {x y : Value} {w : World}
    (hp : tmps.getD p undef = .pointer (some a)) (hq : tmps.getD q undef = .pointer (some b)) (hx : w.cell? a = some x) (hy : w.cell? b = some y) : (results fn tmps).run P w = .ok (.tuple #[x, y]) w := by
  rw [Array.getD_eq_getD_getElem?] at hp hq
  simp only [results, h]
  simp [Sem.run_bind, Result.andThen, hp, hq, asAddr, run_loadVar1 ht hd hx, run_loadVar1 hu hd' hy]
theorem get_end {W : World} {b1 b2 D : Nat} {t1 t2 : TypeId} {x y v u : Value} {o : Obj} (e1 : Boxed W b1 t1 x) (e2 : Boxed W b2 t2 y) (hne : b1 ≠ b2) (hD1 : b1 ≠ D) (hD2 : b2 ≠ D) (hK : W.heap[D]? = some (.deferred (some []))) :
    (((W.setCell ⟨b1, 0, none⟩ v).setCell ⟨b2, 0, none⟩ u).drew.heap[D]? = some (.deferred (some []))) ∧ ((((W.setCell ⟨b1, 0, none⟩ v).setCell ⟨b2, 0, none⟩ u).drew.putObj D o).cell? ⟨b1, 0, none⟩ = some v) ∧ ((((W.setCell ⟨b1, 0, none⟩ v).setCell ⟨b2, 0, none⟩ u).drew.putObj D o).cell? ⟨b2, 0, none⟩ = some u) ∧
      ∀ n₀, n₀ ≤ b1 → n₀ ≤ b2 → n₀ ≤ D → Below n₀ W (((W.setCell ⟨b1, 0, none⟩ v).setCell ⟨b2, 0, none⟩ u).drew.putObj D o) := by
  have f1 : Boxed (W.setCell ⟨b1, 0, none⟩ v) b1 t1 v := e1.set v
  have f2 : Boxed (W.setCell ⟨b1, 0, none⟩ v) b2 t2 y := (Below.heap_setCell W ⟨b1, 0, none⟩ v b2 (fun h => hne h.symm)).trans e2
  have g1 : Boxed ((W.setCell ⟨b1, 0, none⟩ v).setCell ⟨b2, 0, none⟩ u) b1 t1 v := (Below.heap_setCell _ ⟨b2, 0, none⟩ u b1 hne).trans f1
  have g2 : Boxed ((W.setCell ⟨b1, 0, none⟩ v).setCell ⟨b2, 0, none⟩ u) b2 t2 u := f2.set u
  have hK2 : ((W.setCell ⟨b1, 0, none⟩ v).setCell ⟨b2, 0, none⟩ u).heap[D]? = some (.deferred (some [])) := (Below.heap_setCell _ ⟨b2, 0, none⟩ u D (fun h => hD2 h.symm)).trans ((Below.heap_setCell _ ⟨b1, 0, none⟩ v D (fun h => hD1 h.symm)).trans hK)
  have p1 : Boxed (((W.setCell ⟨b1, 0, none⟩ v).setCell ⟨b2, 0, none⟩ u).drew.putObj D o) b1 t1 v := (World.putObj_heap_other hD1).trans g1
  have p2 : Boxed (((W.setCell ⟨b1, 0, none⟩ v).setCell ⟨b2, 0, none⟩ u).drew.putObj D o) b2 t2 u := (World.putObj_heap_other hD2).trans g2
  refine ⟨hK2, p1.cell, p2.cell, fun n₀ h1 h2 h3 => ?_⟩
  exact (((Below.refl n₀ W).setCell h1 _).setCell h2 _).drew.trans (Below.refl n₀ _ |>.grown (grownBy_putObj' _ D o) (by have := lt_of_has hK2; simpa [World.drew] using (by omega : n₀ ≤ ((W.setCell ⟨b1, 0, none⟩ v).setCell ⟨b2, 0, none⟩ u).heap.size)) (fun k e => by cases e; omega))

set_option maxRecDepth 100000 in
set_option maxHeartbeats 1000000 in
theorem back1_in (F : Fence) (n : Nat) (h6 : F.fn 132) (hro : F.round = none) (hn : 1 ≤ n) (l Bn : Nat) (W : World) (hBn : W.cell? ⟨Bn, 0, none⟩ = some (.slice none 0 0)) :
    CallsIn F n Tryd.prog 132 #[.func (.yield l) #[] #[], .pointer (some ⟨Bn, 0, none⟩)] W fun e W' => (∃ v, e = .returned v) ∧ W' = W := by
  refine callsIn_of_wp Tryd.func132 rfl h6 ?_ hro
  simp only [Tryd.ntmps132, List.size_toArray, List.length_cons, List.length_nil, Nat.reduceAdd, Nat.reduceSub, Array.replicate_succ, Array.replicate_zero, List.push_toArray, List.append_toArray, List.nil_append, List.cons_append]
  gi_wp2
  gi_loopw [3] (fun p wr => p = .int .i64 (-1) ∧ wr = W) (fun p wr => 0)
  case atStart => exact ⟨rfl, rfl⟩
  case round =>
    obtain ⟨rfl, rfl⟩ := hrel
    gi_wp2
    go_end0
    exact ⟨⟨_, rfl⟩, rfl⟩
set_option maxHeartbeats 1000000 in
theorem back_in (F : Fence) (n : Nat) (h5 : F.fn 97) (hro : F.round = none) (v : Value) (hv : v = .slice none 0 0) (w : World) :
    CallsIn F n Tryd.prog 97 #[v] w fun e w' => e = .returned (.func (.func 132) #[] #[.pointer (some ⟨w.heap.size, 0, none⟩)]) ∧ w' = w.alloc (.cells #[.slice none 0 0] 102) := by
  subst hv
  refine callsIn_of_wp Tryd.func97 rfl h5 ?_ hro
  simp only [Tryd.ntmps97, List.size_toArray, List.length_cons, List.length_nil, Nat.reduceAdd, Nat.reduceSub, Array.replicate_succ, Array.replicate_zero, List.push_toArray, List.append_toArray, List.nil_append, List.cons_append]
  gi_wp2
  go_ret
  exact ⟨rfl, rfl⟩
theorem back_stops (F : Fence) (n : Nat) (h6 : F.fn 132) (hro : F.round = none) (hn : 1 ≤ n) (Bn : Nat) (w : World) (hBn : Bn < w.heap.size) (hc : w.cell? ⟨Bn, 0, none⟩ = some (.slice none 0 0)) :
    SeqStopsK F n Tryd.prog 132 #[.pointer (some ⟨Bn, 0, none⟩)] (fun _ : Empty => #[Value.int .i64 0, .int .i64 0]) (Below w.heap.size) (fun ys => ys = []) (fun _ => False) 0 w := fun l J Jx W hW _ _ hY h0 =>
  (back1_in F n h6 hro hn l Bn W ((hW.cell (p := ⟨Bn, 0, none⟩) hBn).trans hc)).mono fun e W' ⟨h1, h2⟩ => ⟨h1, .inl ⟨[], rfl, h2 ▸ h0⟩⟩
set_option maxRecDepth 100000 in
set_option maxHeartbeats 2000000 in
theorem get_in (F : Fence) (n : Nat) (h3 : F.fn 52) (h4 : F.fn 97) (h5 : F.fn 132) (hro : F.round = none) (hn : 3 ≤ n) (b : Nat) (i : Int) (h0 : 0 ≤ i) (h1 : i ≤ 1) (s : ByteArray) (w : World)
    (hw : w.cell? ⟨b, 18, none⟩ = some (.slice none 0 0)) (hs : w.cell? ⟨b, 16 + i.toNat, none⟩ = some (.string s)) (hb : b < w.heap.size) :
    CallsIn F n Tryd.prog 52 #[.pointer (some ⟨b, 0, none⟩), .int .i64 i] w fun e W' => e = .returned (.tuple #[.string s, .nilIface]) ∧ Below w.heap.size w W' := by
  have h1' : 1 ≤ n := by omega
  refine callsIn_of_wp_marks Tryd.func52 rfl h3 ?_ hro
  simp only [Tryd.ntmps52, List.size_toArray, List.length_cons, List.length_nil, Nat.reduceAdd, Nat.reduceSub, Array.replicate_succ, Array.replicate_zero, List.push_toArray, List.append_toArray, List.nil_append, List.cons_append]
  obtain ⟨W3, hW3⟩ : ∃ W3, ((w.alloc (.cells #[.int .i64 i] 3)).alloc (.cells #[.string { data := #[] }] 9)).alloc (.cells #[.nilIface] 32) = W3 := ⟨_, rfl⟩
  have hB0 : Below w.heap.size w W3 := by rw [← hW3]; exact (((Below.refl _ w).alloc (Nat.le_refl _) _).alloc (by simp) _).alloc (by simp; omega) _
  have hsz : W3.heap.size = w.heap.size + 3 := by rw [← hW3]; simp
  have hw3 : W3.cell? ⟨b, 18, none⟩ = some (.slice none 0 0) := (hB0.cell (p := ⟨b, 18, none⟩) hb).trans hw
  have hs3 : W3.cell? ⟨b, 16 + i.toNat, none⟩ = some (.string s) := (hB0.cell (p := ⟨b, 16 + i.toNat, none⟩) hb).trans hs
  have bN := Boxed.new w 3 (.int .i64 i)
  have hi3 : W3.cell? ⟨w.heap.size, 0, none⟩ = some (.int .i64 i) := by
    rw [← hW3]; exact ((bN.alloc _).alloc _).cell
  subst hW3
  gi_wp2_with (gi_at_call 97; refine (back_in F (n - 1) h4 hro _ rfl _).mono ?_; rintro e w' ⟨rfl, rfl⟩)
  obtain ⟨W4, hW4⟩ : ∃ W4, ((((w.alloc (.cells #[.int .i64 i] 3)).alloc (.cells #[.string { data := #[] }] 9)).alloc (.cells #[.nilIface] 32)).alloc (.cells #[.slice none 0 0] 102)) = W4 := ⟨_, rfl⟩
  have b0 : Boxed W4 w.heap.size 3 (.int .i64 i) := by rw [← hW4]; exact ((bN.alloc _).alloc _).alloc _
  have b1 : Boxed W4 (w.heap.size + 1) 9 (.string { data := #[] }) := by
    rw [← hW4]
    have h := Boxed.new (w.alloc (.cells #[.int .i64 i] 3)) 9 (.string { data := #[] })
    rw [World.size_alloc] at h; exact (h.alloc _).alloc _
  have b2 : Boxed W4 (w.heap.size + 1 + 1) 32 .nilIface := by
    rw [← hW4]
    have h := Boxed.new ((w.alloc (.cells #[.int .i64 i] 3)).alloc (.cells #[.string { data := #[] }] 9)) 32 .nilIface
    rw [World.size_alloc, World.size_alloc] at h; exact h.alloc _
  have b3 : W4.cell? ⟨w.heap.size + 3, 0, none⟩ = some (.slice none 0 0) := by
    rw [← hW4]
    have h := Boxed.new (((w.alloc (.cells #[.int .i64 i] 3)).alloc (.cells #[.string { data := #[] }] 9)).alloc (.cells #[.nilIface] 32)) 102 (.slice none 0 0)
    rw [World.size_alloc, World.size_alloc, World.size_alloc] at h; exact h.cell
  have hsz4 : W4.heap.size = w.heap.size + 4 := by rw [← hW4]; simp
  have hB4 : Below w.heap.size w W4 := by rw [← hW4]; exact hB0.alloc (by simp; omega) _
  rw [hW4]
  clear hW4
  refine wpIn_rangeFunc_ownG hro h1' (gf := 132) (lb := #[.pointer (some ⟨w.heap.size + 3, 0, none⟩)]) rfl h5 (enters_of Tryd.func132 (by kernel_rfl) rfl)
    (back_stops F (n - 1) h5 hro (by omega) (w.heap.size + 3) W4 (by omega) b3) belowK_t (belowK_b (Nat.le_refl _)) (Below.refl _ _) (fun _ => rfl)
    (fun pre W => Below W4.heap.size W4 W) (fun _ _ _ => False) (ownFrom_below (Nat.le_refl _) (Nat.le_refl _)) (fun _ _ _ _ _ hs _ _ => hs) (Below.refl _ _)
    (fun x => nomatch x) ?assign ?body ?done ?stop
  case assign => intro l x; exact nomatch x
  case body => intro l pre x; exact nomatch x
  case stop => intro D c pre W _ h; exact h.elim
  case done =>
    rintro D ys W hD rfl hI hK
    have e0 : Boxed W w.heap.size 3 (.int .i64 i) := (hI.block _ (by omega)).trans b0
    have e1 : Boxed W (w.heap.size + 1) 9 (.string { data := #[] }) := (hI.block _ (by omega)).trans b1
    have e2 : Boxed W (w.heap.size + 1 + 1) 32 .nilIface := (hI.block _ (by omega)).trans b2
    have hB5 : Below w.heap.size w W := hB4.trans (hI.mono (by omega))
    have hs5 : W.cell? ⟨b, 16 + i.toNat, none⟩ = some (.string s) := (hB5.cell (p := ⟨b, 16 + i.toNat, none⟩) hb).trans hs
    have c0 := e0.cell
    have c1 := e1.cell
    have c2 := e2.cell
    have f1 := e1.frozen
    have f2 := e2.frozen
    have hmix : Tryd.prog.follows .mixedOrders = true := by kernel_rfl
    clear hw3 hs3 hi3
    gi_wp2
    gi_region
    all_goals gi_wp2
    all_goals
      obtain ⟨k1, k2, k3, k4⟩ := get_end (v := .string s) (u := .nilIface) (o := .deferred none) (D := D) e1 e2 (by omega) (by omega) (by omega) hK
      refine ⟨by simp, .inl ⟨_, _, rfl, run_takeDeferred k1, ?_⟩⟩
      exact ⟨_, results_cells2 rfl Tryd.underlying9 rfl Tryd.underlying32 rfl rfl rfl k2 k3, rfl, hB5.trans (k4 _ (by omega) (by omega) (by omega))⟩
theorem get_quiet (b : Nat) (i : Int) (h0 : 0 ≤ i) (h1 : i ≤ 1) (s : List UInt8) (w : World) (hw : w.cell? ⟨b, 18, none⟩ = some (.slice none 0 0)) (hs : w.cell? ⟨b, 16 + i.toNat, none⟩ = some (str s)) (hb : b < w.heap.size) :
    C Tryd.prog 52 ⟨[pv b 0, iv i]⟩ w fun v w' => v = .tuple #[str s, .nilIface] ∧ St w [] w' := by
  have h : Calls Tryd.prog 52 #[.pointer (some ⟨b, 0, none⟩), .int .i64 i] w fun e W' => e = .returned (.tuple #[.string ⟨⟨s⟩⟩, .nilIface]) ∧ Below w.heap.size w W' :=
    calls_of_every_depth (L := [52, 97, 132]) (n := 3)
      fun D => get_in _ 3 (by simp [Fence.list]) (by simp [Fence.list]) (by simp [Fence.list]) rfl (by omega) b i h0 h1 ⟨⟨s⟩⟩ w hw hs hb
  refine Calls.mono h fun e w' ⟨he, hb⟩ => ⟨_, he, rfl, ?_⟩
  exact ⟨hb.os, hb.tape, hb.output, hb.size, fun _ h => (by cases h), List.nodup_nil, fun b hb' _ => hb.block b hb'⟩
#print axioms get_quiet
end Go.Proofs.YtkolfgmpmnelmabDoor
