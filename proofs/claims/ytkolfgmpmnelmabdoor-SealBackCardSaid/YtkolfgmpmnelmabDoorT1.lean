/-
  Walks: keep.pick, stream.Xor.
-/
import Derived.Test.YtkolfgmpmnelmabDoorVg
import Derived.Test.YtkolfgmpmnelmabDoorS5
namespace Go.Proofs.YtkolfgmpmnelmabDoor
open Go Vx Go.Proofs
set_option linter.unusedVariables false
set_option maxHeartbeats 400000
set_option maxRecDepth 4000

def pickOf (a n : Int) : Int := (a % 18446744073709551616) % n
theorem pickOf_range {a n : Int} (h : 0 < n) : 0 ≤ pickOf a n ∧ pickOf a n < n := ⟨Int.emod_nonneg _ (by omega), Int.emod_lt_of_pos _ h⟩
theorem u64of_nat (a : Int) : ((u64of a).toNat : Int) = a % 18446744073709551616 := by simp [u64of]; omega
theorem pick_eq {a n : Int} (h : 0 < n) (hn : n ≤ 9223372036854775807) : IntKind.i64.wrap ((u64of a % u64of n).toNat : Int) = pickOf a n := by
  have h1 : ((u64of a % u64of n).toNat : Int) = pickOf a n := by
    rw [UInt64.toNat_mod, Int.natCast_emod, u64of_nat, u64of_nat, Int.emod_eq_of_lt (a := n) (by omega) (by omega)]; rfl
  have := pickOf_range (a := a) h
  rw [h1, wrap_i64 (by omega)]
theorem pick_any (a n : Int) (h : 0 < n) (hn : n ≤ 9223372036854775807) (w : World) :
    C Tryd.prog 14 ⟨[iv a, iv n]⟩ w fun v w' => v = iv (pickOf a n) ∧ St w [] w' := by
  have hne : u64of n ≠ 0 := by
    intro h0
    have h1 := u64of_nat n
    rw [h0, Int.emod_eq_of_lt (by omega) (by omega)] at h1
    simp at h1; omega
  refine C_enter (n := 11) Tryd.func14 rfl rfl rfl (fun w1 hs1 => ?_)
  refine W_seq ?_
  refine W_region ?_
  refine L0 (wanted_none rfl) rfl (y_assign (v := Value.int _ _) rfl rfl) ?_
  refine Lnil ?_
  refine W_seq ?_
  refine W_region ?_
  refine L0 (wanted_none rfl) rfl (y_move (v := Value.int _ _) rfl rfl) ?_
  refine L0 (wanted_none rfl) rfl (y_cito64 rfl Tryd.underlying3 Tryd.underlying105 rfl) ?_
  refine L0 (wanted_none rfl) rfl (y_move (v := Value.int _ _) rfl rfl) ?_
  refine L0 (wanted_none rfl) rfl (y_cito64 rfl Tryd.underlying3 Tryd.underlying105 rfl) ?_
  refine L0 (wanted_none rfl) rfl (y_rem64u rfl rfl rfl (by assumption)) ?_
  refine L0 (wanted_none rfl) rfl (y_conv rfl Tryd.underlying105 Tryd.underlying3 rfl) ?_
  refine L0 (wanted_none rfl) rfl (y_assign (v := Value.int _ _) rfl rfl) ?_
  refine Lnil ?_
  refine W_ret ?_
  refine fin1 (fn := Tryd.f14) rfl rfl ?_
  exact ⟨congrArg iv (pick_eq h hn), hs1⟩
/-! xor -/
def ks (key nonce : List UInt8) (i : Nat) : UInt8 := (blockOf key (1 + (i / 64 : Nat)) nonce).getD (i % 64) 0
def xorN (s : List UInt8) (f : Nat → UInt8) : Nat → List UInt8
  | 0 => s
  | i + 1 => (xorN s f i).set i (s.getD i 0 ^^^ f i)
theorem xorN_len (s : List UInt8) (f : Nat → UInt8) : ∀ i, (xorN s f i).length = s.length
  | 0 => rfl
  | i + 1 => by rw [xorN, List.length_set, xorN_len s f i]
theorem xorN_getD (s : List UInt8) (f : Nat → UInt8) : ∀ (i j : Nat), j < s.length → (xorN s f i).getD j 0 = if j < i then s.getD j 0 ^^^ f j else s.getD j 0
  | 0, j, h => by simp [xorN]
  | i + 1, j, h => by
    have hl := xorN_len s f i
    have ih := xorN_getD s f i j h
    simp only [List.getD_eq_getElem?_getD] at ih ⊢
    rw [xorN, List.getElem?_set]
    by_cases he : i = j
    · subst he
      simp [hl, h]
    · rw [if_neg he, ih]
      by_cases h1 : j < i
      · rw [if_pos h1, if_pos (by omega)]
      · rw [if_neg h1, if_neg (by omega)]
def xorOf (key nonce s : List UInt8) : List UInt8 := xorN s (ks key nonce) s.length
theorem ks_eq {key nonce : List UInt8} {q j : Nat} (h1 : 64 * q ≤ j) (h2 : j < 64 * q + 64) : ks key nonce j = (blockOf key (1 + (q : Int)) nonce).getD (j - 64 * q) 0 := by
  have h3 : j / 64 = q := by omega
  have h4 : j % 64 = j - 64 * q := by omega
  rw [ks, h3, h4]
theorem xor_step (s : List UInt8) (f : Nat → UInt8) (i : Nat) (h : i < s.length) : (xorN s f i).set i ((xorN s f i).getD i 0 ^^^ f i) = xorN s f (i + 1) := by
  rw [xorN, xorN_getD s f i i h, if_neg (Nat.lt_irrefl _)]

theorem xor_err (key nonce s : List UInt8) (hs : s.length ≤ 1000000) (h : ¬ (key.length = 32 ∧ nonce.length = 12)) (w : World) :
    C Tryd.prog 77 ⟨[str key, str nonce, str s]⟩ w fun v w' => v = .tuple #[str [], .iface 35 (iv 1)] ∧ St w [] w' := by
  refine C_enter (n := 63) Tryd.func77 rfl rfl rfl (fun w1 hs1 => ?_)
  refine W_seq ?_
  refine W_region ?_
  refine L0 (wanted_none rfl) rfl (y_assign (v := Value.string ⟨⟨_⟩⟩) rfl rfl) ?_
  refine L0 (wanted_none rfl) rfl (y_assign (v := Value.nilIface) rfl rfl) ?_
  refine Lnil ?_
  refine W_seq ?_
  refine W_region ?_
  refine L0 (wanted_none rfl) rfl (y_move (v := Value.string ⟨⟨_⟩⟩) rfl rfl) ?_
  refine Lc (wanted_none rfl) (c_tobytes hs1 rfl rfl Tryd.underlying9 Tryd.underlying113 Tryd.underlying5 rfl (by omega) (fun b2 capb2 curb2 fzb2 w3 hbb2 hs4 => ?_))
  refine L0 (wanted_none rfl) rfl (y_assign (v := Value.slice _ _ _) rfl rfl) ?_
  refine Lnil ?_
  refine W_seq ?_
  refine W_seq ?_
  refine W_region ?_
  refine L0 (wanted_none rfl) rfl (y_assign (v := Value.int _ _) rfl rfl) ?_
  refine Lnil ?_
  refine W_block ?_
  refine W_loop (G := Unit) (fun g aL wl => ∃ e, aL = A 63 ((9, iv 0) :: (8, .slice (some ⟨b2, 0, none⟩) s.length capb2) :: (0, str key) :: (1, str nonce) :: e) ∧ St w [(b2, .cells curb2 5 fzb2)] wl) (fun _ => 0) (()) ?_ ?_
  · exact ⟨_, A_pins _ _ [9, 8, 0, 1], hs4⟩
  rintro g _ w5 ⟨ehs6, rfl, hs6⟩
  refine W_seq ?_
  refine W_seq ?_
  refine W_region ?_
  refine L0 (wanted_none rfl) rfl (y_move (v := Value.int _ _) rfl rfl) ?_
  refine L0 (wanted_none rfl) rfl (y_move (v := Value.slice _ _ _) rfl rfl) ?_
  refine L0 (wanted_none rfl) rfl (y_slen rfl Tryd.underlying113 rfl) ?_
  refine L0 (wanted_none rfl) rfl (y_lt rfl rfl rfl) ?_
  refine L0 (wanted_none rfl) rfl (y_move (v := Value.bool _) rfl rfl) ?_
  refine Lsp (t := 19) rfl (fun h7 => ?_) (fun h7 => ?_)
  · have h7' := h7
    first | replace h7' := of_decide_eq_true h7' | replace h7' := bnT' h7' | skip
    refine Lno (wanted_noB rfl rfl rfl h7 (by decide)) rfl ?_
    refine Lno (wanted_noB rfl rfl rfl h7 (by decide)) rfl ?_
    refine L0 (wanted_none rfl) rfl (y_pickT rfl rfl h7 rfl) ?_
    refine Lnil ?_
    refine W_condT rfl rfl ?_
    refine W_skip ?_
    refine W_seq ?_
    refine W_block ?_
    refine W_seq ?_
    refine W_region ?_
    refine L0 (wanted_none rfl) rfl (y_move (v := Value.string ⟨⟨_⟩⟩) rfl rfl) ?_
    refine L0 (wanted_none rfl) rfl (y_move (v := Value.int _ _) rfl rfl) ?_
    refine L0 (wanted_none rfl) rfl (y_quo64 rfl rfl rfl (by omega) (by omega) (by omega)) ?_
    refine L0 (wanted_none rfl) rfl (y_add64 rfl rfl rfl (by omega)) ?_
    refine L0 (wanted_none rfl) rfl (y_move (v := Value.string ⟨⟨_⟩⟩) rfl rfl) ?_
    refine Lc (wanted_none rfl) (c_call rfl rfl rfl Tryd.func127 (by kernel_rfl) rfl (block_err _ _ _ (fun hh => h ⟨hh.1, hh.2.1⟩) w5) rfl ?_)
    rintro _ w8 ⟨rfl, hc9⟩
    have hs10 := hs6.call0 hc9
    refine L0 (wanted_none rfl) rfl (y_move (v := Value.tuple ⟨_⟩) rfl rfl) ?_
    refine L0 (wanted_none rfl) rfl (y_extract rfl rfl rfl) ?_
    refine L0 (wanted_none rfl) rfl (y_extract rfl rfl rfl) ?_
    refine L0 (wanted_none rfl) rfl (y_assign (v := Value.string ⟨⟨_⟩⟩) rfl rfl) ?_
    refine L0 (wanted_none rfl) rfl (y_assign (v := _) rfl rfl) ?_
    refine Lnil ?_
    refine W_seq ?_
    refine W_seq ?_
    refine W_region ?_
    refine L0 (wanted_none rfl) rfl (y_move (v := _) rfl rfl) ?_
    refine L0 (wanted_none rfl) rfl (y_neNil rfl Tryd.underlying32 rfl) ?_
    refine Lnil ?_
    refine W_condT rfl rfl ?_
    refine W_seq ?_
    refine W_region ?_
    refine L0 (wanted_none rfl) rfl (y_move (v := _) rfl rfl) ?_
    refine L0 (wanted_none rfl) rfl (y_assign (v := Value.string ⟨⟨_⟩⟩) rfl rfl) ?_
    refine L0 (wanted_none rfl) rfl (y_assign (v := _) rfl rfl) ?_
    refine Lnil ?_
    refine W_ret ?_
    refine fin2 (fn := Tryd.f77) rfl rfl rfl ?_
    exact ⟨rfl, hs10.drop (.inl hbb2.new)⟩
  · have h7' := h7
    first | replace h7' := of_decide_eq_false h7' | replace h7' := bnF' h7' | skip
    refine L0 (wanted_yesB rfl rfl rfl h7) rfl (y_move (v := Value.int _ _) rfl rfl) ?_
    refine L0 (wanted_yesB rfl rfl rfl h7) rfl (y_eq rfl rfl rfl) ?_
    refine L0 (wanted_none rfl) rfl (y_pickF rfl rfl h7 rfl) ?_
    refine Lnil ?_
    refine Wkn (t := 22) (b0 := true) rfl (by first | exact decide_eq_true (by omega) | exact bnT (by omega) | (simp; omega)) (fun h11 => ?_)
    refine W_condT rfl h11 ?_
    refine W_skip ?_
    refine W_seq ?_
    refine W_block ?_
    refine W_seq ?_
    refine W_region ?_
    refine L0 (wanted_none rfl) rfl (y_move (v := Value.string ⟨⟨_⟩⟩) rfl rfl) ?_
    refine L0 (wanted_none rfl) rfl (y_move (v := Value.int _ _) rfl rfl) ?_
    refine L0 (wanted_none rfl) rfl (y_quo64 rfl rfl rfl (by omega) (by omega) (by omega)) ?_
    refine L0 (wanted_none rfl) rfl (y_add64 rfl rfl rfl (by omega)) ?_
    refine L0 (wanted_none rfl) rfl (y_move (v := Value.string ⟨⟨_⟩⟩) rfl rfl) ?_
    refine Lc (wanted_none rfl) (c_call rfl rfl rfl Tryd.func127 (by kernel_rfl) rfl (block_err _ _ _ (fun hh => h ⟨hh.1, hh.2.1⟩) w5) rfl ?_)
    rintro _ w12 ⟨rfl, hc13⟩
    have hs14 := hs6.call0 hc13
    refine L0 (wanted_none rfl) rfl (y_move (v := Value.tuple ⟨_⟩) rfl rfl) ?_
    refine L0 (wanted_none rfl) rfl (y_extract rfl rfl rfl) ?_
    refine L0 (wanted_none rfl) rfl (y_extract rfl rfl rfl) ?_
    refine L0 (wanted_none rfl) rfl (y_assign (v := Value.string ⟨⟨_⟩⟩) rfl rfl) ?_
    refine L0 (wanted_none rfl) rfl (y_assign (v := _) rfl rfl) ?_
    refine Lnil ?_
    refine W_seq ?_
    refine W_seq ?_
    refine W_region ?_
    refine L0 (wanted_none rfl) rfl (y_move (v := _) rfl rfl) ?_
    refine L0 (wanted_none rfl) rfl (y_neNil rfl Tryd.underlying32 rfl) ?_
    refine Lnil ?_
    refine W_condT rfl rfl ?_
    refine W_seq ?_
    refine W_region ?_
    refine L0 (wanted_none rfl) rfl (y_move (v := _) rfl rfl) ?_
    refine L0 (wanted_none rfl) rfl (y_assign (v := Value.string ⟨⟨_⟩⟩) rfl rfl) ?_
    refine L0 (wanted_none rfl) rfl (y_assign (v := _) rfl rfl) ?_
    refine Lnil ?_
    refine W_ret ?_
    refine fin2 (fn := Tryd.f77) rfl rfl rfl ?_
    exact ⟨rfl, hs14.drop (.inl hbb2.new)⟩
theorem ix (j : Nat) : 0 + (j : Int).toNat * 1 = j := by simp
theorem Bytes.get' {B b cap : Nat} {cur : Array Value} {fz : Nat × Nat} {l : List UInt8} (h : Bytes B b cap cur fz l) {i : Nat} (hi : i < l.length) : cur[0 + (i : Int).toNat * 1]? = some (bv (l.getD i 0)) := by rw [ix]; exact h.get hi
theorem blockOf_len (key : List UInt8) (n : Int) (nonce : List UInt8) : (blockOf key n nonce).length = 64 := block_len key n nonce

theorem block_at (key nonce : List UInt8) (q : Nat) (hk : key.length = 32) (hn : nonce.length = 12) (h1 : q < 1000000) (w : World) :
    C Tryd.prog 127 ⟨[str key, iv (1 + 64 * (q : Int) / 64), str nonce]⟩ w fun v w' => v = .tuple #[str (blockOf key (1 + (q : Int)) nonce), .nilIface] ∧ St w [] w' := by
  rw [show 64 * (q : Int) / 64 = q from by omega]
  exact block_any key nonce (1 + (q : Int)) hk hn (by omega) (by omega) w
theorem xor_any (key nonce s : List UInt8) (hs : s.length ≤ 1000000) (hk : key.length = 32) (hn : nonce.length = 12) (w : World) :
    C Tryd.prog 77 ⟨[str key, str nonce, str s]⟩ w fun v w' => v = .tuple #[str (xorOf key nonce s), .nilIface] ∧ St w [] w' := by
  refine C_enter (n := 63) Tryd.func77 rfl rfl rfl (fun w1 hs1 => ?_)
  refine W_seq ?_
  refine W_region ?_
  refine L0 (wanted_none rfl) rfl (y_assign (v := Value.string ⟨⟨_⟩⟩) rfl rfl) ?_
  refine L0 (wanted_none rfl) rfl (y_assign (v := Value.nilIface) rfl rfl) ?_
  refine Lnil ?_
  refine W_seq ?_
  refine W_region ?_
  refine L0 (wanted_none rfl) rfl (y_move (v := Value.string ⟨⟨_⟩⟩) rfl rfl) ?_
  refine Lc (wanted_none rfl) (c_tobytes hs1 rfl rfl Tryd.underlying9 Tryd.underlying113 Tryd.underlying5 rfl (by omega) (fun b2 capb2 curb2 fzb2 w3 hbb2 hs4 => ?_))
  refine L0 (wanted_none rfl) rfl (y_assign (v := Value.slice _ _ _) rfl rfl) ?_
  refine Lnil ?_
  refine W_seq ?_
  refine W_seq ?_
  refine W_region ?_
  refine L0 (wanted_none rfl) rfl (y_assign (v := Value.int _ _) rfl rfl) ?_
  refine Lnil ?_
  refine W_block ?_
  refine W_loop (G := Nat × Array Value) (fun g aL wl => ∃ e, aL = A 63 ((9, iv (64 * (g.1 : Int))) :: (8, .slice (some ⟨b2, 0, none⟩) s.length capb2) :: (0, str key) :: (1, str nonce) :: e) ∧ 64 * g.1 ≤ s.length + 64 ∧ Bytes w.heap.size b2 capb2 g.2 fzb2 (xorN s (ks key nonce) (min (64 * g.1) s.length)) ∧ St w [(b2, .cells g.2 5 fzb2)] wl) (fun g => s.length + 1 - 64 * g.1) ((0, curb2)) ?_ ?_
  · exact ⟨_, A_pins _ _ [9, 8, 0, 1], by omega, (by simpa [xorN] using hbb2), hs4⟩
  rintro g _ w5 ⟨ehs6, rfl, hq, hB, hs6⟩
  obtain ⟨q, cur⟩ := g
  dsimp only at *
  refine W_seq ?_
  refine W_seq ?_
  refine W_region ?_
  refine L0 (wanted_none rfl) rfl (y_move (v := Value.int _ _) rfl rfl) ?_
  refine L0 (wanted_none rfl) rfl (y_move (v := Value.slice _ _ _) rfl rfl) ?_
  refine L0 (wanted_none rfl) rfl (y_slen rfl Tryd.underlying113 rfl) ?_
  refine L0 (wanted_none rfl) rfl (y_lt rfl rfl rfl) ?_
  refine L0 (wanted_none rfl) rfl (y_move (v := Value.bool _) rfl rfl) ?_
  refine Lsp (t := 19) rfl (fun h7 => ?_) (fun h7 => ?_)
  · have h7' := h7
    first | replace h7' := of_decide_eq_true h7' | replace h7' := bnT' h7' | skip
    refine Lno (wanted_noB rfl rfl rfl h7 (by decide)) rfl ?_
    refine Lno (wanted_noB rfl rfl rfl h7 (by decide)) rfl ?_
    refine L0 (wanted_none rfl) rfl (y_pickT rfl rfl h7 rfl) ?_
    refine Lnil ?_
    refine W_condT rfl rfl ?_
    refine W_skip ?_
    refine W_seq ?_
    refine W_block ?_
    refine W_seq ?_
    refine W_region ?_
    refine L0 (wanted_none rfl) rfl (y_move (v := Value.string ⟨⟨_⟩⟩) rfl rfl) ?_
    refine L0 (wanted_none rfl) rfl (y_move (v := Value.int _ _) rfl rfl) ?_
    refine L0 (wanted_none rfl) rfl (y_quo64 rfl rfl rfl (by omega) (by omega) (by omega)) ?_
    refine L0 (wanted_none rfl) rfl (y_add64 rfl rfl rfl (by omega)) ?_
    refine L0 (wanted_none rfl) rfl (y_move (v := Value.string ⟨⟨_⟩⟩) rfl rfl) ?_
    refine Lc (wanted_none rfl) (c_call rfl rfl rfl Tryd.func127 (by kernel_rfl) rfl (block_at key nonce q hk hn (by omega) w5) rfl ?_)
    rintro _ w8 ⟨rfl, hc9⟩
    have hs10 := hs6.call0 hc9
    refine L0 (wanted_none rfl) rfl (y_move (v := Value.tuple ⟨_⟩) rfl rfl) ?_
    refine L0 (wanted_none rfl) rfl (y_extract rfl rfl rfl) ?_
    refine L0 (wanted_none rfl) rfl (y_extract rfl rfl rfl) ?_
    refine L0 (wanted_none rfl) rfl (y_assign (v := Value.string ⟨⟨_⟩⟩) rfl rfl) ?_
    refine L0 (wanted_none rfl) rfl (y_assign (v := _) rfl rfl) ?_
    refine Lnil ?_
    refine W_seq ?_
    refine W_seq ?_
    refine W_region ?_
    refine L0 (wanted_none rfl) rfl (y_move (v := _) rfl rfl) ?_
    refine L0 (wanted_none rfl) rfl (y_neNilNil rfl Tryd.underlying32 rfl) ?_
    refine Lnil ?_
    refine W_condF rfl rfl ?_
    refine W_skip ?_
    refine W_seq ?_
    have hql : 64 * q ≤ s.length := by omega
    have hB1 : Bytes w.heap.size b2 capb2 cur fzb2 (xorN s (ks key nonce) (64 * q)) := by
      have he : min (64 * q) s.length = 64 * q := by omega
      rw [he] at hB; exact hB
    refine W_region ?_
    refine L0 (wanted_none rfl) rfl (y_move (v := Value.int _ _) rfl rfl) ?_
    refine L0 (wanted_none rfl) rfl (y_assign (v := Value.int _ _) rfl rfl) ?_
    refine Lnil ?_
    refine W_block ?_
    refine W_loop (G := Nat × Array Value) (fun g2 aL wl => ∃ e, aL = A 63 ((12, iv (g2.1 : Int)) :: (9, iv (64 * (q : Int))) :: (10, str (blockOf key (1 + (q : Int)) nonce)) :: (8, .slice (some ⟨b2, 0, none⟩) s.length capb2) :: (0, str key) :: (1, str nonce) :: e) ∧ 64 * q ≤ g2.1 ∧ g2.1 ≤ s.length ∧ g2.1 ≤ 64 * q + 64 ∧ Bytes w.heap.size b2 capb2 g2.2 fzb2 (xorN s (ks key nonce) g2.1) ∧ St w [(b2, .cells g2.2 5 fzb2)] wl) (fun g => s.length + 1 - g.1) ((64 * q, cur)) ?_ ?_
    · exact ⟨_, A_pins _ _ [12, 9, 10, 8, 0, 1], Nat.le_refl _, hql, by (dsimp only; omega), hB1, hs10⟩
    rintro g2 _ w11 ⟨ehs12, rfl, hj1, hj2, hj3, hB2, hs12⟩
    obtain ⟨j, cur2⟩ := g2
    dsimp only at *
    have hlb := blockOf_len key (1 + (q : Int)) nonce
    refine W_seq ?_
    refine W_seq ?_
    refine W_region ?_
    refine L0 (wanted_none rfl) rfl (y_move (v := Value.int _ _) rfl rfl) ?_
    refine L0 (wanted_none rfl) rfl (y_move (v := Value.slice _ _ _) rfl rfl) ?_
    refine L0 (wanted_none rfl) rfl (y_slen rfl Tryd.underlying113 rfl) ?_
    refine L0 (wanted_none rfl) rfl (y_lt rfl rfl rfl) ?_
    refine L0 (wanted_none rfl) rfl (y_move (v := Value.bool _) rfl rfl) ?_
    refine Lsp (t := 42) rfl (fun h13 => ?_) (fun h13 => ?_)
    · have h13' := h13
      first | replace h13' := of_decide_eq_true h13' | replace h13' := bnT' h13' | skip
      refine L0 (wanted_yesB rfl rfl rfl h13) rfl (y_move (v := Value.int _ _) rfl rfl) ?_
      refine L0 (wanted_yesB rfl rfl rfl h13) rfl (y_move (v := Value.int _ _) rfl rfl) ?_
      refine L0 (wanted_yesB rfl rfl rfl h13) rfl (y_add64 rfl rfl rfl (by omega)) ?_
      refine L0 (wanted_yesB rfl rfl rfl h13) rfl (y_lt rfl rfl rfl) ?_
      refine L0 (wanted_none rfl) rfl (y_pickT rfl rfl h13 rfl) ?_
      refine Lnil ?_
      refine Wsp (t := 47) rfl (fun h14 => ?_) (fun h14 => ?_)
      · have h14' := h14
        first | replace h14' := of_decide_eq_true h14' | replace h14' := bnT' h14' | skip
        refine W_condT rfl h14 ?_
        refine W_skip ?_
        refine W_seq ?_
        refine W_block ?_
        refine W_drawSt [(0, 0), (0, 1), (0, 4), (0, 5), (0, 6), (0, 2), (0, 7), (1, 3), (0, 8), (0, 9), (0, 10), (2, 11)] hs12 mixed (by kernel_rfl) (fun w15 hs16 => ?_)
        refine E0 (wanted_none rfl) rfl (y_move (v := Value.slice _ _ _) rfl rfl) ?_
        refine E0 (wanted_none rfl) rfl (y_move (v := Value.int _ _) rfl rfl) ?_
        refine E0 (wanted_none rfl) rfl (y_move (v := Value.string ⟨⟨_⟩⟩) rfl rfl) ?_
        refine E0 (wanted_none rfl) rfl (y_move (v := Value.int _ _) rfl rfl) ?_
        refine E0 (wanted_none rfl) rfl (y_move (v := Value.int _ _) rfl rfl) ?_
        refine E0 (wanted_none rfl) rfl (y_indexSl rfl Tryd.underlying113 sz5 rfl rfl (by omega) (by omega)) ?_
        refine E0 (wanted_none rfl) rfl (y_sub64 rfl rfl rfl (by omega)) ?_
        refine E1 hs16 (wanted_none rfl) rfl (y_load 0 rfl Tryd.underlying5 rfl rfl rfl (Bytes.get' hB2 (by rw [xorN_len]; omega))) ?_
        refine E0 (wanted_none rfl) rfl (y_sindex rfl Tryd.underlying9 rfl rfl (by omega) (by omega)) ?_
        refine E0 (wanted_none rfl) rfl (y_xor8 rfl rfl rfl) ?_
        refine E0 (wanted_none rfl) rfl (y_indexSl rfl Tryd.underlying113 sz5 rfl rfl (by omega) (by omega)) ?_
        refine E2 (wanted_none rfl) (c_store (i := 0) (v := bv _) hs16 rfl rfl rfl rfl sz5 rfl rfl (by rw [hB2.size]; have := hB2.room; rw [xorN_len] at this; simp; omega) (hB2.fz) (fun w17 hs18 => ?_))
        have hB4 := hB2.set j ((xorN s (ks key nonce) j).getD j 0 ^^^ ks key nonce j)
        rw [xor_step s _ j (by omega)] at hB4
        rw [List.set_cons_zero, ix, show ((j : Int) - 64 * (q : Int)).toNat = j - 64 * q from by omega, ← ks_eq (q := q) (j := j) (by omega) (by omega)] at hs18
        refine Enil ?_
        refine W_region ?_
        refine L0 (wanted_none rfl) rfl (y_move (v := Value.int _ _) rfl rfl) ?_
        refine L0 (wanted_none rfl) rfl (y_add64 rfl rfl rfl (by omega)) ?_
        refine L0 (wanted_none rfl) rfl (y_assign (v := Value.int _ _) rfl rfl) ?_
        refine Lnil ?_
        exact ⟨(j + 1, _), by (try dsimp only); omega, _, A_c (iv_eq (by (try dsimp only); omega)) (A_c rfl (A_c rfl (A_c rfl (A_c rfl (A_c rfl (rfl)))))), by (dsimp only; omega), by (dsimp only; omega), by (dsimp only; omega), hB4, hs18⟩
      · have h14' := h14
        first | replace h14' := of_decide_eq_false h14' | replace h14' := bnF' h14' | skip
        refine W_condF rfl h14 ?_
        refine W_exit ?_
        refine W_region ?_
        refine L0 (wanted_none rfl) rfl (y_move (v := Value.int _ _) rfl rfl) ?_
        refine L0 (wanted_none rfl) rfl (y_add64 rfl rfl rfl (by omega)) ?_
        refine L0 (wanted_none rfl) rfl (y_assign (v := Value.int _ _) rfl rfl) ?_
        refine Lnil ?_
        have hB3 : Bytes w.heap.size b2 capb2 cur2 fzb2 (xorN s (ks key nonce) (min (64 * (q + 1)) s.length)) := by
          have he : min (64 * (q + 1)) s.length = j := by omega
          rw [he]; exact hB2
        exact ⟨(q + 1, cur2), by (try dsimp only); omega, _, A_c (iv_eq (by (try dsimp only); omega)) (A_c rfl (A_c rfl (A_c rfl (rfl)))), (by dsimp only; omega), hB3, hs12⟩
    · have h13' := h13
      first | replace h13' := of_decide_eq_false h13' | replace h13' := bnF' h13' | skip
      refine Lno (wanted_noB rfl rfl rfl h13 (by decide)) rfl ?_
      refine Lno (wanted_noB rfl rfl rfl h13 (by decide)) rfl ?_
      refine Lno (wanted_noB rfl rfl rfl h13 (by decide)) rfl ?_
      refine Lno (wanted_noB rfl rfl rfl h13 (by decide)) rfl ?_
      refine L0 (wanted_none rfl) rfl (y_pickF rfl rfl h13 rfl) ?_
      refine Lnil ?_
      refine W_condF rfl rfl ?_
      refine W_exit ?_
      refine W_region ?_
      refine L0 (wanted_none rfl) rfl (y_move (v := Value.int _ _) rfl rfl) ?_
      refine L0 (wanted_none rfl) rfl (y_add64 rfl rfl rfl (by omega)) ?_
      refine L0 (wanted_none rfl) rfl (y_assign (v := Value.int _ _) rfl rfl) ?_
      refine Lnil ?_
      have hB3 : Bytes w.heap.size b2 capb2 cur2 fzb2 (xorN s (ks key nonce) (min (64 * (q + 1)) s.length)) := by
        have he : min (64 * (q + 1)) s.length = j := by omega
        rw [he]; exact hB2
      exact ⟨(q + 1, cur2), by (try dsimp only); omega, _, A_c (iv_eq (by (try dsimp only); omega)) (A_c rfl (A_c rfl (A_c rfl (rfl)))), (by dsimp only; omega), hB3, hs12⟩
  · have h7' := h7
    first | replace h7' := of_decide_eq_false h7' | replace h7' := bnF' h7' | skip
    refine L0 (wanted_yesB rfl rfl rfl h7) rfl (y_move (v := Value.int _ _) rfl rfl) ?_
    refine L0 (wanted_yesB rfl rfl rfl h7) rfl (y_eq rfl rfl rfl) ?_
    refine L0 (wanted_none rfl) rfl (y_pickF rfl rfl h7 rfl) ?_
    refine Lnil ?_
    refine Wsp (t := 22) rfl (fun h19 => ?_) (fun h19 => ?_)
    · have h19' := h19
      first | replace h19' := of_decide_eq_true h19' | replace h19' := bnT' h19' | skip
      refine W_condT rfl h19 ?_
      refine W_skip ?_
      refine W_seq ?_
      refine W_block ?_
      refine W_seq ?_
      refine W_region ?_
      refine L0 (wanted_none rfl) rfl (y_move (v := Value.string ⟨⟨_⟩⟩) rfl rfl) ?_
      refine L0 (wanted_none rfl) rfl (y_move (v := Value.int _ _) rfl rfl) ?_
      refine L0 (wanted_none rfl) rfl (y_quo64 rfl rfl rfl (by omega) (by omega) (by omega)) ?_
      refine L0 (wanted_none rfl) rfl (y_add64 rfl rfl rfl (by omega)) ?_
      refine L0 (wanted_none rfl) rfl (y_move (v := Value.string ⟨⟨_⟩⟩) rfl rfl) ?_
      refine Lc (wanted_none rfl) (c_call rfl rfl rfl Tryd.func127 (by kernel_rfl) rfl (block_at key nonce q hk hn (by omega) w5) rfl ?_)
      rintro _ w20 ⟨rfl, hc21⟩
      have hs22 := hs6.call0 hc21
      refine L0 (wanted_none rfl) rfl (y_move (v := Value.tuple ⟨_⟩) rfl rfl) ?_
      refine L0 (wanted_none rfl) rfl (y_extract rfl rfl rfl) ?_
      refine L0 (wanted_none rfl) rfl (y_extract rfl rfl rfl) ?_
      refine L0 (wanted_none rfl) rfl (y_assign (v := Value.string ⟨⟨_⟩⟩) rfl rfl) ?_
      refine L0 (wanted_none rfl) rfl (y_assign (v := _) rfl rfl) ?_
      refine Lnil ?_
      refine W_seq ?_
      refine W_seq ?_
      refine W_region ?_
      refine L0 (wanted_none rfl) rfl (y_move (v := _) rfl rfl) ?_
      refine L0 (wanted_none rfl) rfl (y_neNilNil rfl Tryd.underlying32 rfl) ?_
      refine Lnil ?_
      refine W_condF rfl rfl ?_
      refine W_skip ?_
      refine W_seq ?_
      have hql : 64 * q ≤ s.length := by omega
      have hB1 : Bytes w.heap.size b2 capb2 cur fzb2 (xorN s (ks key nonce) (64 * q)) := by
        have he : min (64 * q) s.length = 64 * q := by omega
        rw [he] at hB; exact hB
      refine W_region ?_
      refine L0 (wanted_none rfl) rfl (y_move (v := Value.int _ _) rfl rfl) ?_
      refine L0 (wanted_none rfl) rfl (y_assign (v := Value.int _ _) rfl rfl) ?_
      refine Lnil ?_
      refine W_block ?_
      refine W_loop (G := Nat × Array Value) (fun g2 aL wl => ∃ e, aL = A 63 ((12, iv (g2.1 : Int)) :: (9, iv (64 * (q : Int))) :: (10, str (blockOf key (1 + (q : Int)) nonce)) :: (8, .slice (some ⟨b2, 0, none⟩) s.length capb2) :: (0, str key) :: (1, str nonce) :: e) ∧ 64 * q ≤ g2.1 ∧ g2.1 ≤ s.length ∧ g2.1 ≤ 64 * q + 64 ∧ Bytes w.heap.size b2 capb2 g2.2 fzb2 (xorN s (ks key nonce) g2.1) ∧ St w [(b2, .cells g2.2 5 fzb2)] wl) (fun g => s.length + 1 - g.1) ((64 * q, cur)) ?_ ?_
      · exact ⟨_, A_pins _ _ [12, 9, 10, 8, 0, 1], Nat.le_refl _, hql, by (dsimp only; omega), hB1, hs22⟩
      rintro g2 _ w23 ⟨ehs24, rfl, hj1, hj2, hj3, hB2, hs24⟩
      obtain ⟨j, cur2⟩ := g2
      dsimp only at *
      have hlb := blockOf_len key (1 + (q : Int)) nonce
      refine W_seq ?_
      refine W_seq ?_
      refine W_region ?_
      refine L0 (wanted_none rfl) rfl (y_move (v := Value.int _ _) rfl rfl) ?_
      refine L0 (wanted_none rfl) rfl (y_move (v := Value.slice _ _ _) rfl rfl) ?_
      refine L0 (wanted_none rfl) rfl (y_slen rfl Tryd.underlying113 rfl) ?_
      refine L0 (wanted_none rfl) rfl (y_lt rfl rfl rfl) ?_
      refine L0 (wanted_none rfl) rfl (y_move (v := Value.bool _) rfl rfl) ?_
      refine Lsp (t := 42) rfl (fun h25 => ?_) (fun h25 => ?_)
      · have h25' := h25
        first | replace h25' := of_decide_eq_true h25' | replace h25' := bnT' h25' | skip
        refine L0 (wanted_yesB rfl rfl rfl h25) rfl (y_move (v := Value.int _ _) rfl rfl) ?_
        refine L0 (wanted_yesB rfl rfl rfl h25) rfl (y_move (v := Value.int _ _) rfl rfl) ?_
        refine L0 (wanted_yesB rfl rfl rfl h25) rfl (y_add64 rfl rfl rfl (by omega)) ?_
        refine L0 (wanted_yesB rfl rfl rfl h25) rfl (y_lt rfl rfl rfl) ?_
        refine L0 (wanted_none rfl) rfl (y_pickT rfl rfl h25 rfl) ?_
        refine Lnil ?_
        refine Wsp (t := 47) rfl (fun h26 => ?_) (fun h26 => ?_)
        · have h26' := h26
          first | replace h26' := of_decide_eq_true h26' | replace h26' := bnT' h26' | skip
          refine W_condT rfl h26 ?_
          refine W_skip ?_
          refine W_seq ?_
          refine W_block ?_
          refine W_drawSt [(0, 0), (0, 1), (0, 4), (0, 5), (0, 6), (0, 2), (0, 7), (1, 3), (0, 8), (0, 9), (0, 10), (2, 11)] hs24 mixed (by kernel_rfl) (fun w27 hs28 => ?_)
          refine E0 (wanted_none rfl) rfl (y_move (v := Value.slice _ _ _) rfl rfl) ?_
          refine E0 (wanted_none rfl) rfl (y_move (v := Value.int _ _) rfl rfl) ?_
          refine E0 (wanted_none rfl) rfl (y_move (v := Value.string ⟨⟨_⟩⟩) rfl rfl) ?_
          refine E0 (wanted_none rfl) rfl (y_move (v := Value.int _ _) rfl rfl) ?_
          refine E0 (wanted_none rfl) rfl (y_move (v := Value.int _ _) rfl rfl) ?_
          refine E0 (wanted_none rfl) rfl (y_indexSl rfl Tryd.underlying113 sz5 rfl rfl (by omega) (by omega)) ?_
          refine E0 (wanted_none rfl) rfl (y_sub64 rfl rfl rfl (by omega)) ?_
          refine E1 hs28 (wanted_none rfl) rfl (y_load 0 rfl Tryd.underlying5 rfl rfl rfl (Bytes.get' hB2 (by rw [xorN_len]; omega))) ?_
          refine E0 (wanted_none rfl) rfl (y_sindex rfl Tryd.underlying9 rfl rfl (by omega) (by omega)) ?_
          refine E0 (wanted_none rfl) rfl (y_xor8 rfl rfl rfl) ?_
          refine E0 (wanted_none rfl) rfl (y_indexSl rfl Tryd.underlying113 sz5 rfl rfl (by omega) (by omega)) ?_
          refine E2 (wanted_none rfl) (c_store (i := 0) (v := bv _) hs28 rfl rfl rfl rfl sz5 rfl rfl (by rw [hB2.size]; have := hB2.room; rw [xorN_len] at this; simp; omega) (hB2.fz) (fun w29 hs30 => ?_))
          have hB4 := hB2.set j ((xorN s (ks key nonce) j).getD j 0 ^^^ ks key nonce j)
          rw [xor_step s _ j (by omega)] at hB4
          rw [List.set_cons_zero, ix, show ((j : Int) - 64 * (q : Int)).toNat = j - 64 * q from by omega, ← ks_eq (q := q) (j := j) (by omega) (by omega)] at hs30
          refine Enil ?_
          refine W_region ?_
          refine L0 (wanted_none rfl) rfl (y_move (v := Value.int _ _) rfl rfl) ?_
          refine L0 (wanted_none rfl) rfl (y_add64 rfl rfl rfl (by omega)) ?_
          refine L0 (wanted_none rfl) rfl (y_assign (v := Value.int _ _) rfl rfl) ?_
          refine Lnil ?_
          exact ⟨(j + 1, _), by (try dsimp only); omega, _, A_c (iv_eq (by (try dsimp only); omega)) (A_c rfl (A_c rfl (A_c rfl (A_c rfl (A_c rfl (rfl)))))), by (dsimp only; omega), by (dsimp only; omega), by (dsimp only; omega), hB4, hs30⟩
        · have h26' := h26
          first | replace h26' := of_decide_eq_false h26' | replace h26' := bnF' h26' | skip
          refine W_condF rfl h26 ?_
          refine W_exit ?_
          refine W_region ?_
          refine L0 (wanted_none rfl) rfl (y_move (v := Value.int _ _) rfl rfl) ?_
          refine L0 (wanted_none rfl) rfl (y_add64 rfl rfl rfl (by omega)) ?_
          refine L0 (wanted_none rfl) rfl (y_assign (v := Value.int _ _) rfl rfl) ?_
          refine Lnil ?_
          have hB3 : Bytes w.heap.size b2 capb2 cur2 fzb2 (xorN s (ks key nonce) (min (64 * (q + 1)) s.length)) := by
            have he : min (64 * (q + 1)) s.length = j := by omega
            rw [he]; exact hB2
          exact ⟨(q + 1, cur2), by (try dsimp only); omega, _, A_c (iv_eq (by (try dsimp only); omega)) (A_c rfl (A_c rfl (A_c rfl (rfl)))), (by dsimp only; omega), hB3, hs24⟩
      · have h25' := h25
        first | replace h25' := of_decide_eq_false h25' | replace h25' := bnF' h25' | skip
        refine Lno (wanted_noB rfl rfl rfl h25 (by decide)) rfl ?_
        refine Lno (wanted_noB rfl rfl rfl h25 (by decide)) rfl ?_
        refine Lno (wanted_noB rfl rfl rfl h25 (by decide)) rfl ?_
        refine Lno (wanted_noB rfl rfl rfl h25 (by decide)) rfl ?_
        refine L0 (wanted_none rfl) rfl (y_pickF rfl rfl h25 rfl) ?_
        refine Lnil ?_
        refine W_condF rfl rfl ?_
        refine W_exit ?_
        refine W_region ?_
        refine L0 (wanted_none rfl) rfl (y_move (v := Value.int _ _) rfl rfl) ?_
        refine L0 (wanted_none rfl) rfl (y_add64 rfl rfl rfl (by omega)) ?_
        refine L0 (wanted_none rfl) rfl (y_assign (v := Value.int _ _) rfl rfl) ?_
        refine Lnil ?_
        have hB3 : Bytes w.heap.size b2 capb2 cur2 fzb2 (xorN s (ks key nonce) (min (64 * (q + 1)) s.length)) := by
          have he : min (64 * (q + 1)) s.length = j := by omega
          rw [he]; exact hB2
        exact ⟨(q + 1, cur2), by (try dsimp only); omega, _, A_c (iv_eq (by (try dsimp only); omega)) (A_c rfl (A_c rfl (A_c rfl (rfl)))), (by dsimp only; omega), hB3, hs24⟩
    · have h19' := h19
      first | replace h19' := of_decide_eq_false h19' | replace h19' := bnF' h19' | skip
      refine W_condF rfl h19 ?_
      refine W_exit ?_
      refine W_seq ?_
      have hrow : Row w.heap.size 5 1 (.slice (some ⟨b2, 0, none⟩) s.length capb2) s.length ((xorOf key nonce s).map bv) [(b2, .cells cur 5 fzb2)] := by
        have he : min (64 * q) s.length = s.length := by omega
        rw [he] at hB
        have h := hB.row (E := 5)
        rw [xorN_len] at h; exact h
      refine W_region ?_
      refine L0 (wanted_none rfl) rfl (y_move (v := Value.slice _ _ _) rfl rfl) ?_
      refine L1 (wanted_none rfl) rfl hs6 (y_bstr rfl Tryd.underlying113 Tryd.underlying5 Tryd.underlying9 rfl hrow (fun x hx => by first | exact hx | exact List.mem_cons.2 (.inl (List.mem_singleton.1 hx)) | simp [hx])) ?_
      refine L0 (wanted_none rfl) rfl (y_assign (v := Value.string ⟨⟨_⟩⟩) rfl rfl) ?_
      refine L0 (wanted_none rfl) rfl (y_assign (v := Value.nilIface) rfl rfl) ?_
      refine Lnil ?_
      refine W_ret ?_
      refine fin2 (fn := Tryd.f77) rfl rfl rfl ?_
      exact ⟨rfl, hs6.drop (.inl hbb2.new)⟩
end Go.Proofs.YtkolfgmpmnelmabDoor
