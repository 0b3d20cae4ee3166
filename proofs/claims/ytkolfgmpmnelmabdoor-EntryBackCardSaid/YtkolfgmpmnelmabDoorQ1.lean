/-
  Plain words: what files are written as, and that it is read back.
-/
import Derived.Lib.ItoaMem
import Derived.Lib.AtoiTie
import Derived.Lib.ItoaLen
namespace Go.Proofs.YtkolfgmpmnelmabDoor.Ent
open Go

/-! ### Cut at a byte -/
def spl (c : UInt8) : List UInt8 → List (List UInt8)
  | [] => [[]]
  | x :: r => if x = c then [] :: spl c r else
    match spl c r with
    | h :: t => (x :: h) :: t
    | [] => [[x]]
theorem spl_ne (c : UInt8) : ∀ s, spl c s ≠ []
  | [] => by simp [spl]
  | x :: r => by
    rw [spl]
    split
    · simp
    · split <;> simp
theorem spl_none {c : UInt8} : ∀ {s : List UInt8}, c ∉ s → spl c s = [s]
  | [], _ => rfl
  | x :: r, h => by
    simp only [List.mem_cons, not_or] at h
    rw [spl, if_neg (fun e => h.1 e.symm), spl_none h.2]
theorem spl_app {c : UInt8} : ∀ {s : List UInt8} (r : List UInt8), c ∉ s → spl c (s ++ c :: r) = s :: spl c r
  | [], r, _ => by rw [List.nil_append, spl, if_pos rfl]
  | x :: s, r, h => by
    simp only [List.mem_cons, not_or] at h
    rw [List.cons_append, spl, if_neg (fun e => h.1 e.symm), spl_app r h.2]
/-- Pieces, c ahead of each but the first. -/
theorem spl_pieces {c : UInt8} : ∀ (xs : List (List UInt8)) (x : List UInt8), c ∉ x → (∀ y ∈ xs, c ∉ y) → spl c (x ++ xs.flatMap fun y => c :: y) = x :: xs
  | [], x, h, _ => by rw [List.flatMap_nil, List.append_nil, spl_none h]
  | y :: ys, x, h, hy => by
    rw [List.flatMap_cons, List.cons_append, spl_app _ h, spl_pieces ys y (hy y (by simp)) (fun z hz => hy z (by simp [hz]))]
/-- Pieces, c behind each. -/
theorem spl_behind {c : UInt8} : ∀ (xs : List (List UInt8)), (∀ y ∈ xs, c ∉ y) → spl c (xs.flatMap fun y => y ++ [c]) = xs ++ [[]]
  | [], _ => rfl
  | y :: ys, hy => by
    rw [List.flatMap_cons, List.append_assoc, List.singleton_append, spl_app _ (hy y (by simp)), spl_behind ys (fun z hz => hy z (by simp [hz])), List.cons_append]

/-! ### Numerals -/
theorem dec_digit (u : Nat) : ∀ c ∈ Lib.decDigits u, 48 ≤ c.toNat ∧ c.toNat ≤ 57 := by
  induction u using Nat.strongRecOn with
  | _ u ih =>
    rw [Lib.decDigits]
    split
    · intro c hc
      simp only [List.mem_singleton] at hc
      subst hc
      rw [UInt8.toNat_ofNat']; omega
    · intro c hc
      rcases List.mem_append.1 hc with hc | hc
      · exact ih (u / 10) (by omega) c hc
      · simp only [List.mem_singleton] at hc
        subst hc
        rw [UInt8.toNat_ofNat']; omega
theorem decFrom_app (d : UInt8) : ∀ (l : List UInt8) (a m : Nat), Lib.decFrom a l = some m → 48 ≤ d.toNat → d.toNat ≤ 57 → Lib.decFrom a (l ++ [d]) = some (m * 10 + (d.toNat - 48))
  | [], a, m, h, h1, h2 => by
    simp only [Lib.decFrom, Option.some.injEq] at h
    subst h
    simp [Lib.decFrom, Lib.digitVal, h1, h2]
  | x :: l, a, m, h, h1, h2 => by
    simp only [Lib.decFrom] at h
    rw [List.cons_append, Lib.decFrom]
    split at h
    · exact decFrom_app d l _ m h h1 h2
    · cases h
theorem decFrom_dec (u : Nat) : Lib.decFrom 0 (Lib.decDigits u) = some u := by
  induction u using Nat.strongRecOn with
  | _ u ih =>
    rw [Lib.decDigits]
    split
    · have e : (UInt8.ofNat (48 + u)).toNat = 48 + u := by rw [UInt8.toNat_ofNat']; omega
      simp only [Lib.decFrom, Lib.digitVal, e]
      rw [if_pos (by omega)]
      simp
    · have e : (UInt8.ofNat (48 + u % 10)).toNat = 48 + u % 10 := by rw [UInt8.toNat_ofNat']; omega
      rw [decFrom_app _ _ _ _ (ih (u / 10) (by omega)) (by omega) (by omega), e]
      congr 1; omega
theorem dec_ne (u : Nat) : Lib.decDigits u ≠ [] := fun h => by
  have h1 := Lib.decDigits_length u
  rw [h] at h1
  have := Lib.nDigits_pos u
  simp at h1; omega
theorem atoi_dec (u : Nat) : Lib.atoi (Lib.decDigits u) = some (u : Int) := by
  cases h : Lib.decDigits u with
  | nil => exact absurd h (dec_ne u)
  | cons b r =>
    have hb := dec_digit u b (by rw [h]; simp)
    have h1 := decFrom_dec u
    rw [h] at h1
    have n1 : (b == 45) = false := by rw [beq_eq_false_iff_ne]; intro e; subst e; have := hb.1; simp at this
    have n2 : (b == 43) = false := by rw [beq_eq_false_iff_ne]; intro e; subst e; have := hb.1; simp at this
    simp [Lib.atoi, n1, n2, Lib.decNat, h1]
theorem itoa_small {n : Int} (h0 : 0 ≤ n) : Lib.itoa n = Lib.decDigits n.toNat := by rw [Lib.itoa, if_neg (by omega)]
/-- What Atoi makes of a text: a number, where it is one. -/
def num? (t : List UInt8) : Option Int := match Lib.atoiAll t with | .ok v => some v | _ => none
/-- .. the number beside an error too. -/
def numV (t : List UInt8) : Int := match Lib.atoiAll t with | .ok v => v | .range => Lib.atoiSat t | _ => 0
theorem atoiAll_itoa {n : Int} (h0 : 0 ≤ n) (h1 : n ≤ 1000000) : Lib.atoiAll (Lib.itoa n) = .ok n := by
  rw [itoa_small h0]
  have hl : (Lib.decDigits n.toNat).length ≤ 18 := by
    rw [Lib.decDigits_length]
    rcases Nat.lt_or_ge (Lib.nDigits n.toNat) 9 with h | h
    · omega
    · have h2 : 10 ^ 8 ≤ 10 ^ (Lib.nDigits n.toNat - 1) := Nat.pow_le_pow_right (by decide) (by omega)
      exfalso
      have h3 : ∀ u, 1 ≤ u → 10 ^ (Lib.nDigits u - 1) ≤ u := by
        intro u
        induction u using Nat.strongRecOn with
        | _ u ih =>
          intro hu
          by_cases hs : u < 10
          · rw [Lib.nDigits_small hs]; simpa using hu
          · rw [Lib.nDigits_big hs, Nat.add_sub_cancel]
            have h4 := ih (u / 10) (by omega) (by omega)
            have h5 : 10 ^ Lib.nDigits (u / 10) = 10 ^ (Lib.nDigits (u / 10) - 1) * 10 := by
              rw [← Nat.pow_succ]; congr 1; have := Lib.nDigits_pos (u / 10); omega
            omega
      by_cases hz : n.toNat = 0
      · rw [hz, Lib.nDigits_small (by decide)] at h; omega
      · have := h3 n.toNat (by omega)
        have e : (10 : Nat) ^ 8 = 100000000 := by decide
        omega
  rw [Lib.atoiAll_short _ hl, atoi_dec]
  show Lib.NumEnd.ok _ = _
  congr 1; omega
theorem num?_itoa {n : Int} (h0 : 0 ≤ n) (h1 : n ≤ 1000000) : num? (Lib.itoa n) = some n := by rw [num?, atoiAll_itoa h0 h1]
theorem numV_itoa {n : Int} (h0 : 0 ≤ n) (h1 : n ≤ 1000000) : numV (Lib.itoa n) = n := by rw [numV, atoiAll_itoa h0 h1]
theorem itoa_no {n : Int} {c : UInt8} (h0 : 0 ≤ n) (hc : c.toNat < 48) : c ∉ Lib.itoa n := fun h => by
  rw [itoa_small h0] at h
  have := dec_digit _ c h
  omega

/-! ### Files -/
structure Fl where
  nm : List UInt8
  sz : Int
  cs : List Int
  deriving DecidableEq
def low (c : UInt8) : Bool := decide (97 ≤ c.toNat) && decide (c.toNat ≤ 122)
def dig (c : UInt8) : Bool := decide (48 ≤ c.toNat) && decide (c.toNat ≤ 57)
structure NameP (s : List UInt8) : Prop where
  ne : s ≠ []
  len : s.length ≤ 10
  first : low (s.getD 0 0) = true
  all : ∀ c ∈ s, (low c || dig c) = true
def needI (n : Int) : Int := max (n + 79) 0 / 80
def allCells (l : List Fl) : List Int := l.flatMap Fl.cs
structure RightP (l : List Fl) : Prop where
  few : l.length ≤ 8
  name : ∀ f ∈ l, NameP f.nm
  rise : ∀ i, i + 1 < l.length → Op.bytesLess (l.getD i ⟨[], 0, []⟩).nm (l.getD (i + 1) ⟨[], 0, []⟩).nm = true
  size : ∀ f ∈ l, 0 ≤ f.sz ∧ f.sz ≤ 1920
  need : ∀ f ∈ l, (f.cs.length : Int) = needI f.sz
  range : ∀ k ∈ allCells l, 3 ≤ k ∧ k < 24
  once : (allCells l).Nodup
def nums (f : Fl) : List UInt8 := (f.sz :: f.cs).flatMap fun k => 32 :: Lib.itoa k
def lb (f : Fl) : List UInt8 := f.nm ++ nums f
def printed (l : List Fl) : List UInt8 := l.flatMap fun f => lb f ++ [10]

theorem name_no {s : List UInt8} (h : NameP s) {c : UInt8} (hc : c.toNat < 48) : c ∉ s := fun hm => by
  have := h.all c hm
  simp only [low, dig, Bool.or_eq_true, Bool.and_eq_true, decide_eq_true_eq] at this
  omega
structure FlP (f : Fl) : Prop where
  name : NameP f.nm
  size : 0 ≤ f.sz ∧ f.sz ≤ 1920
  cell : ∀ k ∈ f.cs, 3 ≤ k ∧ k < 24
theorem RightP.fl {l : List Fl} (h : RightP l) {f : Fl} (hf : f ∈ l) : FlP f :=
  ⟨h.name f hf, h.size f hf, fun k hk => h.range k (List.mem_flatMap.2 ⟨f, hf, hk⟩)⟩
theorem lb_split {f : Fl} (h : FlP f) : spl 32 (lb f) = f.nm :: (f.sz :: f.cs).map Lib.itoa := by
  have h1 : nums f = ((f.sz :: f.cs).map Lib.itoa).flatMap fun y => 32 :: y := by rw [nums, List.flatMap_map]
  rw [lb, h1]
  refine spl_pieces _ _ (name_no h.name (by decide)) fun y hy => ?_
  obtain ⟨k, hk, rfl⟩ := List.mem_map.1 hy
  refine itoa_no ?_ (by decide)
  rcases List.mem_cons.1 hk with rfl | hk
  · exact h.size.1
  · have := (h.cell k hk).1; omega
theorem lb_no {f : Fl} (h : FlP f) : (10 : UInt8) ∉ lb f := fun hm => by
  rcases List.mem_append.1 hm with hm | hm
  · exact name_no h.name (by decide) hm
  · obtain ⟨k, hk, hm⟩ := List.mem_flatMap.1 hm
    rcases List.mem_cons.1 hm with hm | hm
    · exact absurd hm (by decide)
    · refine itoa_no (n := k) (c := 10) ?_ (by decide) hm
      rcases List.mem_cons.1 hk with rfl | hk
      · exact h.size.1
      · have := (h.cell k hk).1; omega
theorem printed_split {l : List Fl} (h : ∀ f ∈ l, FlP f) : spl 10 (printed l) = l.map lb ++ [[]] := by
  have h1 : printed l = (l.map lb).flatMap fun y => y ++ [10] := by rw [printed, List.flatMap_map]
  rw [h1]
  refine spl_behind _ fun y hy => ?_
  obtain ⟨f, hf, rfl⟩ := List.mem_map.1 hy
  exact lb_no (h f hf)

/-! ### Read: ours -/
def line? (t : List UInt8) : Option Fl :=
  match (spl 32 t).tail.mapM num? with
  | some ns => some ⟨(spl 32 t).headD [], ns.headD 0, ns.tail⟩
  | none => none
def cutEnd (s : List UInt8) : List UInt8 := if s.getLast? = some 10 then s.dropLast else s
def read? (s : List UInt8) : Option (List Fl) :=
  match (spl 10 (cutEnd s)).mapM line? with
  | some l => some (if s = [] then [] else l)
  | none => none
theorem mapM_map {α β : Type} (f : β → Option α) (g : α → β) : ∀ (l : List α), (∀ x ∈ l, f (g x) = some x) → (l.map g).mapM f = some l
  | [], _ => by simp
  | x :: r, h => by
    rw [List.map_cons, List.mapM_cons, h x (by simp), mapM_map f g r (fun y hy => h y (by simp [hy]))]
    rfl
theorem line?_lb {f : Fl} (h : FlP f) : line? (lb f) = some f := by
  rw [line?, lb_split h, List.tail_cons, mapM_map num? Lib.itoa (f.sz :: f.cs) (fun k hk => ?_)]
  · rfl
  · rcases List.mem_cons.1 hk with rfl | hk
    · exact num?_itoa h.size.1 (by have := h.size.2; omega)
    · have := h.cell k hk; exact num?_itoa (by omega) (by omega)
theorem cutEnd_app (s : List UInt8) : cutEnd (s ++ [10]) = s := by rw [cutEnd, if_pos (by simp)]; simp
theorem printed_cons_ne (f : Fl) (l : List Fl) : printed (f :: l) ≠ [] := by simp [printed]
theorem printed_cut : ∀ (l : List Fl), l ≠ [] → ∃ r, printed l = r ++ [10]
  | [], h => absurd rfl h
  | [f], _ => ⟨lb f, by simp [printed]⟩
  | f :: g :: l, _ => by
    obtain ⟨r, hr⟩ := printed_cut (g :: l) (by simp)
    refine ⟨lb f ++ [10] ++ r, ?_⟩
    have h1 : printed (f :: g :: l) = lb f ++ [10] ++ printed (g :: l) := by simp [printed]
    rw [h1, hr]; simp
theorem spl_last {c : UInt8} : ∀ (r : List UInt8), spl c (r ++ [c]) = spl c r ++ [[]]
  | [] => by simp [spl]
  | x :: r => by
    rw [List.cons_append, spl, spl]
    split
    · rw [spl_last r]; rfl
    · rw [spl_last r]
      cases h : spl c r with
      | nil => exact absurd h (spl_ne c r)
      | cons a b => rfl
theorem read?_printed {l : List Fl} (h : ∀ f ∈ l, FlP f) : read? (printed l) = some l := by
  cases l with
  | nil => rfl
  | cons f l =>
    obtain ⟨r, hr⟩ := printed_cut (f :: l) (by simp)
    have h1 := printed_split h
    have hne := printed_cons_ne f l
    have h3 : (spl 10 (cutEnd (printed (f :: l)))).mapM line? = some (f :: l) := by
      rw [hr] at h1 ⊢
      rw [spl_last] at h1
      have h2 := List.append_cancel_right h1
      rw [cutEnd_app, h2, mapM_map line? lb _ (fun g hg => line?_lb (h g hg))]
    rw [read?, h3]
    simp only [if_neg hne]
/-! ### Read: the document's -/
def lineV (t : List UInt8) : Fl := ⟨(spl 32 (t ++ [32])).headD [], numV ((spl 32 (t ++ [32])).getD 1 []), (((spl 32 (t ++ [32])).drop 2).dropLast).map numV⟩
def readV (s : List UInt8) : List Fl := (spl 10 s).dropLast.map lineV
theorem lineV_lb {f : Fl} (h : FlP f) : lineV (lb f) = f := by
  have h1 : spl 32 (lb f ++ [32]) = f.nm :: (f.sz :: f.cs).map Lib.itoa ++ [[]] := by rw [spl_last, lb_split h]
  have h3 : (f.cs.map Lib.itoa).map numV = f.cs := by
    rw [List.map_map]
    conv => rhs; rw [← List.map_id f.cs]
    refine List.map_congr_left fun k hk => ?_
    have := h.cell k hk; exact numV_itoa (by omega) (by omega)
  rw [lineV, h1]
  simp only [List.map_cons, List.cons_append, List.headD_cons, List.getD_cons_succ, List.getD_cons_zero, List.drop_succ_cons, List.drop_zero, List.dropLast_concat, h3, numV_itoa h.size.1 (show f.sz ≤ 1000000 by have := h.size.2; omega)]
theorem readV_printed {l : List Fl} (h : ∀ f ∈ l, FlP f) : readV (printed l) = l := by
  rw [readV, printed_split h, List.dropLast_concat, List.map_map]
  conv => rhs; rw [← List.map_id l]
  exact List.map_congr_left fun f hf => lineV_lb (h f hf)
theorem printed_inj {l m : List Fl} (hl : RightP l) (hm : RightP m) (h : printed l = printed m) : l = m := by
  have h1 := readV_printed (fun f hf => hl.fl hf)
  rw [h, readV_printed (fun f hf => hm.fl hf)] at h1
  exact h1.symm
/-- What is read of a text: the files that are written so. -/
def Reads (s : List UInt8) (r : Option (List Fl)) : Prop := match r with
  | some m => RightP m ∧ printed m = s
  | none => ∀ m, RightP m → printed m ≠ s
theorem Reads.unique {s : List UInt8} {r r' : Option (List Fl)} (h : Reads s r) (h' : Reads s r') : r = r' := by
  match r, r', h, h' with
  | some m, some m', h, h' => rw [printed_inj h.1 h'.1 (h.2.trans h'.2.symm)]
  | some m, none, h, h' => exact absurd h.2 (h' m h.1)
  | none, some m, h, h' => exact absurd h'.2 (h m h'.1)
  | none, none, _, _ => rfl
end Go.Proofs.YtkolfgmpmnelmabDoor.Ent
