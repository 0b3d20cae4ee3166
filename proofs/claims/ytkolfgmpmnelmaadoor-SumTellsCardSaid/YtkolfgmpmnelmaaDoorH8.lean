/-
  Plain law: texts that are marked are one just if their parts are.
-/
import Derived.Test.YtkolfgmpmnelmaaDoorH5
namespace Go.Proofs.YtkolfgmpmnelmaaDoor
open Go Vx Go.Proofs
set_option linter.unusedVariables false

def body : List (List UInt8) → List UInt8
  | [] => []
  | p :: l => numOf p.length ++ p ++ body l
theorem markS_body (l : List (List UInt8)) : ∀ s, markS s l = s ++ body l := by
  induction l with
  | nil => intro s; simp [markS, body]
  | cons p l ih =>
    intro s
    have h := ih (s ++ (numOf p.length ++ p))
    simp only [markS, List.foldl_cons] at h ⊢
    rw [h, body]; simp only [List.append_assoc]
theorem numOf_inj {a b : Nat} (ha : a ≤ 100) (hb : b ≤ 100) (h : numOf a = numOf b) : a = b := by
  have h1 : (numOf a).getD 7 0 = (numOf b).getD 7 0 := by rw [h]
  have h2 : ∀ n : Nat, n ≤ 100 → (numOf n).getD 7 0 = UInt8.ofNat n := by decide
  rw [h2 a ha, h2 b hb] at h1
  have h3 : (UInt8.ofNat a).toNat = (UInt8.ofNat b).toNat := by rw [h1]
  simp at h3; omega
theorem body_inj : ∀ (a b : List (List UInt8)), (∀ s ∈ a, s.length ≤ 100) → (∀ s ∈ b, s.length ≤ 100) → body a = body b → a = b
  | [], [], _, _, _ => rfl
  | [], q :: m, _, _, h => by
    have := congrArg List.length h
    simp only [body, List.length_append, numOf_len, List.length_nil] at this; omega
  | p :: l, [], _, _, h => by
    have := congrArg List.length h
    simp only [body, List.length_append, numOf_len, List.length_nil] at this; omega
  | p :: l, q :: m, ha, hb, h => by
    simp only [body, List.append_assoc] at h
    obtain ⟨h1, h2⟩ := List.append_inj h (by rw [numOf_len, numOf_len])
    have hl := numOf_inj (ha p (by simp)) (hb q (by simp)) h1
    obtain ⟨h3, h4⟩ := List.append_inj h2 hl
    rw [h3, body_inj l m (fun s hs => ha s (by simp [hs])) (fun s hs => hb s (by simp [hs])) h4]
theorem mark_inj (k k' : UInt8) (a b : List (List UInt8)) (ha : ∀ s ∈ a, s.length ≤ 100) (hb : ∀ s ∈ b, s.length ≤ 100) : markS [k] a = markS [k'] b ↔ k = k' ∧ a = b := by
  constructor
  · intro h
    rw [markS_body, markS_body] at h
    simp only [List.cons_append, List.nil_append, List.cons.injEq] at h
    exact ⟨h.1, body_inj a b ha hb h.2⟩
  · rintro ⟨rfl, rfl⟩; rfl
theorem body_len : ∀ (a : List (List UInt8)), (∀ s ∈ a, s.length ≤ 100) → (body a).length ≤ 108 * a.length
  | [], _ => by simp [body]
  | p :: l, ha => by
    have h1 := body_len l (fun s hs => ha s (by simp [hs]))
    have h2 := ha p (by simp)
    simp only [body, List.length_append, numOf_len, List.length_cons]
    omega
theorem markS_len (k : UInt8) (a : List (List UInt8)) (ha : ∀ s ∈ a, s.length ≤ 100) (hl : a.length ≤ 10) : (markS [k] a).length ≤ 1099511627776 := by
  have := body_len a ha
  rw [markS_body, List.length_append]
  simp only [List.length_cons, List.length_nil]; omega
end Go.Proofs.YtkolfgmpmnelmaaDoor
