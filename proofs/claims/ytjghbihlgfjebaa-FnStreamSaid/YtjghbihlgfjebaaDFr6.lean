/- What functions of the program do, by the machine: Fr6. -/
import Derived.Test.YtjghbihlgfjebaaDFr5
import Derived.KernelRfl
import Derived.Test.YtjghbihlgfjebaaRows
namespace Go.Proofs.Ytjghbihlgfjebaa.Den
open Go.Proofs
set_option maxRecDepth 100000
/-- A reader fed with pieces. -/
def fedA : List (List UInt8) → List UInt8 → Bool → List UInt8
  | [], a, _ => a
  | t :: l, a, b => fedA l (feedA a b t) (feedB a b t)
def fedQ : List (List UInt8) → List UInt8 → List (List UInt8) → Bool → List (List UInt8)
  | [], _, q, _ => q
  | t :: l, a, q, b => fedQ l (feedA a b t) (feedQ a q b t) (feedB a b t)
def fedB : List (List UInt8) → List UInt8 → Bool → Bool
  | [], _, b => b
  | t :: l, a, b => fedB l (feedA a b t) (feedB a b t)
theorem unf1_append {s : List UInt8} (hne : s ≠ []) (t : List UInt8) : unf1 (s ++ t) = (match unf1 s with
    | .inl (x, r) => .inl (x, r ++ t)
    | .inr (_, true) => .inr ([], true)
    | .inr (_, false) => unf1 (s ++ t)) := by
  have hpos : 0 < s.length := List.length_pos_iff.2 hne
  have h0 : (s ++ t).getD 0 0 = s.getD 0 0 := by simp [List.getD, List.getElem?_append, hpos]
  have hl : (s ++ t).length = s.length + t.length := List.length_append
  by_cases q1 : 1 < s.length
  · have h1 : (s ++ t).getD 1 0 = s.getD 1 0 := by simp [List.getD, List.getElem?_append, q1]
    have hlt : 1 < (s ++ t).length := by omega
    unfold unf1
    rw [h0, h1, hl]
    generalize s.getD 1 0 = b
    by_cases qA : (s.getD 0 0).toNat ≠ 126 ∨ (1 < s.length ∧ 60 < b.toNat)
    · rw [if_pos qA, if_pos (by omega)]
    rw [if_neg qA, if_neg (by omega)]
    by_cases qB : s.length = 1 ∨ s.length < b.toNat + 3
    · rw [if_pos qB]
    rw [if_neg qB, if_neg (by omega)]
    have h2 : (s ++ t).getD (2 + b.toNat) 0 = s.getD (2 + b.toNat) 0 := by
      have : 2 + b.toNat < s.length := by omega
      simp [List.getD, List.getElem?_append, this]
    have h3 : ((s ++ t).drop 2).take b.toNat = (s.drop 2).take b.toNat := by
      rw [List.drop_append_of_le_length (by omega), List.take_append_of_le_length (by rw [List.length_drop]; omega)]
    rw [h2, h3]
    by_cases qC : ((s.getD (2 + b.toNat) 0).toNat : Int) ≠ sumB ((s.drop 2).take b.toNat)
    · rw [if_pos qC, if_pos qC]
    · rw [if_neg qC, if_neg qC, List.drop_append_of_le_length (by omega)]
  · have q2 : s.length = 1 := by omega
    by_cases qA : (s.getD 0 0).toNat ≠ 126
    · have e : unf1 s = .inr ([], true) := by unfold unf1; rw [if_pos (.inl qA)]
      rw [e]
      unfold unf1
      rw [h0, if_pos (.inl qA)]
    · have e : unf1 s = .inr (s, false) := by
        unfold unf1
        rw [if_neg (by omega), if_pos (.inl q2)]
      rw [e]
theorem unf1_inr_cases {s : List UInt8} {x : List UInt8 × Bool} (h : unf1 s = .inr x) : x = ([], true) ∨ (x = (s, false) ∧ s.length < 63) := by
  unfold unf1 at h
  split at h
  · cases h; exact .inl rfl
  · split at h
    · cases h; exact .inr ⟨rfl, by omega⟩
    · split at h
      · cases h; exact .inl rfl
      · cases h
theorem unf_append : ∀ (n : Nat) (s t : List UInt8), s.length ≤ n → unf (s ++ t) = if (unf s).2.2 = true then ((unf s).1, [], true) else ((unf s).1 ++ (unf ((unf s).2.1 ++ t)).1, (unf ((unf s).2.1 ++ t)).2)
  | 0, s, t, h => by
    obtain rfl : s = [] := List.length_eq_zero_iff.1 (by omega)
    simp [unf_nil]
  | n + 1, s, t, h => by
    by_cases hne : s = []
    · subst hne; simp [unf_nil]
    have hne2 : s ++ t ≠ [] := fun e => hne (List.append_eq_nil_iff.1 e).1
    have ha := unf1_append hne t
    cases e : unf1 s with
    | inl x =>
      obtain ⟨x, r⟩ := x
      rw [e] at ha
      dsimp only at ha
      have hl := unf1_inl e
      rw [unf_inl ha, unf_inl e, unf_append n r t (by omega)]
      dsimp only
      split <;> rfl
    | inr x =>
      rw [unf_inr hne e]
      rcases unf1_inr_cases e with rfl | ⟨rfl, _⟩
      · rw [e] at ha
        dsimp only at ha
        rw [unf_inr hne2 ha]
        rfl
      · simp
/-- What is left, read anew. -/
theorem unf_rest : ∀ (n : Nat) (s : List UInt8), s.length ≤ n → unf (unf s).2.1 = ([], (unf s).2.1, false) ∧ (unf s).2.1.length < 63 ∧ ((unf s).2.2 = true → (unf s).2.1 = [])
  | 0, s, h => by
    obtain rfl : s = [] := List.length_eq_zero_iff.1 (by omega)
    simp [unf_nil]
  | n + 1, s, h => by
    by_cases hne : s = []
    · subst hne; simp [unf_nil]
    cases e : unf1 s with
    | inl x =>
      obtain ⟨x, r⟩ := x
      have hl := unf1_inl e
      rw [unf_inl e]
      exact unf_rest n r (by omega)
    | inr x =>
      have hx := unf_inr hne e
      rw [hx]
      rcases unf1_inr_cases e with rfl | ⟨rfl, hs⟩
      · simp [unf_nil]
      · exact ⟨hx, hs, by simp⟩
theorem goodR_iff {a : List UInt8} {q : List (List UInt8)} {b : Bool} : goodR a q b = true ↔ q.length ≤ 40 ∧ (∀ z ∈ q, z.length ≤ 60) ∧ (b = true → a = []) ∧ unf a = ([], a, false) := by
  have hL := unf_left a.length a (Nat.le_refl _)
  unfold goodR
  simp only [Bool.and_eq_true, decide_eq_true_eq, Bool.not_eq_true', beq_iff_eq, List.any_eq_false, Nat.not_lt, Bool.and_eq_false_imp, Bool.not_eq_false', and_assoc]
  constructor
  · rintro ⟨h1, h2, h3, h4, h5⟩
    refine ⟨h1, h2, h3, ?_⟩
    have h6 : (unf a).1 = [] := by
      by_cases hn : (unf a).1 = []
      · exact hn
      · have := hL.2.1 hn
        rw [h5] at this; omega
    exact Prod.ext h6 (Prod.ext h5 h4)
  · rintro ⟨h1, h2, h3, h4⟩
    refine ⟨h1, h2, h3, ?_, ?_⟩ <;> rw [h4]
theorem goodR_short {a : List UInt8} {q : List (List UInt8)} {b : Bool} (h : goodR a q b = true) : a.length < 63 := by
  have h4 := (goodR_iff.1 h).2.2.2
  have := (unf_rest a.length a (Nat.le_refl _)).2.1
  rw [h4] at this
  exact this
theorem feed_good {a : List UInt8} {q : List (List UInt8)} {b : Bool} (t : List UInt8) (h : goodR a q b = true) : goodR (feedA a b t) (feedQ a q b t) (feedB a b t) = true := by
  obtain ⟨h1, h2, h3, h4⟩ := goodR_iff.1 h
  unfold feedA feedQ feedB
  cases b with
  | true => simpa using h
  | false =>
    obtain ⟨r1, r2, r3⟩ := unf_rest (a ++ t).length (a ++ t) (Nat.le_refl _)
    obtain ⟨l1, l2, l3, l4⟩ := unf_left (a ++ t).length (a ++ t) (Nat.le_refl _)
    simp only [Bool.false_eq_true, if_false]
    refine goodR_iff.2 ⟨by rw [List.length_append, List.length_take]; omega, fun z hz => ?_, r3, r1⟩
    rcases List.mem_append.1 hz with hz | hz
    · exact h2 z hz
    · exact l3 z (List.mem_of_mem_take hz)
theorem feed_feed (a : List UInt8) (q : List (List UInt8)) (b : Bool) (s t : List UInt8) (hq : q.length ≤ 40) : feedA (feedA a b s) (feedB a b s) t = feedA a b (s ++ t) ∧ feedQ (feedA a b s) (feedQ a q b s) (feedB a b s) t = feedQ a q b (s ++ t) ∧ feedB (feedA a b s) (feedB a b s) t = feedB a b (s ++ t) := by
  unfold feedA feedQ feedB
  cases b with
  | true => simp
  | false =>
    simp only [Bool.false_eq_true, if_false]
    rw [← List.append_assoc, unf_append _ (a ++ s) t (Nat.le_refl _)]
    obtain ⟨r1, r2, r3⟩ := unf_rest (a ++ s).length (a ++ s) (Nat.le_refl _)
    generalize unf (a ++ s) = v at *
    cases hb : v.2.2 with
    | true => simp [r3 hb]
    | false =>
      simp only [Bool.false_eq_true, if_false]
      refine ⟨trivial, ?_, trivial⟩
      rw [List.take_append, List.append_assoc, List.length_append, List.length_take]
      congr 3
      omega
theorem fed_good : ∀ (l : List (List UInt8)) {a : List UInt8} {q : List (List UInt8)} {b : Bool}, goodR a q b = true → goodR (fedA l a b) (fedQ l a q b) (fedB l a b) = true
  | [], _, _, _, h => h
  | t :: l, _, _, _, h => fed_good l (feed_good t h)
theorem feed_nil {a : List UInt8} {q : List (List UInt8)} {b : Bool} (h : goodR a q b = true) : feedA a b [] = a ∧ feedQ a q b [] = q ∧ feedB a b [] = b := by
  have h4 := (goodR_iff.1 h).2.2.2
  unfold feedA feedQ feedB
  rw [List.append_nil, h4]
  cases b <;> simp
/-- Fed in pieces, or in one. -/
theorem fed_one : ∀ (l : List (List UInt8)) {a : List UInt8} {q : List (List UInt8)} {b : Bool}, goodR a q b = true → fedA l a b = feedA a b l.flatten ∧ fedQ l a q b = feedQ a q b l.flatten ∧ fedB l a b = feedB a b l.flatten
  | [], a, q, b, h => by
    obtain ⟨e1, e2, e3⟩ := feed_nil h
    rw [List.flatten_nil, e1, e2, e3]
    exact ⟨rfl, rfl, rfl⟩
  | t :: l, a, q, b, h => by
    obtain ⟨i1, i2, i3⟩ := fed_one l (feed_good t h)
    obtain ⟨f1, f2, f3⟩ := feed_feed a q b t l.flatten (goodR_len h)
    rw [List.flatten_cons, ← f1, ← f2, ← f3, ← i1, ← i2, ← i3]
    exact ⟨rfl, rfl, rfl⟩
theorem new_goodR : goodR [] [[]] false = true := goodR_iff.2 ⟨by simp, by simp, by simp, unf_nil⟩
end Go.Proofs.Ytjghbihlgfjebaa.Den
