/- What functions of the program do, by the machine: PlayV. -/
import Derived.Test.YtjghbihlgfjebaaDStepC
import Derived.KernelRfl
import Derived.Test.YtjghbihlgfjebaaRows
namespace Go.Proofs.Ytjghbihlgfjebaa.Den
open Go.Proofs
set_option maxRecDepth 100000
/-- One step of a play. -/
def Ses.one (s : Ses) (x : (Int × Int × List UInt8 × Unit)) : Ses := bif s.ok x.1 x.2.1 x.2.2.1 then s.next x.1 x.2.1 x.2.2.1 else s
/-- A play. -/
def Ses.play (s : Ses) : List (Int × Int × List UInt8 × Unit) → Ses
  | [] => s
  | x :: l => Ses.play (s.one x) l
/-- What it tells. -/
def Ses.tell (s : Ses) : List (Int × Int × List UInt8 × Unit) → List Bool
  | [] => []
  | x :: l => s.ok x.1 x.2.1 x.2.2.1 :: Ses.tell (s.one x) l
/-- What always holds. -/
def Ses.inv (s : Ses) (n : Nat) : Prop := (1 ≤ s.e ∧ s.e ≤ 1000) ∧ (0 ≤ s.b ∧ s.b ≤ s.ha.length) ∧ (∀ z ∈ s.a, 0 ≤ z.2.1 ∧ z.2.1 ≤ s.ha.length) ∧ s.it.length ≤ n ∧ s.ha.length ≤ n ∧ s.w.length ≤ n ∧ s.a.length ≤ n
instance (s : Ses) (n : Nat) : Decidable (s.inv n) := by unfold Ses.inv; exact inferInstance
theorem Ses.come_inv {s : Ses} {n : Nat} (h : s.inv n) (p : (Int × Int × List UInt8 × Unit)) : (s.come p).inv (n + 1) := by
  obtain ⟨h1, h2, h3, h4, h5, h6, h7⟩ := h
  unfold Ses.come
  repeat' split
  all_goals refine ⟨h1, ?_, ?_, ?_, ?_, ?_, ?_⟩
  all_goals try (try dsimp only) <;> (try simp only [List.length_append, List.length_cons, List.length_nil]) <;> omega
  all_goals intro z hz
  all_goals try dsimp only at hz
  all_goals try dsimp only
  all_goals try simp only [List.mem_append, List.mem_singleton] at hz
  all_goals try simp only [List.length_append, List.length_cons, List.length_nil]
  · rcases hz with hz | rfl
    · have := h3 z hz; omega
    · dsimp only; omega
  · have := h3 z hz; omega
  · rcases hz with hz | rfl
    · have := h3 z hz; omega
    · dsimp only; omega
theorem Ses.next_inv {s : Ses} {n : Nat} (h : s.inv n) {x0 x1 : Int} {x2 : List UInt8} (hk : s.ok x0 x1 x2 = true) : (s.next x0 x1 x2).inv (n + 1) := by
  have h0 := h
  obtain ⟨h1, h2, h3, h4, h5, h6, h7⟩ := h
  have er : ∀ {α : Type} (l : List α) (i : Nat), (l.eraseIdx i).length ≤ l.length := fun l i => by rw [List.length_eraseIdx]; split <;> omega
  have e4 := er s.w x1.toNat
  have e5 := er s.a x1.toNat
  unfold Ses.next
  by_cases c1 : x0 = 1
  · rw [if_pos c1]
    exact ⟨h1, h2, h3, by simp; omega, by dsimp only; omega, by dsimp only; omega, by dsimp only; omega⟩
  rw [if_neg c1]
  by_cases c2 : x0 = 2
  · rw [if_pos c2]
    exact ⟨h1, h2, h3, by dsimp only; omega, by dsimp only; omega, by simp; omega, by dsimp only; omega⟩
  rw [if_neg c2]
  by_cases c6 : x0 = 6
  · rw [if_pos c6]
    have ho : 0 ≤ x1 ∧ x1 < s.a.length := by
      unfold Ses.ok at hk
      rw [if_neg c1, if_neg c2, if_pos c6] at hk
      exact of_decide_eq_true hk
    have hi : x1.toNat < s.a.length := by omega
    have hz := h3 _ (List.getElem_mem hi)
    have eg : s.a.getD x1.toNat (0, 0, ()) = s.a[x1.toNat] := by simp [hi]
    refine ⟨h1, ?_, fun z hz => h3 z (List.mem_of_mem_eraseIdx hz), by dsimp only; omega, by dsimp only; omega, by dsimp only; omega, by dsimp only; omega⟩
    dsimp only
    rw [eg]
    split
    · split
      · exact hz
      · exact h2
    · exact h2
  rw [if_neg c6]
  by_cases c7 : x0 = 7
  · rw [if_pos c7]
    have ho : s.e ≠ 1000 := by
      unfold Ses.ok at hk
      rw [if_neg c1, if_neg c2, if_neg c6, if_pos c7] at hk
      exact of_decide_eq_true hk
    exact ⟨by dsimp only; omega, by dsimp only; omega, h3, by dsimp only; omega, by dsimp only; omega, by dsimp only; omega, by dsimp only; omega⟩
  rw [if_neg c7]
  by_cases c5 : x0 = 5
  · rw [if_pos c5]
    exact ⟨h1, h2, h3, by dsimp only; omega, by dsimp only; omega, by simp; omega, by dsimp only; omega⟩
  rw [if_neg c5]
  have hd : (Ses.mk s.e s.it s.b s.ha (s.w.eraseIdx x1.toNat) s.a).inv n := ⟨h1, h2, h3, by dsimp only; omega, by dsimp only; omega, by dsimp only; omega, by dsimp only; omega⟩
  by_cases c3 : x0 = 3
  · rw [if_pos c3]
    exact Ses.come_inv hd _
  rw [if_neg c3]
  obtain ⟨g1, g2, g3, g4, g5, g6, g7⟩ := hd
  exact ⟨g1, g2, g3, by omega, by omega, by omega, by omega⟩
theorem Ses.one_inv {s : Ses} {n : Nat} (h : s.inv n) (x : (Int × Int × List UInt8 × Unit)) : (s.one x).inv (n + 1) := by
  unfold Ses.one
  cases hk : s.ok x.1 x.2.1 x.2.2.1 with
  | true => exact Ses.next_inv h hk
  | false =>
    obtain ⟨g1, g2, g3, g4, g5, g6, g7⟩ := h
    exact ⟨g1, g2, g3, by show _ ≤ _; dsimp only [cond_false]; omega, by dsimp only [cond_false]; omega, by dsimp only [cond_false]; omega, by dsimp only [cond_false]; omega⟩
theorem Ses.play_inv : ∀ (l : List (Int × Int × List UInt8 × Unit)) {s : Ses} {n : Nat}, s.inv n → (s.play l).inv (n + l.length)
  | [], s, n, h => h
  | x :: l, s, n, h => by
    have := Ses.play_inv l (Ses.one_inv h x)
    rw [Ses.play, List.length_cons, show n + (l.length + 1) = n + 1 + l.length by omega]
    exact this
theorem Ses.tell_len : ∀ (l : List (Int × Int × List UInt8 × Unit)) (s : Ses), (s.tell l).length = l.length
  | [], s => rfl
  | x :: l, s => by rw [Ses.tell, List.length_cons, List.length_cons, Ses.tell_len l]
end Go.Proofs.Ytjghbihlgfjebaa.Den
