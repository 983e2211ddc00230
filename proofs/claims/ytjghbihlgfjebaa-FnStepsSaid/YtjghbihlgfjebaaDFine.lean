/- What functions of the program do, by the machine: Fine. -/
import Derived.Test.YtjghbihlgfjebaaDCalm6
import Derived.KernelRfl
import Derived.Test.YtjghbihlgfjebaaRows
namespace Go.Proofs.Ytjghbihlgfjebaa.Den
open Go.Proofs
set_option maxRecDepth 100000
/-- A good session, in words. -/
def Ses.pk (s : Ses) (z : (Int × Int × List UInt8 × Unit)) : Prop := 1 ≤ z.1 ∧ z.1 ≤ s.e ∧ 0 ≤ z.2.1 ∧ z.2.1 < s.b + 4 ∧ s.it[z.2.1.toNat]? = some z.2.2.1
def Ses.fine (s : Ses) : Prop := (1 ≤ s.e ∧ s.e ≤ 1000) ∧ (s.it.length ≤ 30 ∧ ∀ z ∈ s.it, z.length ≤ 20) ∧ (s.ha.length ≤ s.it.length ∧ s.ha = s.it.take s.ha.length) ∧ (0 ≤ s.b ∧ s.b ≤ (s.ha.length : Int)) ∧ (s.w.length ≤ 12 ∧ ∀ z ∈ s.w, s.pk z) ∧ (s.a.length ≤ 12 ∧ ∀ z ∈ s.a, (1 ≤ z.1 ∧ z.1 ≤ s.e) ∧ (0 ≤ z.2.1 ∧ z.2.1 ≤ (s.ha.length : Int)))
theorem Ses.fine_good {s : Ses} (h : s.fine) : goodS s.e s.it s.b s.ha s.w s.a = true := by
  obtain ⟨h1, ⟨h2, h3⟩, ⟨h4, h5⟩, h6, ⟨h7, h8⟩, ⟨h9, h10⟩⟩ := h
  unfold goodS
  simp only [Bool.and_eq_true, decide_eq_true_eq, Bool.not_eq_true', List.any_eq_false, Bool.not_eq_true, decide_eq_false_iff_not, Bool.not_eq_false']
  refine ⟨h1, h2, fun z hz => by have := h3 z hz; omega, h4, h5, h6, h7, h9, fun z hz => ?_, fun z hz => ?_⟩
  · have := h8 z hz
    unfold Ses.pk at this
    simp only [this, and_self, decide_true, not_true_eq_false, not_false_eq_true]
  · have := h10 z hz
    simp only [this, and_self, decide_true, not_true_eq_false, not_false_eq_true]
theorem Ses.come_fine {s : Ses} (h : s.fine) {p : (Int × Int × List UInt8 × Unit)} (hp : s.pk p) : (s.come p).fine := by
  obtain ⟨h1, h2, ⟨h4, h5⟩, h6, h7, ⟨h9, h10⟩⟩ := h
  obtain ⟨p1, p2, p3, p4, p5⟩ := hp
  unfold Ses.come
  split
  · split
    · rename_i he hn
      have hi : s.ha.length < s.it.length := by
        have := (List.getElem?_eq_some_iff.1 p5).1
        omega
      have e1 : s.it.take (s.ha.length + 1) = s.ha ++ [p.2.2.1] := by
        rw [List.take_add_one, ← h5]
        have : p.2.1.toNat = s.ha.length := by omega
        rw [this] at p5
        rw [p5]; rfl
      have hl : (s.ha ++ [p.2.2.1]).length = s.ha.length + 1 := by simp
      split
      · refine ⟨h1, h2, ⟨by dsimp only; omega, by dsimp only; rw [hl]; exact e1.symm⟩, ⟨h6.1, by dsimp only; omega⟩, h7, ⟨by simp; omega, fun z hz => ?_⟩⟩
        dsimp only at hz ⊢
        rcases List.mem_append.1 hz with hz | hz
        · have := h10 z hz
          exact ⟨this.1, by omega⟩
        · simp only [List.mem_singleton] at hz
          subst hz
          exact ⟨by dsimp only; omega, by dsimp only; omega⟩
      · refine ⟨h1, h2, ⟨by dsimp only; omega, by dsimp only; rw [hl]; exact e1.symm⟩, ⟨h6.1, by dsimp only; omega⟩, h7, ⟨h9, fun z hz => ?_⟩⟩
        have := h10 z hz
        exact ⟨this.1, by dsimp only; omega⟩
    · split
      · refine ⟨h1, h2, ⟨h4, h5⟩, h6, h7, ⟨by simp; omega, fun z hz => ?_⟩⟩
        dsimp only at hz ⊢
        rcases List.mem_append.1 hz with hz | hz
        · exact h10 z hz
        · simp only [List.mem_singleton] at hz
          subst hz
          exact ⟨by dsimp only; omega, by dsimp only; omega⟩
      · exact ⟨h1, h2, ⟨h4, h5⟩, h6, h7, ⟨h9, h10⟩⟩
  · exact ⟨h1, h2, ⟨h4, h5⟩, h6, h7, ⟨h9, h10⟩⟩
theorem Ses.next_fine {s : Ses} (h : s.fine) {x0 x1 : Int} {x2 : List UInt8} (hk : s.ok x0 x1 x2 = true) : (s.next x0 x1 x2).fine := by
  have h0 := h
  obtain ⟨h1, ⟨h2, h3⟩, ⟨h4, h5⟩, h6, ⟨h7, h8⟩, ⟨h9, h10⟩⟩ := h
  unfold Ses.ok at hk
  unfold Ses.next
  by_cases c1 : x0 = 1
  · rw [if_pos c1] at hk ⊢
    have hk := of_decide_eq_true hk
    refine ⟨h1, ⟨by simp; omega, fun z hz => ?_⟩, ⟨by simp; omega, ?_⟩, h6, ⟨h7, fun z hz => ?_⟩, ⟨h9, h10⟩⟩
    · dsimp only at hz
      rcases List.mem_append.1 hz with hz | hz
      · exact h3 z hz
      · simp only [List.mem_singleton] at hz; subst hz; exact hk.1
    · dsimp only
      rw [List.take_append_of_le_length h4]; exact h5
    · obtain ⟨q1, q2, q3, q4, q5⟩ := h8 z hz
      have := (List.getElem?_eq_some_iff.1 q5).1
      exact ⟨q1, q2, q3, q4, by dsimp only; rw [List.getElem?_append_left this]; exact q5⟩
  rw [if_neg c1] at hk ⊢
  by_cases c2 : x0 = 2
  · rw [if_pos c2] at hk ⊢
    have hk := of_decide_eq_true hk
    refine ⟨h1, ⟨h2, h3⟩, ⟨h4, h5⟩, h6, ⟨by simp; omega, fun z hz => ?_⟩, ⟨h9, h10⟩⟩
    dsimp only at hz
    rcases List.mem_append.1 hz with hz | hz
    · exact h8 z hz
    · simp only [List.mem_singleton] at hz
      subst hz
      have hi : x1.toNat < s.it.length := by omega
      refine ⟨by dsimp only; omega, by dsimp only; omega, by dsimp only; omega, by dsimp only; omega, ?_⟩
      dsimp only
      simp [hi]
  rw [if_neg c2] at hk ⊢
  by_cases c6 : x0 = 6
  · rw [if_pos c6] at hk ⊢
    have hk := of_decide_eq_true hk
    have hi : x1.toNat < s.a.length := by omega
    have hz := h10 _ (List.getElem_mem hi)
    have eg : s.a.getD x1.toNat (0, 0, ()) = s.a[x1.toNat] := by simp [hi]
    rw [eg]
    have hb : ∀ c : Int, (c = s.b ∨ (s.b ≤ c ∧ c ≤ (s.ha.length : Int))) → (Ses.mk s.e s.it c s.ha s.w (s.a.eraseIdx x1.toNat)).fine := fun c hc => by
      refine ⟨h1, ⟨h2, h3⟩, ⟨h4, h5⟩, ⟨by dsimp only; omega, by dsimp only; omega⟩, ⟨h7, fun z hz => ?_⟩, ⟨?_, fun z hz => h10 z (List.mem_of_mem_eraseIdx hz)⟩⟩
      · obtain ⟨q1, q2, q3, q4, q5⟩ := h8 z hz
        exact ⟨q1, q2, q3, by dsimp only; omega, q5⟩
      · dsimp only
        rw [List.length_eraseIdx]; split <;> omega
    apply hb
    split
    · split
      · right; omega
      · left; rfl
    · left; rfl
  rw [if_neg c6] at hk ⊢
  by_cases c7 : x0 = 7
  · rw [if_pos c7] at hk ⊢
    have hk := of_decide_eq_true hk
    refine ⟨⟨by dsimp only; omega, by dsimp only; omega⟩, ⟨h2, h3⟩, ⟨h4, h5⟩, ⟨by dsimp only; omega, by dsimp only; omega⟩, ⟨h7, fun z hz => ?_⟩, ⟨h9, fun z hz => ?_⟩⟩
    · obtain ⟨q1, q2, q3, q4, q5⟩ := h8 z hz
      exact ⟨q1, by dsimp only; omega, q3, by dsimp only; omega, q5⟩
    · obtain ⟨q1, q2⟩ := h10 z hz
      exact ⟨⟨q1.1, by dsimp only; omega⟩, q2⟩
  rw [if_neg c7] at hk ⊢
  have hk := of_decide_eq_true hk
  have hi : x1.toNat < s.w.length := by omega
  have hz := h8 _ (List.getElem_mem hi)
  have eg : s.w.getD x1.toNat (0, 0, [], ()) = s.w[x1.toNat] := by simp [hi]
  rw [eg]
  have hd : (Ses.mk s.e s.it s.b s.ha (s.w.eraseIdx x1.toNat) s.a).fine := by
    refine ⟨h1, ⟨h2, h3⟩, ⟨h4, h5⟩, h6, ⟨?_, fun z hz => h8 z (List.mem_of_mem_eraseIdx hz)⟩, ⟨h9, h10⟩⟩
    dsimp only
    rw [List.length_eraseIdx]; split <;> omega
  by_cases c5 : x0 = 5
  · rw [if_pos c5]
    have h12 := hk.2.2 c5
    refine ⟨h1, ⟨h2, h3⟩, ⟨h4, h5⟩, h6, ⟨by simp; omega, fun z hz' => ?_⟩, ⟨h9, h10⟩⟩
    dsimp only at hz'
    rcases List.mem_append.1 hz' with hz' | hz'
    · exact h8 z hz'
    · simp only [List.mem_singleton] at hz'; subst hz'; exact hz
  rw [if_neg c5]
  by_cases c3 : x0 = 3
  · rw [if_pos c3]
    exact Ses.come_fine hd hz
  rw [if_neg c3]
  exact hd
theorem Ses.one_fine {s : Ses} (h : s.fine) (x : (Int × Int × List UInt8 × Unit)) : (s.one x).fine := by
  unfold Ses.one
  cases hk : s.ok x.1 x.2.1 x.2.2.1 with
  | true => exact Ses.next_fine h hk
  | false => exact h
theorem Ses.play_fine : ∀ (l : List (Int × Int × List UInt8 × Unit)) {s : Ses}, s.fine → (s.play l).fine
  | [], s, h => h
  | x :: l, s, h => Ses.play_fine l (Ses.one_fine h x)
end Go.Proofs.Ytjghbihlgfjebaa.Den
