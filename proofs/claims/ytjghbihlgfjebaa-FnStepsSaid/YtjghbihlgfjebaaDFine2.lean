/- What functions of the program do, by the machine: Fine2. -/
import Derived.Test.YtjghbihlgfjebaaDFine
import Derived.KernelRfl
import Derived.Test.YtjghbihlgfjebaaRows
namespace Go.Proofs.Ytjghbihlgfjebaa.Den
open Go.Proofs
set_option maxRecDepth 100000
theorem Ses.acks_fine : ∀ (a : List (Int × Int × Unit)) (e : Int) (it : List (List UInt8)) (b : Int) (ha : List (List UInt8)) (w : List (Int × Int × List UInt8 × Unit)), (Ses.mk e it b ha w a).fine → (Ses.mk e it b ha w a).acks.fine
  | [], e, it, b, ha, w, h => h
  | z :: a, e, it, b, ha, w, h => by
    have h1 := Ses.next_fine h (Ses.ok6 (s := Ses.mk e it b ha w (z :: a)) (by simp))
    exact Ses.acks_fine a _ _ _ _ _ h1
theorem Ses.calmL_fine : ∀ (w : List (Int × Int × List UInt8 × Unit)) {s : Ses}, s.w = w → s.fine → (Ses.calmL w s).fine
  | [], s, hw, h => h
  | p :: w, s, hw, h => by
    obtain ⟨e, it, b, ha, w0, a⟩ := s
    dsimp only at hw
    subst hw
    have h1 := Ses.next_fine h (Ses.ok3 (s := Ses.mk e it b ha (p :: w) a) (by simp))
    rw [Ses.next3] at h1
    have hf := Ses.come_fix (s := Ses.mk e it b ha w a) p
    have h2 : ((Ses.mk e it b ha w a).come p).acks.fine := Ses.acks_fine _ _ _ _ _ _ h1
    rw [Ses.calmL]
    exact Ses.calmL_fine w hf.1 h2
theorem Ses.calm_fine {s : Ses} (h : s.fine) : s.calm.fine := by
  obtain ⟨e, it, b, ha, w, a⟩ := s
  exact Ses.calmL_fine _ rfl (Ses.acks_fine _ _ _ _ _ _ h)
theorem Ses.fine_inv {s : Ses} (h : s.fine) : s.inv 30 := by
  obtain ⟨h1, ⟨h2, h3⟩, ⟨h4, h5⟩, h6, ⟨h7, h8⟩, ⟨h9, h10⟩⟩ := h
  exact ⟨h1, h6, fun z hz => (h10 z hz).2, h2, by omega, by omega, by omega⟩
theorem Ses.round_fine {s : Ses} (h : s.fine) (hw : s.w = []) (hb : s.b < s.it.length) : s.round.fine := by
  have hb0 := h.2.2.2.1.1
  have hok : s.ok 2 s.b [] = true := by simp [Ses.ok, hw]; omega
  exact Ses.calm_fine (Ses.next_fine h hok)
/-- Once nothing is lost all is handed on. -/
theorem Ses.run_end : ∀ (f : Nat) {s : Ses}, s.fine → s.w = [] → s.a = [] → s.it.length - s.b.toNat ≤ f → (s.run f).fine ∧ (s.run f).w = [] ∧ (s.run f).a = [] ∧ (s.run f).it = s.it ∧ (s.run f).b = s.it.length
  | 0, s, h, hw, ha, hf => by
    have h6 := h.2.2.2.1
    have h4 := h.2.2.1.1
    exact ⟨h, hw, ha, rfl, by show s.b = _; omega⟩
  | f + 1, s, h, hw, ha, hf => by
    unfold Ses.run
    split
    · rename_i hb
      obtain ⟨g1, g2, g3, g4, g5⟩ := Ses.round_inv (Ses.fine_inv h) hw ha hb
      have h6 := h.2.2.2.1
      have ih := Ses.run_end f (Ses.round_fine h hw hb) g2 g3 (by rw [g4]; omega)
      rw [g4] at ih
      exact ih
    · have h6 := h.2.2.2.1
      have h4 := h.2.2.1.1
      exact ⟨h, hw, ha, rfl, by omega⟩
theorem Ses.calm_end {s : Ses} (h : s.fine) : (s.calm.run s.it.length).ha = s.it ∧ (s.calm.run s.it.length).b = s.it.length ∧ (s.calm.run s.it.length).w = [] ∧ (s.calm.run s.it.length).a = [] := by
  obtain ⟨c1, c2, c3, c4⟩ := Ses.calm_inv (Ses.fine_inv h)
  have hr := Ses.run_end s.it.length (Ses.calm_fine h) c2 c3 (by rw [c4]; omega)
  rw [c4] at hr
  obtain ⟨r1, r2, r3, r4, r5⟩ := hr
  have h6 := r1.2.2.2.1
  have h5 := r1.2.2.1
  rw [r4] at h5
  refine ⟨?_, r5, r2, r3⟩
  rw [h5.2, List.take_of_length_le (by omega)]
end Go.Proofs.Ytjghbihlgfjebaa.Den
