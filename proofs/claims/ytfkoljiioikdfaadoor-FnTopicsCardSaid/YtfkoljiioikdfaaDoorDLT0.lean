/- What functions of the program do, by the machine: LT0. -/
import Derived.Test.YtfkoljiioikdfaaDoorDLTT
import Derived.KernelRfl
import Derived.Test.YtfkoljiioikdfaaDoorRows
namespace Go.Proofs.YtfkoljiioikdfaaDoor.Den
open Go.Proofs
set_option maxRecDepth 100000
theorem tk_cc (f : List UInt8 → List UInt8 → Bool) (x y : List UInt8) (p q : List (List UInt8)) : tk f (x :: p) (y :: q) = if x = [35] then true else if f x y = true then tk f p q else false := by
  unfold tk
  rw [tkS_cons]
  dsimp only
  split
  · rfl
  · split
    · simp
    · rfl
theorem tk_cn (f : List UInt8 → List UInt8 → Bool) (x : List UInt8) (p : List (List UInt8)) : tk f (x :: p) [] = decide (x = [35]) := by
  unfold tk
  rw [tkS_cons]
  dsimp only
  by_cases h : x = [35] <;> simp [h]
theorem tk_n (f : List UInt8 → List UInt8 → Bool) (q : List (List UInt8)) : tk f [] q = q.isEmpty := by
  unfold tk
  cases q <;> simp [tkS]
theorem tk_self : ∀ q : List (List UInt8), tk inL q q = true
  | [] => rfl
  | x :: q => by
    rw [tk_cc]
    have : inL x x = true := by unfold inL; simp
    rw [this, tk_self q]; simp
theorem mt_symm : ∀ p q : List (List UInt8), mt p q = mt q p
  | [], [] => rfl
  | [], _ :: _ => by simp [mt]
  | _ :: _, [] => by simp [mt]
  | x :: p, y :: q => by
    rw [mt, mt, mt_symm p q]
    have e1 : (x = [35] ∨ y = [35]) = (y = [35] ∨ x = [35]) := propext or_comm
    have e2 : (x ≠ [43] ∧ y ≠ [43] ∧ x ≠ y) = (y ≠ [43] ∧ x ≠ [43] ∧ y ≠ x) := propext ⟨fun ⟨a, b, c⟩ => ⟨b, a, fun h => c h.symm⟩, fun ⟨a, b, c⟩ => ⟨b, a, fun h => c h.symm⟩⟩
    simp only [e1, e2]
theorem inL_spec {x y : List UInt8} : inL x y = true ↔ x = y ∨ (x = [43] ∧ y ≠ [35]) := by
  unfold inL
  simp
theorem in_mt : ∀ q r : List (List UInt8), tk inL q r = true → mt q r = true
  | [], [], _ => rfl
  | [], y :: r, h => by rw [tk_n] at h; cases h
  | x :: q, [], h => by rw [tk_cn] at h; simpa [mt] using h
  | x :: q, y :: r, h => by
    rw [tk_cc] at h
    rw [mt]
    by_cases h1 : x = [35] ∨ y = [35]
    · rw [if_pos h1]
    rw [if_neg h1]
    rw [if_neg (fun e => h1 (.inl e))] at h
    split at h
    · rename_i h2
      rw [if_neg (by rintro ⟨a, b, c⟩; rcases inL_spec.1 h2 with e | e; exact c e; exact a e.1)]
      exact in_mt q r h
    · cases h
theorem in_fit : ∀ q r t : List (List UInt8), (∀ y ∈ t, y ≠ [35]) → tk inL q r = true → tk inL r t = true → tk inL q t = true
  | [], r, t, ht, h1, h2 => by
    rw [tk_n] at h1
    cases r with
    | nil => rw [tk_n] at h2 ⊢; exact h2
    | cons y r => cases h1
  | x :: q, [], t, ht, h1, h2 => by
    rw [tk_cn] at h1
    have hx := of_decide_eq_true h1
    cases t with
    | nil => rw [tk_cn]; exact h1
    | cons z t => rw [tk_n] at h2; cases h2
  | x :: q, y :: r, [], ht, h1, h2 => by
    rw [tk_cn] at h2
    have hy := of_decide_eq_true h2
    rw [tk_cc] at h1
    rw [tk_cn]
    by_cases hx : x = [35]
    · exact decide_eq_true hx
    rw [if_neg hx] at h1
    split at h1
    · rename_i h3
      rcases inL_spec.1 h3 with e | e
      · exact absurd (e.trans hy) hx
      · exact absurd hy e.2
    · cases h1
  | x :: q, y :: r, z :: t, ht, h1, h2 => by
    rw [tk_cc] at h1 h2 ⊢
    have hz : z ≠ [35] := ht z (by simp)
    by_cases hx : x = [35]
    · rw [if_pos hx]
    rw [if_neg hx] at h1 ⊢
    split at h1
    · rename_i h3
      by_cases hy : y = [35]
      · rcases inL_spec.1 h3 with e | e
        · exact absurd (e.trans hy) hx
        · exact absurd hy e.2
      rw [if_neg hy] at h2
      split at h2
      · rename_i h4
        have h5 : inL x z = true := inL_spec.2 (by
          rcases inL_spec.1 h3 with e | e
          · rw [e]; exact inL_spec.1 h4
          · exact .inr ⟨e.1, hz⟩)
        rw [if_pos h5]
        exact in_fit q r t (fun w hw => ht w (by simp [hw])) h1 h2
      · cases h2
    · cases h1
theorem fit_mt : ∀ q r t : List (List UInt8), tk inL q t = true → tk inL r t = true → mt q r = true
  | [], [], _, _, _ => rfl
  | [], y :: r, t, h1, h2 => by
    rw [tk_n] at h1
    cases t with
    | nil => rw [tk_cn] at h2; simpa [mt] using h2
    | cons z t => cases h1
  | x :: q, [], t, h1, h2 => by
    rw [tk_n] at h2
    cases t with
    | nil => rw [tk_cn] at h1; simpa [mt] using h1
    | cons z t => cases h2
  | x :: q, y :: r, [], h1, h2 => by
    rw [tk_cn] at h1
    rw [mt, if_pos (.inl (of_decide_eq_true h1))]
  | x :: q, y :: r, z :: t, h1, h2 => by
    rw [tk_cc] at h1 h2
    rw [mt]
    by_cases h3 : x = [35] ∨ y = [35]
    · rw [if_pos h3]
    rw [if_neg h3]
    rw [if_neg (fun e => h3 (.inl e))] at h1
    rw [if_neg (fun e => h3 (.inr e))] at h2
    split at h1
    · rename_i h4
      split at h2
      · rename_i h5
        rw [if_neg (by
          rintro ⟨a, b, c⟩
          rcases inL_spec.1 h4 with e | e
          · rcases inL_spec.1 h5 with e2 | e2
            · exact c (e.trans e2.symm)
            · exact b e2.1
          · exact a e.1)]
        exact fit_mt q r t h1 h2
      · cases h2
    · cases h1
end Go.Proofs.YtfkoljiioikdfaaDoor.Den
