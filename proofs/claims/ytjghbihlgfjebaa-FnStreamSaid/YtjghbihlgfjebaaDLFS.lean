/- What functions of the program do, by the machine: LFS. -/
import Derived.Test.YtjghbihlgfjebaaDLFST
import Derived.KernelRfl
import Derived.Test.YtjghbihlgfjebaaRows
namespace Go.Proofs.Ytjghbihlgfjebaa.Den
open Go.Proofs
set_option maxRecDepth 100000
theorem faO_spec {x : List (List UInt8)} (h : faO x = true) : x.length ≤ 60 ∧ okP x = true := by
  unfold faO at h
  rw [Bool.and_eq_true] at h
  exact ⟨of_decide_eq_true h.1, h.2⟩
theorem okP_flat : ∀ (x : List (List UInt8)), okP x = true → x.flatten.length ≤ 300 * x.length
  | [], _ => by simp
  | t :: x, h => by
    rw [okP_cons, Bool.and_eq_true] at h
    have h1 := of_decide_eq_true h.1
    have h2 := okP_flat x h.2
    rw [List.flatten_cons, List.length_append, List.length_cons]
    omega
theorem u8_range {n : Int} (h : (Lit.int .u8 n).wf = true) : 0 ≤ n ∧ n ≤ 255 := by
  simp only [Lit.wf, Bool.and_eq_true, decide_eq_true_eq] at h
  exact h
theorem law_fun (l r : List Int) (hb : ∀ z ∈ l, 0 ≤ z ∧ z ≤ 255) (hr : ∀ z ∈ r, 0 ≤ z ∧ z ≤ 255) : funK Try.prog (look [(16, .rd1 dfeedG), (17, .rd1 feedAllG), (18, .rd1 feedAllG), (19, .rd1 sameRG), (20, .rd1 goodRG), (21, .rd1 dunfG), (22, .rd1 unfaG), (23, .rd1 unfaG), (24, .rd1 sameTextsG)]) (look [(11, catE)]) Try.f4 [.sl (.int .u8) l, .sl (.int .u8) r] [] = some (.b true, []) := by
  rw [law_tree]
  by_cases h0 : IntKind.i64.wrap ((l.length : Int) + (r.length : Int)) > 1048576
  · rw [ifB_true (decide_eq_true h0)]
  have hc : (Cur.mk l 0 0).good 0 := ⟨hb, Int.le_refl _, Int.le_refl _⟩
  have hd : (Cur.mk r 0 0).good 0 := ⟨hr, Int.le_refl _, Int.le_refl _⟩
  rw [ifB_false (decide_eq_false h0), ifT_true (decide_eq_true hc)]
  simp only [List.drop_zero, List.take_length, nilT_eq, List.nil_append, List.length_nil, Nat.zero_add, hd, decide_true, ifT_t, beq_self_eq_true, ifB_t, and_self, Bool.not_true, ifB_f]
  generalize dfa l = x
  cases hx : faO x with
  | false => rw [ifB_f]
  | true =>
    obtain ⟨hl, hk⟩ := faO_spec hx
    have hfl := okP_flat x hk
    have h1 := fed_good x new_goodR
    obtain ⟨e1, e2, e3⟩ := fed_one x new_goodR
    have ha : faA x = fedA x [] false := by unfold faA; rw [hx]; rfl
    have hq : faQ x = fedQ x [] [[]] false := by unfold faQ; rw [hx]; rfl
    have hB : faB x = fedB x [] false := by unfold faB; rw [hx]; rfl
    rw [ha, hq, hB]
    have hs := goodR_short h1
    rw [ifB_t, ifT_true (decide_eq_true ⟨by omega, by trivial, by trivial, by omega, by omega, by trivial, by omega⟩), ifT_true (decide_eq_true (by omega)), h1, Bool.not_true, ifB_f]
    by_cases h3 : x.flatten.length ≤ 300
    · have ho : faO [x.flatten] = true := by unfold faO okP; simpa using h3
      have ha2 : faA [x.flatten] = fedA x [] false := by unfold faA; rw [ho, e1]; rfl
      have hq2 : faQ [x.flatten] = fedQ x [] [[]] false := by unfold faQ; rw [ho, e2]; rfl
      have hB2 : faB [x.flatten] = fedB x [] false := by unfold faB; rw [ho, e3]; rfl
      rw [ifB_true (decide_eq_true (by omega)), ho, ha2, hq2, hB2, Bool.not_true, ifB_f]
      simp only [and_self, decide_true, Bool.not_true, ifB_f]
    · rw [ifB_false (decide_eq_false (by omega))]
end Go.Proofs.Ytjghbihlgfjebaa.Den
