/- laws.markText: the text of a mark -/
import Derived.Test.YtohoggoggchaeaaRows
import Derived.Test.YtohoggoggchaeaaLib
namespace Go.Proofs.Ytohoggoggchaeaa
open Go.ChangeShapes Go.WideShapes Go.ChangeAt Go.RowKit

/-- The digits of k ahead of acc. -/
def mtGo : Nat → Nat → List UInt8 → List UInt8
  | 0, _, acc => acc
  | f + 1, k, acc => if k = 0 then acc else mtGo f (k / 10) ((48 + UInt8.ofNat (k % 10)) :: acc)
theorem mtGo_fuel : ∀ (f g k : Nat) (acc : List UInt8), k < f → k < g → mtGo f k acc = mtGo g k acc
  | 0, _, _, _, h, _ => by omega
  | _ + 1, 0, _, _, _, h => by omega
  | f + 1, g + 1, k, acc, h1, h2 => by
    simp only [mtGo]
    by_cases h : k = 0
    · simp [h]
    · simp only [if_neg h]; exact mtGo_fuel f g (k / 10) _ (by omega) (by omega)
def mt (k : Int) : List UInt8 := if k ≤ 0 then [109, 48] else 109 :: mtGo (k.toNat + 1) k.toNat []
theorem mtGo_len : ∀ (f k : Nat) (acc : List UInt8), (mtGo f k acc).length ≤ f + acc.length
  | 0, _, acc => by simp [mtGo]
  | f + 1, k, acc => by
    simp only [mtGo]; split
    · omega
    · have := mtGo_len f (k / 10) ((48 + UInt8.ofNat (k % 10)) :: acc); simp only [List.length_cons] at this; omega

set_option maxHeartbeats 400000 in
theorem markText {k : Int} {w : World} (hk2 : k ≤ 1000000000000) :
    Calls Try.prog 80 #[.int .i64 k] w fun e w' => e = .returned (.string ⟨(mt k).toArray⟩) ∧ Chg [] w w' := by
  by_cases hk : k ≤ 0
  · go_enter Try.func80, Try.ntmps80
    go_wp2
    go_ret
    exact ⟨by simp [mt, hk], Chg.refl _ _⟩
  · obtain ⟨n, rfl⟩ := Int.eq_ofNat_of_zero_le (a := k) (by omega)
    go_enter Try.func80, Try.ntmps80
    go_wp2
    go_loopw [0, 3] (fun k' o wr => ∃ (j : Nat) (acc : List UInt8), j ≤ n ∧ k' = .int .i64 j ∧ o = .string ⟨acc.toArray⟩ ∧ acc.length ≤ n - j ∧ Chg [] w wr ∧ Hid (mtGo (n + 1) n [] = mtGo (j + 1) j acc)) (fun k' _ _ => (intOf k').toNat)
    case atStart => exact ⟨n, [], Nat.le_refl _, rfl, rfl, by simp, Chg.refl _ _, rfl⟩
    case round =>
      obtain ⟨j, acc, hj, rfl, rfl, hacc, hc, hH⟩ := hrel
      by_cases hj0 : j = 0
      · go_wp2
        go_ret
        subst hj0
        refine ⟨?_, hc⟩
        have e := hH.out
        refine bs_ret ?_
        have hk' : ¬ ((n : Int) ≤ 0) := by omega
        unfold mt
        rw [if_neg hk', Int.toNat_natCast, e]
        rfl
      · go_wp2_with (with_reducible refine wpList_lit_string rfl _ _ _ _ rfl Try.underlying112 Try.underlying5 Try.underlying9 [48 + (j : Int) % 10] rfl ?c1 rfl rfl ?_)
        case c1 => simp; omega
        go_roundw
        case rel =>
          refine ⟨j / 10, (48 + UInt8.ofNat (j % 10)) :: acc, by omega, by go_num, rfl, by simp; omega, hc.alloc _, ?_⟩
          have e := hH.out
          show mtGo (n + 1) n [] = _
          rw [e]
          conv => lhs; unfold mtGo
          rw [if_neg hj0]
          exact mtGo_fuel _ _ _ _ (by omega) (by omega)
        case measure => simp [intOf]; omega
end Go.Proofs.Ytohoggoggchaeaa
