/- within, l1In; NewQueue -/
import Derived.Test.YtohoggoggchaeaaQueue
namespace Go.Proofs.Ytohoggoggchaeaa
open Go.ChangeShapes Go.WideShapes Go.ChangeAt Go.RowKit

def inB (n a b : Int) : Bool := decide (a ≤ n) && decide (n ≤ b)

theorem i_within {n a b : Int} {x : Bool} {w : World} (hx : inB n a b = x) :
    Calls Try.prog 47 #[.int .i64 n, .int .i64 a, .int .i64 b] w fun e w' => e = .returned (.bool x) ∧ w = w' := by
  subst hx
  by_cases h : a ≤ n
  all_goals
    go_enter Try.func47, Try.ntmps47
    go_wp2
    go_ret
    exact ⟨ret_bool (by simp [inB] <;> omega), rfl⟩

theorem s_l1In {n a b : Int} {x : Bool} {w : World} (hx : inB n a b = x) :
    Calls Try.prog 61 #[.int .i64 n, .int .i64 a, .int .i64 b] w fun e w' => e = .returned (.bool x) ∧ w = w' := by
  subst hx
  by_cases h : a ≤ n
  all_goals
    go_enter Try.func61, Try.ntmps61
    go_wp2
    go_ret
    exact ⟨ret_bool (by simp [inB] <;> omega), rfl⟩

def nqOk (c r : Int) : Bool := inB c 1 10 && inB r 1 3
def nqC (c r : Int) : Int := if nqOk c r then c else 0
def nqR (c r : Int) : Int := if nqOk c r then r else 0

theorem isQueue_nil (lo : Nat) (a b c : Int) (w : World) : IsQueue lo a b c [] [] [] (.agg #[.int .i64 a, .int .i64 b, .int .i64 c, .slice none 0 0, .slice none 0 0, .slice none 0 0]) w :=
  ⟨none, 0, 0, [], none, 0, 0, [], none, 0, 0, [], rfl, Own.nil _ _ _, by simp, Own.nil _ _ _, by simp, Own.nil _ _ _, by simp, by simp, by simp, by simp⟩

theorem i_NewQueue (c r : Int) {w : World} :
    Calls Try.prog 72 #[.int .i64 c, .int .i64 r] w fun e w' => ∃ v, e = .returned (.tuple #[v, .bool (nqOk c r)]) ∧ Chg [] w w' ∧ IsQueue w.heap.size (nqC c r) (nqR c r) 0 [] [] [] v w' := by
  cases h1 : inB c 1 10 <;> cases h2 : inB r 1 3
  all_goals
    have hok : nqOk c r = (inB c 1 10 && inB r 1 3) := rfl
    simp only [h1, h2, Bool.and_self, Bool.and_false, Bool.and_true, Bool.false_and, Bool.true_and] at hok
    have hc : nqC c r = if nqOk c r then c else 0 := rfl
    have hr : nqR c r = if nqOk c r then r else 0 := rfl
    rw [hok] at hc hr
    simp only [if_true, if_false, Bool.false_eq_true] at hc hr
    rw [hok, hc, hr]
    clear hok hc hr
    go_enter Try.func72, Try.ntmps72
    go_wp2_with fail
    refine (i_within h1).mono ?_
    rintro e w' ⟨rfl, rfl⟩
    first
      | (go_wp2_with (go_at_call 47; refine (i_within h2).mono ?_; rintro e w' ⟨rfl, rfl⟩))
      | go_wp2
    go_returns
    exact ⟨_, rfl, (Chg.refl _ _).alloc _, isQueue_nil _ _ _ _ _⟩

end Go.Proofs.Ytohoggoggchaeaa
