/- Slices of bools: laws.toBoolS, eq, mark, held, sz; written by gen_leaf.py -/
import Derived.Test.YtohoggoggchaeaaLib
import Derived.Test.YtohoggoggchaeaaRows
namespace Go.Proofs.Ytohoggoggchaeaa
open Go.ChangeShapes Go.WideShapes Go.ChangeAt Go.RowKit

theorem etBools : ET Try.prog 91 4 1 1 (.bool false) := ⟨Try.underlying91, by kernel_rfl, rfl, by omega⟩

def marksBools (k : Int) (n : Nat) : List (Bool) := (List.range n).map fun i : Nat => ((k + i) % 3 == 0)
theorem marksBools_succ (k : Int) (n : Nat) : marksBools k (n + 1) = marksBools k n ++ [((k + n) % 3 == 0)] := by simp [marksBools, List.range_succ]
@[simp] theorem marksBools_length (k : Int) (n : Nat) : (marksBools k n).length = n := by simp [marksBools]
theorem marksBools_get (k : Int) (n j : Nat) (h : j < n) : (marksBools k n)[j]? = some (((k + j) % 3 == 0)) := by simp [marksBools, h]

/-- A slice of bools of the call's own, in blocks from lo on. -/
def IsBools (lo : Nat) (zs : List (Bool)) (v : Value) (w : World) : Prop := ∃ ao n c S, v = .slice ao n c ∧ Own w 4 1 ao n c (zs.map cB) S ∧ ∀ x ∈ S, lo ≤ x
theorem IsBools.keep {lo : Nat} {zs : List (Bool)} : ∀ v w1 w2, IsBools lo zs v w1 → Chg [] w1 w2 → IsBools lo zs v w2 := fun _ _ _ ⟨ao, n, c, S, h1, h2, h3⟩ hc => ⟨ao, n, c, S, h1, h2.ext hc, h3⟩
theorem IsBools.nil (lo : Nat) (w : World) : IsBools lo [] (.slice none 0 0) w := ⟨none, 0, 0, [], rfl, Own.nil _ _ _, by simp⟩
end Go.Proofs.Ytohoggoggchaeaa
