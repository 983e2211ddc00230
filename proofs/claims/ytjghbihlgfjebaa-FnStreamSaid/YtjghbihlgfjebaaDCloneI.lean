/- What functions of the program do, by the machine: CloneI. -/
import Derived.Test.YtjghbihlgfjebaaDClone
import Derived.KernelRfl
import Derived.Test.YtjghbihlgfjebaaRows
namespace Go.Proofs.Ytjghbihlgfjebaa.Den
open Go.Proofs
set_option maxRecDepth 100000
def cloneIntG : List V → List Blk → Br (V × List (Option Blk))
  | [.sl (.int .i64) l], [] => .need (decide (l.length ≤ 1000000000)) (.leaf (.ref 0 0 l.length, [some (.row false none (.int .i64) l)]))
  | _, _ => .no
theorem cloneInt_fun (l : List Int) (h : l.length ≤ 1000000000) : funN Try.prog (look []) (look []) Try.f163 [.sl (.int .i64) l] [] = some (.ref 0 0 l.length, [some (.row false none (.int .i64) l)]) := by
  have e : funN Try.prog (look []) (look []) Try.f163 [.sl (.int .i64) l] [] =
    ((ifB (decide ((0 : Nat) < l.length))
  (ifT (decide (((0 : Nat) + l.length) * (8 : Nat) ≤ (140737488355328 : Nat)) && decide ((0 : Nat) + l.length ≤ maxI))
  (some
  (V.ref (0 : Nat) (0 : Nat) ((0 : Nat) + l.length),
  [some (Blk.row false none (Cd.int IntKind.i64) (nilT (Cd.int IntKind.i64).den ++ l))])))
  (joinK
  (some
  (V.ref (0 : Nat) (0 : Nat) (0 : Nat),
  [some (Blk.row false none (Cd.int IntKind.i64) (nilT (Cd.int IntKind.i64).den))]))
  (ifT (decide (((0 : Nat) + l.length) * (8 : Nat) ≤ (140737488355328 : Nat)) && decide ((0 : Nat) + l.length ≤ maxI))
  (some
  (V.ref (0 : Nat) (0 : Nat) ((0 : Nat) + l.length),
  [some (Blk.row false none (Cd.int IntKind.i64) (nilT (Cd.int IntKind.i64).den ++ l))]))))) : _) := by kernel_rfl
  rw [e]
  by_cases q : 0 < l.length
  · rw [ifB_true (decide_eq_true q), ifT_true (by simp [maxI]; omega)]; simp
  · obtain rfl : l = [] := List.eq_nil_of_length_eq_zero (by omega)
    rw [ifB_false (by simp), joinK_eq] <;> simp [maxI]
theorem cloneInt : Contract Try.prog 163 (Ent.rd1 cloneIntG).F := by
  refine fun_contractN' (KnowsL.nil).knows (Λ := look []) Try.func163 (c := Try.f163.body.getD .skip) (by kernel_rfl) fun vs bs r h hv hb => ?_
  unfold Ent.F cloneIntG at h
  dsimp only at h
  split at h
  · rename_i l
    obtain ⟨hc, h⟩ := need_some h
    exact ⟨loopsOk_nil _, (cloneInt_fun l (of_decide_eq_true hc)).trans h⟩
  · cases h
end Go.Proofs.Ytjghbihlgfjebaa.Den
