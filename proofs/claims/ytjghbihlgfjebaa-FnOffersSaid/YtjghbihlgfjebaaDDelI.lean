/- What functions of the program do, by the machine: DelI. -/
import Derived.Test.YtjghbihlgfjebaaDDelete
import Derived.KernelRfl
import Derived.Test.YtjghbihlgfjebaaRows
namespace Go.Proofs.Ytjghbihlgfjebaa.Den
open Go.Proofs
set_option maxRecDepth 100000
def delIntG0 : List V → List Blk → Br (V × List (Option Blk))
  | [.ref 0 lo m, .i .i64 i, .i .i64 j], [.row false nl (.int .i64) l] => .need (decide (0 ≤ i ∧ j = i + 1 ∧ j ≤ m ∧ lo + m ≤ l.length ∧ m ≤ maxI)) (.leaf (.ref 0 lo (m - 1), [some (.row false none (.int .i64) (delRow (0 : Int) l lo m i.toNat))]))
  | _, _ => .no
def delIntG : List V → List Blk → Br (V × List (Option Blk))
  | [.ref 0 lo m, .i .i64 i, .i .i64 j], [.row false _ (.int .i64) l] => .need (decide (0 ≤ i ∧ j = i + 1 ∧ j ≤ m ∧ lo + m ≤ l.length ∧ m ≤ maxI)) (.leaf (.ref 1 0 (m - 1), [none, some (.row false none (.int .i64) (((l.drop lo).take m).eraseIdx i.toNat))]))
  | _, _ => .no
theorem delInt_fun (lo m : Nat) (i j : Int) (nl : Option Bool) (l : List Int) (h0 : 0 ≤ i) (h1 : j = i + 1) (h2 : j ≤ m) (h3 : lo + m ≤ l.length) (hm : m ≤ maxI) : funN Try.prog (look []) (look []) Try.f152 [.ref 0 lo m, .i .i64 i, .i .i64 j] [.row false nl (.int .i64) l] = some (.ref 0 lo (m - 1), [some (.row false none (.int .i64) (delRow (0 : Int) l lo m i.toNat))]) := by
  have e : funN Try.prog (look []) (look []) Try.f152 [.ref 0 lo m, .i .i64 i, .i .i64 j] [.row false nl (.int .i64) l] =
    ((ifT (decide ((0 : Int) ≤ i ∧ i ≤ j ∧ j ≤ (↑m : Int) ∧ (↑m : Int) ≤ (↑m : Int)))
  (ifB (i == j) (some (V.ref (0 : Nat) lo m, [some (Blk.row false none (Cd.int IntKind.i64) l)]))
  (ifT (decide ((0 : Int) ≤ i) && decide (i ≤ (↑(l.length - lo) : Int)))
  (ifT (decide ((0 : Int) ≤ j) && decide (j ≤ (↑m : Int)))
  (ifT
  (decide
  (lo + (0 : Nat) + (i.toNat - (0 : Nat)) + (m - j.toNat) ≤ l.length ∧
  lo + j.toNat + (m - j.toNat) ≤ l.length))
  (ifT
  (decide ((0 : Int) ≤ (↑(i.toNat - (0 : Nat) + (m - j.toNat)) : Int)) &&
  decide ((↑(i.toNat - (0 : Nat) + (m - j.toNat)) : Int) ≤ (↑m : Int)) &&
  decide
  ((↑m : Int) ≤
  (↑((List.take (lo + (0 : Nat) + (i.toNat - (0 : Nat))) l ++
  List.take (m - j.toNat) (List.drop (lo + j.toNat) l) ++
  List.drop (lo + (0 : Nat) + (i.toNat - (0 : Nat)) + (m - j.toNat)) l).length -
  (lo + (0 : Nat))) :
  Int)))
  (some
  (V.ref (0 : Nat) (lo + (0 : Nat)) (i.toNat - (0 : Nat) + (m - j.toNat)),
  [some
  (Blk.row false none (Cd.int IntKind.i64)
  (List.take (lo + (0 : Nat) + (↑(i.toNat - (0 : Nat) + (m - j.toNat)) : Int).toNat)
  (List.take (lo + (0 : Nat) + (i.toNat - (0 : Nat))) l ++
  List.take (m - j.toNat) (List.drop (lo + j.toNat) l) ++
  List.drop (lo + (0 : Nat) + (i.toNat - (0 : Nat)) + (m - j.toNat)) l) ++
  List.replicate ((↑m : Int).toNat - (↑(i.toNat - (0 : Nat) + (m - j.toNat)) : Int).toNat)
  (0 : Int) ++
  List.drop
  (lo + (0 : Nat) + (↑(i.toNat - (0 : Nat) + (m - j.toNat)) : Int).toNat +
  ((↑m : Int).toNat - (↑(i.toNat - (0 : Nat) + (m - j.toNat)) : Int).toNat))
  (List.take (lo + (0 : Nat) + (i.toNat - (0 : Nat))) l ++
  List.take (m - j.toNat) (List.drop (lo + j.toNat) l) ++
  List.drop (lo + (0 : Nat) + (i.toNat - (0 : Nat)) + (m - j.toNat)) l)))])))))))) : _) := by kernel_rfl
  rw [e]
  obtain ⟨i, rfl⟩ := Int.eq_ofNat_of_zero_le h0
  subst h1
  have j1 : (((i : Int) + 1).toNat) = i + 1 := by omega
  rw [ifT_true (decide_eq_true ⟨by omega, by omega, h2, Int.le_refl _⟩), ifB_false (by simp; omega)]
  simp only [Int.toNat_natCast, j1, Nat.add_zero, Nat.sub_zero, delRow_eq (show i + 1 ≤ m by omega) h3]
  rw [ifT_true (by simp only [Bool.and_eq_true, decide_eq_true_eq]; omega), ifT_true (by simp only [Bool.and_eq_true, decide_eq_true_eq]; omega), ifT_true (decide_eq_true ⟨by omega, by omega⟩), ifT_true (by simp only [Bool.and_eq_true, decide_eq_true_eq, List.length_append, List.length_take, List.length_drop]; omega)]
  rw [show i + (m - (i + 1)) = m - 1 by omega]
theorem delInt_0 : Contract Try.prog 152 (Ent.own delIntG0).F := by
  refine fun_contractN' (KnowsL.nil).knows (Λ := look []) Try.func152 (c := Try.f152.body.getD .skip) (by kernel_rfl) fun vs bs r h hv hb => ?_
  unfold Ent.F delIntG0 at h
  dsimp only at h
  split at h
  · rename_i lo m i j nl l
    obtain ⟨hc, h⟩ := need_some h
    obtain ⟨h0, h1, h2, h3, hm⟩ := of_decide_eq_true hc
    exact ⟨loopsOk_nil _, (delInt_fun lo m i j nl l h0 h1 h2 h3 hm).trans h⟩
  · cases h
theorem delInt : Contract Try.prog 152 (Ent.own delIntG).F := by
  refine contract_trim delInt_0 fun vs bs r h => ?_
  unfold Ent.F delIntG at h
  dsimp only at h
  split at h
  · rename_i lo m i j nl l
    obtain ⟨hc, h⟩ := need_some h
    obtain ⟨h0, h1, h2, h3, hm⟩ := of_decide_eq_true hc
    refine ⟨lo, m - 1, none, (.int .i64), delRow (0 : Int) l lo m i.toNat, ?_, ?_⟩
    · unfold Ent.F delIntG0
      show (Br.need (decide (0 ≤ i ∧ j = i + 1 ∧ j ≤ m ∧ lo + m ≤ l.length ∧ m ≤ maxI)) (.leaf _)).run = _
      rw [hc]; rfl
    · rw [delRow_take (by omega) h3]; exact (leaf_some h).symm
  · cases h
end Go.Proofs.Ytjghbihlgfjebaa.Den
