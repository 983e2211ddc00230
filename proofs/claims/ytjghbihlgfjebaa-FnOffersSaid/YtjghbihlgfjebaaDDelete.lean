/- What functions of the program do, by the machine: Delete. -/
import Derived.Test.YtjghbihlgfjebaaDCloneI
import Derived.KernelRfl
import Derived.Test.YtjghbihlgfjebaaRows
namespace Go.Proofs.Ytjghbihlgfjebaa.Den
open Go.Proofs
set_option maxRecDepth 100000
/-- A row without its i-th element. -/
def delRow {α : Type} (z : α) (l : List α) (lo m i : Nat) : List α := l.take (lo + i) ++ (l.drop (lo + (i + 1))).take (m - (i + 1)) ++ [z] ++ l.drop (lo + m)
def delPacketG0 : List V → List Blk → Br (V × List (Option Blk))
  | [.ref 0 lo m, .i .i64 i, .i .i64 j], [.row false nl (.pair (.int .i64) (.pair (.int .i64) (.pair .str .unit))) l] => .need (decide (0 ≤ i ∧ j = i + 1 ∧ j ≤ m ∧ lo + m ≤ l.length ∧ m ≤ maxI)) (.leaf (.ref 0 lo (m - 1), [some (.row false none (.pair (.int .i64) (.pair (.int .i64) (.pair .str .unit))) (delRow (0, 0, [], ()) l lo m i.toNat))]))
  | _, _ => .no
def delPacketG : List V → List Blk → Br (V × List (Option Blk))
  | [.ref 0 lo m, .i .i64 i, .i .i64 j], [.row false _ (.pair (.int .i64) (.pair (.int .i64) (.pair .str .unit))) l] => .need (decide (0 ≤ i ∧ j = i + 1 ∧ j ≤ m ∧ lo + m ≤ l.length ∧ m ≤ maxI)) (.leaf (.ref 1 0 (m - 1), [none, some (.row false none (.pair (.int .i64) (.pair (.int .i64) (.pair .str .unit))) (((l.drop lo).take m).eraseIdx i.toNat))]))
  | _, _ => .no
def delAckG0 : List V → List Blk → Br (V × List (Option Blk))
  | [.ref 0 lo m, .i .i64 i, .i .i64 j], [.row false nl (.pair (.int .i64) (.pair (.int .i64) .unit)) l] => .need (decide (0 ≤ i ∧ j = i + 1 ∧ j ≤ m ∧ lo + m ≤ l.length ∧ m ≤ maxI)) (.leaf (.ref 0 lo (m - 1), [some (.row false none (.pair (.int .i64) (.pair (.int .i64) .unit)) (delRow (0, 0, ()) l lo m i.toNat))]))
  | _, _ => .no
def delAckG : List V → List Blk → Br (V × List (Option Blk))
  | [.ref 0 lo m, .i .i64 i, .i .i64 j], [.row false _ (.pair (.int .i64) (.pair (.int .i64) .unit)) l] => .need (decide (0 ≤ i ∧ j = i + 1 ∧ j ≤ m ∧ lo + m ≤ l.length ∧ m ≤ maxI)) (.leaf (.ref 1 0 (m - 1), [none, some (.row false none (.pair (.int .i64) (.pair (.int .i64) .unit)) (((l.drop lo).take m).eraseIdx i.toNat))]))
  | _, _ => .no
theorem delRow_eq {α : Type} {z : α} {l : List α} {lo m i : Nat} (h : i + 1 ≤ m) (h' : lo + m ≤ l.length) :
    (l.take (lo + i) ++ (l.drop (lo + (i + 1))).take (m - (i + 1)) ++ l.drop (lo + i + (m - (i + 1)))).take (lo + (i + (m - (i + 1)))) ++ List.replicate (m - (i + (m - (i + 1)))) z ++ (l.take (lo + i) ++ (l.drop (lo + (i + 1))).take (m - (i + 1)) ++ l.drop (lo + i + (m - (i + 1)))).drop (lo + (i + (m - (i + 1))) + (m - (i + (m - (i + 1))))) = delRow z l lo m i := by
  have e1 : (l.take (lo + i) ++ (l.drop (lo + (i + 1))).take (m - (i + 1))).length = lo + (i + (m - (i + 1))) := by simp; omega
  have e2 : m - (i + (m - (i + 1))) = 1 := by omega
  unfold delRow
  rw [List.take_left' e1, e2]
  generalize l.take (lo + i) ++ (l.drop (lo + (i + 1))).take (m - (i + 1)) = AB at e1 ⊢
  rw [← e1, ← List.drop_drop, List.drop_left' rfl, List.drop_drop]
  rw [show lo + i + (m - (i + 1)) + 1 = lo + m by omega]
  rfl
theorem delRow_take {α : Type} {z : α} {l : List α} {lo m i : Nat} (h : i + 1 ≤ m) (h' : lo + m ≤ l.length) : ((delRow z l lo m i).drop lo).take (m - 1) = ((l.drop lo).take m).eraseIdx i := by
  unfold delRow
  have e1 : (l.take (lo + i)).length = lo + i := by simp; omega
  have e0 : l.take (lo + i) = l.take lo ++ (l.drop lo).take i := List.take_add
  have e2 : (l.take lo).length = lo := by simp; omega
  have e3 : ((l.drop lo).take i ++ (l.drop (lo + (i + 1))).take (m - (i + 1))).length = m - 1 := by simp; omega
  rw [e0]
  simp only [List.append_assoc]
  rw [List.drop_left' e2, ← List.append_assoc, List.take_left' e3, List.eraseIdx_eq_take_drop_succ, List.take_take, List.drop_take, List.drop_drop]
  congr 2; omega
theorem delPacket_fun (lo m : Nat) (i j : Int) (nl : Option Bool) (l : List (Int × Int × List UInt8 × Unit)) (h0 : 0 ≤ i) (h1 : j = i + 1) (h2 : j ≤ m) (h3 : lo + m ≤ l.length) (hm : m ≤ maxI) : funN Try.prog (look []) (look []) Try.f145 [.ref 0 lo m, .i .i64 i, .i .i64 j] [.row false nl (.pair (.int .i64) (.pair (.int .i64) (.pair .str .unit))) l] = some (.ref 0 lo (m - 1), [some (.row false none (.pair (.int .i64) (.pair (.int .i64) (.pair .str .unit))) (delRow (0, 0, [], ()) l lo m i.toNat))]) := by
  have e : funN Try.prog (look []) (look []) Try.f145 [.ref 0 lo m, .i .i64 i, .i .i64 j] [.row false nl (.pair (.int .i64) (.pair (.int .i64) (.pair .str .unit))) l] =
    ((ifT (decide ((0 : Int) ≤ i ∧ i ≤ j ∧ j ≤ (↑m : Int) ∧ (↑m : Int) ≤ (↑m : Int)))
  (ifB (i == j)
  (some
  (V.ref (0 : Nat) lo m,
  [some (Blk.row false none ((Cd.int IntKind.i64).pair ((Cd.int IntKind.i64).pair (Cd.str.pair Cd.unit))) l)]))
  (ifT (decide ((0 : Int) ≤ i) && decide (i ≤ (↑(l.length - lo) : Int)))
  (ifT (decide ((0 : Int) ≤ j) && decide (j ≤ (↑m : Int)))
  (ifT
  (decide
  (lo + (0 : Nat) + (i.toNat - (0 : Nat)) + (m - j.toNat) ≤ l.length ∧
  lo + j.toNat + (m - j.toNat) ≤ l.length))
  (ifT
  (decide ((0 : Int) ≤ (↑(i.toNat - (0 : Nat) + (m - j.toNat)) : Int)) &&
  decide ((↑(i.toNat - (0 : Nat) + (m - j.toNat)) : Int) ≤ (↑m : Int)) &&
  decide
  ((↑m : Int) ≤
  (↑((List.take (lo + (0 : Nat) + (i.toNat - (0 : Nat))) l ++
  List.take (m - j.toNat) (List.drop (lo + j.toNat) l) ++
  List.drop (lo + (0 : Nat) + (i.toNat - (0 : Nat)) + (m - j.toNat)) l).length -
  (lo + (0 : Nat))) :
  Int)))
  (some
  (V.ref (0 : Nat) (lo + (0 : Nat)) (i.toNat - (0 : Nat) + (m - j.toNat)),
  [some
  (Blk.row false none ((Cd.int IntKind.i64).pair ((Cd.int IntKind.i64).pair (Cd.str.pair Cd.unit)))
  (List.take (lo + (0 : Nat) + (↑(i.toNat - (0 : Nat) + (m - j.toNat)) : Int).toNat)
  (List.take (lo + (0 : Nat) + (i.toNat - (0 : Nat))) l ++
  List.take (m - j.toNat) (List.drop (lo + j.toNat) l) ++
  List.drop (lo + (0 : Nat) + (i.toNat - (0 : Nat)) + (m - j.toNat)) l) ++
  List.replicate ((↑m : Int).toNat - (↑(i.toNat - (0 : Nat) + (m - j.toNat)) : Int).toNat)
  ((0 : Int), (0 : Int), nilT UInt8, ()) ++
  List.drop
  (lo + (0 : Nat) + (↑(i.toNat - (0 : Nat) + (m - j.toNat)) : Int).toNat +
  ((↑m : Int).toNat - (↑(i.toNat - (0 : Nat) + (m - j.toNat)) : Int).toNat))
  (List.take (lo + (0 : Nat) + (i.toNat - (0 : Nat))) l ++
  List.take (m - j.toNat) (List.drop (lo + j.toNat) l) ++
  List.drop (lo + (0 : Nat) + (i.toNat - (0 : Nat)) + (m - j.toNat)) l)))])))))))) : _) := by kernel_rfl
  rw [e]
  obtain ⟨i, rfl⟩ := Int.eq_ofNat_of_zero_le h0
  subst h1
  have j1 : (((i : Int) + 1).toNat) = i + 1 := by omega
  rw [ifT_true (decide_eq_true ⟨by omega, by omega, h2, Int.le_refl _⟩), ifB_false (by simp; omega)]
  simp only [Int.toNat_natCast, j1, Nat.add_zero, Nat.sub_zero, delRow_eq (show i + 1 ≤ m by omega) h3]
  rw [ifT_true (by simp only [Bool.and_eq_true, decide_eq_true_eq]; omega), ifT_true (by simp only [Bool.and_eq_true, decide_eq_true_eq]; omega), ifT_true (decide_eq_true ⟨by omega, by omega⟩), ifT_true (by simp only [Bool.and_eq_true, decide_eq_true_eq, List.length_append, List.length_take, List.length_drop]; omega)]
  rw [show i + (m - (i + 1)) = m - 1 by omega]
theorem delPacket_0 : Contract Try.prog 145 (Ent.own delPacketG0).F := by
  refine fun_contractN' (KnowsL.nil).knows (Λ := look []) Try.func145 (c := Try.f145.body.getD .skip) (by kernel_rfl) fun vs bs r h hv hb => ?_
  unfold Ent.F delPacketG0 at h
  dsimp only at h
  split at h
  · rename_i lo m i j nl l
    obtain ⟨hc, h⟩ := need_some h
    obtain ⟨h0, h1, h2, h3, hm⟩ := of_decide_eq_true hc
    exact ⟨loopsOk_nil _, (delPacket_fun lo m i j nl l h0 h1 h2 h3 hm).trans h⟩
  · cases h
theorem delPacket : Contract Try.prog 145 (Ent.own delPacketG).F := by
  refine contract_trim delPacket_0 fun vs bs r h => ?_
  unfold Ent.F delPacketG at h
  dsimp only at h
  split at h
  · rename_i lo m i j nl l
    obtain ⟨hc, h⟩ := need_some h
    obtain ⟨h0, h1, h2, h3, hm⟩ := of_decide_eq_true hc
    refine ⟨lo, m - 1, none, (.pair (.int .i64) (.pair (.int .i64) (.pair .str .unit))), delRow (0, 0, [], ()) l lo m i.toNat, ?_, ?_⟩
    · unfold Ent.F delPacketG0
      show (Br.need (decide (0 ≤ i ∧ j = i + 1 ∧ j ≤ m ∧ lo + m ≤ l.length ∧ m ≤ maxI)) (.leaf _)).run = _
      rw [hc]; rfl
    · rw [delRow_take (by omega) h3]; exact (leaf_some h).symm
  · cases h
theorem delAck_fun (lo m : Nat) (i j : Int) (nl : Option Bool) (l : List (Int × Int × Unit)) (h0 : 0 ≤ i) (h1 : j = i + 1) (h2 : j ≤ m) (h3 : lo + m ≤ l.length) (hm : m ≤ maxI) : funN Try.prog (look []) (look []) Try.f157 [.ref 0 lo m, .i .i64 i, .i .i64 j] [.row false nl (.pair (.int .i64) (.pair (.int .i64) .unit)) l] = some (.ref 0 lo (m - 1), [some (.row false none (.pair (.int .i64) (.pair (.int .i64) .unit)) (delRow (0, 0, ()) l lo m i.toNat))]) := by
  have e : funN Try.prog (look []) (look []) Try.f157 [.ref 0 lo m, .i .i64 i, .i .i64 j] [.row false nl (.pair (.int .i64) (.pair (.int .i64) .unit)) l] =
    ((ifT (decide ((0 : Int) ≤ i ∧ i ≤ j ∧ j ≤ (↑m : Int) ∧ (↑m : Int) ≤ (↑m : Int)))
  (ifB (i == j)
  (some
  (V.ref (0 : Nat) lo m,
  [some (Blk.row false none ((Cd.int IntKind.i64).pair ((Cd.int IntKind.i64).pair Cd.unit)) l)]))
  (ifT (decide ((0 : Int) ≤ i) && decide (i ≤ (↑(l.length - lo) : Int)))
  (ifT (decide ((0 : Int) ≤ j) && decide (j ≤ (↑m : Int)))
  (ifT
  (decide
  (lo + (0 : Nat) + (i.toNat - (0 : Nat)) + (m - j.toNat) ≤ l.length ∧
  lo + j.toNat + (m - j.toNat) ≤ l.length))
  (ifT
  (decide ((0 : Int) ≤ (↑(i.toNat - (0 : Nat) + (m - j.toNat)) : Int)) &&
  decide ((↑(i.toNat - (0 : Nat) + (m - j.toNat)) : Int) ≤ (↑m : Int)) &&
  decide
  ((↑m : Int) ≤
  (↑((List.take (lo + (0 : Nat) + (i.toNat - (0 : Nat))) l ++
  List.take (m - j.toNat) (List.drop (lo + j.toNat) l) ++
  List.drop (lo + (0 : Nat) + (i.toNat - (0 : Nat)) + (m - j.toNat)) l).length -
  (lo + (0 : Nat))) :
  Int)))
  (some
  (V.ref (0 : Nat) (lo + (0 : Nat)) (i.toNat - (0 : Nat) + (m - j.toNat)),
  [some
  (Blk.row false none ((Cd.int IntKind.i64).pair ((Cd.int IntKind.i64).pair Cd.unit))
  (List.take (lo + (0 : Nat) + (↑(i.toNat - (0 : Nat) + (m - j.toNat)) : Int).toNat)
  (List.take (lo + (0 : Nat) + (i.toNat - (0 : Nat))) l ++
  List.take (m - j.toNat) (List.drop (lo + j.toNat) l) ++
  List.drop (lo + (0 : Nat) + (i.toNat - (0 : Nat)) + (m - j.toNat)) l) ++
  List.replicate ((↑m : Int).toNat - (↑(i.toNat - (0 : Nat) + (m - j.toNat)) : Int).toNat)
  ((0 : Int), (0 : Int), ()) ++
  List.drop
  (lo + (0 : Nat) + (↑(i.toNat - (0 : Nat) + (m - j.toNat)) : Int).toNat +
  ((↑m : Int).toNat - (↑(i.toNat - (0 : Nat) + (m - j.toNat)) : Int).toNat))
  (List.take (lo + (0 : Nat) + (i.toNat - (0 : Nat))) l ++
  List.take (m - j.toNat) (List.drop (lo + j.toNat) l) ++
  List.drop (lo + (0 : Nat) + (i.toNat - (0 : Nat)) + (m - j.toNat)) l)))])))))))) : _) := by kernel_rfl
  rw [e]
  obtain ⟨i, rfl⟩ := Int.eq_ofNat_of_zero_le h0
  subst h1
  have j1 : (((i : Int) + 1).toNat) = i + 1 := by omega
  rw [ifT_true (decide_eq_true ⟨by omega, by omega, h2, Int.le_refl _⟩), ifB_false (by simp; omega)]
  simp only [Int.toNat_natCast, j1, Nat.add_zero, Nat.sub_zero, delRow_eq (show i + 1 ≤ m by omega) h3]
  rw [ifT_true (by simp only [Bool.and_eq_true, decide_eq_true_eq]; omega), ifT_true (by simp only [Bool.and_eq_true, decide_eq_true_eq]; omega), ifT_true (decide_eq_true ⟨by omega, by omega⟩), ifT_true (by simp only [Bool.and_eq_true, decide_eq_true_eq, List.length_append, List.length_take, List.length_drop]; omega)]
  rw [show i + (m - (i + 1)) = m - 1 by omega]
theorem delAck_0 : Contract Try.prog 157 (Ent.own delAckG0).F := by
  refine fun_contractN' (KnowsL.nil).knows (Λ := look []) Try.func157 (c := Try.f157.body.getD .skip) (by kernel_rfl) fun vs bs r h hv hb => ?_
  unfold Ent.F delAckG0 at h
  dsimp only at h
  split at h
  · rename_i lo m i j nl l
    obtain ⟨hc, h⟩ := need_some h
    obtain ⟨h0, h1, h2, h3, hm⟩ := of_decide_eq_true hc
    exact ⟨loopsOk_nil _, (delAck_fun lo m i j nl l h0 h1 h2 h3 hm).trans h⟩
  · cases h
theorem delAck : Contract Try.prog 157 (Ent.own delAckG).F := by
  refine contract_trim delAck_0 fun vs bs r h => ?_
  unfold Ent.F delAckG at h
  dsimp only at h
  split at h
  · rename_i lo m i j nl l
    obtain ⟨hc, h⟩ := need_some h
    obtain ⟨h0, h1, h2, h3, hm⟩ := of_decide_eq_true hc
    refine ⟨lo, m - 1, none, (.pair (.int .i64) (.pair (.int .i64) .unit)), delRow (0, 0, ()) l lo m i.toNat, ?_, ?_⟩
    · unfold Ent.F delAckG0
      show (Br.need (decide (0 ≤ i ∧ j = i + 1 ∧ j ≤ m ∧ lo + m ≤ l.length ∧ m ≤ maxI)) (.leaf _)).run = _
      rw [hc]; rfl
    · rw [delRow_take (by omega) h3]; exact (leaf_some h).symm
  · cases h
end Go.Proofs.Ytjghbihlgfjebaa.Den
