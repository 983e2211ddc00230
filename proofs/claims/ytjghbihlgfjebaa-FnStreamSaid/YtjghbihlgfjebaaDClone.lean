/- What functions of the program do, by the machine: Clone. -/
import Derived.Test.YtjghbihlgfjebaaDFr3b
import Derived.KernelRfl
import Derived.Test.YtjghbihlgfjebaaRows
namespace Go.Proofs.Ytjghbihlgfjebaa.Den
open Go.Proofs
set_option maxRecDepth 100000
def cloneStrG : List V → List Blk → Br (V × List (Option Blk))
  | [.sl .str l], [] => .need (decide (l.length ≤ 1000000000)) (.leaf (.ref 0 0 l.length, [some (.row false none .str l)]))
  | _, _ => .no
def clonePacketG : List V → List Blk → Br (V × List (Option Blk))
  | [.sl (.pair (.int .i64) (.pair (.int .i64) (.pair .str .unit))) l], [] => .need (decide (l.length ≤ 1000000000)) (.leaf (.ref 0 0 l.length, [some (.row false none (.pair (.int .i64) (.pair (.int .i64) (.pair .str .unit))) l)]))
  | _, _ => .no
def cloneAckG : List V → List Blk → Br (V × List (Option Blk))
  | [.sl (.pair (.int .i64) (.pair (.int .i64) .unit)) l], [] => .need (decide (l.length ≤ 1000000000)) (.leaf (.ref 0 0 l.length, [some (.row false none (.pair (.int .i64) (.pair (.int .i64) .unit)) l)]))
  | _, _ => .no
theorem cloneStr_fun (l : List (List UInt8)) (h : l.length ≤ 1000000000) : funN Try.prog (look []) (look []) Try.f102 [.sl .str l] [] = some (.ref 0 0 l.length, [some (.row false none .str l)]) := by
  have e : funN Try.prog (look []) (look []) Try.f102 [.sl .str l] [] =
    ((ifB (decide ((0 : Nat) < l.length))
  (ifT (decide (((0 : Nat) + l.length) * (16 : Nat) ≤ (140737488355328 : Nat)) && decide ((0 : Nat) + l.length ≤ maxI))
  (some
  (V.ref (0 : Nat) (0 : Nat) ((0 : Nat) + l.length), [some (Blk.row false none Cd.str (nilT Cd.str.den ++ l))])))
  (joinK (some (V.ref (0 : Nat) (0 : Nat) (0 : Nat), [some (Blk.row false none Cd.str (nilT Cd.str.den))]))
  (ifT
  (decide (((0 : Nat) + l.length) * (16 : Nat) ≤ (140737488355328 : Nat)) && decide ((0 : Nat) + l.length ≤ maxI))
  (some
  (V.ref (0 : Nat) (0 : Nat) ((0 : Nat) + l.length), [some (Blk.row false none Cd.str (nilT Cd.str.den ++ l))]))))) : _) := by kernel_rfl
  rw [e]
  by_cases q : 0 < l.length
  · rw [ifB_true (decide_eq_true q), ifT_true (by simp [maxI]; omega)]; simp
  · obtain rfl : l = [] := List.eq_nil_of_length_eq_zero (by omega)
    rw [ifB_false (by simp), joinK_eq] <;> simp [maxI]
theorem cloneStr : Contract Try.prog 102 (Ent.rd1 cloneStrG).F := by
  refine fun_contractN' (KnowsL.nil).knows (Λ := look []) Try.func102 (c := Try.f102.body.getD .skip) (by kernel_rfl) fun vs bs r h hv hb => ?_
  unfold Ent.F cloneStrG at h
  dsimp only at h
  split at h
  · rename_i l
    obtain ⟨hc, h⟩ := need_some h
    exact ⟨loopsOk_nil _, (cloneStr_fun l (of_decide_eq_true hc)).trans h⟩
  · cases h
theorem clonePacket_fun (l : List (Int × Int × List UInt8 × Unit)) (h : l.length ≤ 1000000000) : funN Try.prog (look []) (look []) Try.f128 [.sl (.pair (.int .i64) (.pair (.int .i64) (.pair .str .unit))) l] [] = some (.ref 0 0 l.length, [some (.row false none (.pair (.int .i64) (.pair (.int .i64) (.pair .str .unit))) l)]) := by
  have e : funN Try.prog (look []) (look []) Try.f128 [.sl (.pair (.int .i64) (.pair (.int .i64) (.pair .str .unit))) l] [] =
    ((ifB (decide ((0 : Nat) < l.length))
  (ifT (decide (((0 : Nat) + l.length) * (32 : Nat) ≤ (140737488355328 : Nat)) && decide ((0 : Nat) + l.length ≤ maxI))
  (some
  (V.ref (0 : Nat) (0 : Nat) ((0 : Nat) + l.length),
  [some
  (Blk.row false none ((Cd.int IntKind.i64).pair ((Cd.int IntKind.i64).pair (Cd.str.pair Cd.unit)))
  (nilT ((Cd.int IntKind.i64).pair ((Cd.int IntKind.i64).pair (Cd.str.pair Cd.unit))).den ++ l))])))
  (joinK
  (some
  (V.ref (0 : Nat) (0 : Nat) (0 : Nat),
  [some
  (Blk.row false none ((Cd.int IntKind.i64).pair ((Cd.int IntKind.i64).pair (Cd.str.pair Cd.unit)))
  (nilT ((Cd.int IntKind.i64).pair ((Cd.int IntKind.i64).pair (Cd.str.pair Cd.unit))).den))]))
  (ifT
  (decide (((0 : Nat) + l.length) * (32 : Nat) ≤ (140737488355328 : Nat)) && decide ((0 : Nat) + l.length ≤ maxI))
  (some
  (V.ref (0 : Nat) (0 : Nat) ((0 : Nat) + l.length),
  [some
  (Blk.row false none ((Cd.int IntKind.i64).pair ((Cd.int IntKind.i64).pair (Cd.str.pair Cd.unit)))
  (nilT ((Cd.int IntKind.i64).pair ((Cd.int IntKind.i64).pair (Cd.str.pair Cd.unit))).den ++ l))]))))) : _) := by kernel_rfl
  rw [e]
  by_cases q : 0 < l.length
  · rw [ifB_true (decide_eq_true q), ifT_true (by simp [maxI]; omega)]; simp
  · obtain rfl : l = [] := List.eq_nil_of_length_eq_zero (by omega)
    rw [ifB_false (by simp), joinK_eq] <;> simp [maxI]
theorem clonePacket : Contract Try.prog 128 (Ent.rd1 clonePacketG).F := by
  refine fun_contractN' (KnowsL.nil).knows (Λ := look []) Try.func128 (c := Try.f128.body.getD .skip) (by kernel_rfl) fun vs bs r h hv hb => ?_
  unfold Ent.F clonePacketG at h
  dsimp only at h
  split at h
  · rename_i l
    obtain ⟨hc, h⟩ := need_some h
    exact ⟨loopsOk_nil _, (clonePacket_fun l (of_decide_eq_true hc)).trans h⟩
  · cases h
theorem cloneAck_fun (l : List (Int × Int × Unit)) (h : l.length ≤ 1000000000) : funN Try.prog (look []) (look []) Try.f129 [.sl (.pair (.int .i64) (.pair (.int .i64) .unit)) l] [] = some (.ref 0 0 l.length, [some (.row false none (.pair (.int .i64) (.pair (.int .i64) .unit)) l)]) := by
  have e : funN Try.prog (look []) (look []) Try.f129 [.sl (.pair (.int .i64) (.pair (.int .i64) .unit)) l] [] =
    ((ifB (decide ((0 : Nat) < l.length))
  (ifT (decide (((0 : Nat) + l.length) * (16 : Nat) ≤ (140737488355328 : Nat)) && decide ((0 : Nat) + l.length ≤ maxI))
  (some
  (V.ref (0 : Nat) (0 : Nat) ((0 : Nat) + l.length),
  [some
  (Blk.row false none ((Cd.int IntKind.i64).pair ((Cd.int IntKind.i64).pair Cd.unit))
  (nilT ((Cd.int IntKind.i64).pair ((Cd.int IntKind.i64).pair Cd.unit)).den ++ l))])))
  (joinK
  (some
  (V.ref (0 : Nat) (0 : Nat) (0 : Nat),
  [some
  (Blk.row false none ((Cd.int IntKind.i64).pair ((Cd.int IntKind.i64).pair Cd.unit))
  (nilT ((Cd.int IntKind.i64).pair ((Cd.int IntKind.i64).pair Cd.unit)).den))]))
  (ifT
  (decide (((0 : Nat) + l.length) * (16 : Nat) ≤ (140737488355328 : Nat)) && decide ((0 : Nat) + l.length ≤ maxI))
  (some
  (V.ref (0 : Nat) (0 : Nat) ((0 : Nat) + l.length),
  [some
  (Blk.row false none ((Cd.int IntKind.i64).pair ((Cd.int IntKind.i64).pair Cd.unit))
  (nilT ((Cd.int IntKind.i64).pair ((Cd.int IntKind.i64).pair Cd.unit)).den ++ l))]))))) : _) := by kernel_rfl
  rw [e]
  by_cases q : 0 < l.length
  · rw [ifB_true (decide_eq_true q), ifT_true (by simp [maxI]; omega)]; simp
  · obtain rfl : l = [] := List.eq_nil_of_length_eq_zero (by omega)
    rw [ifB_false (by simp), joinK_eq] <;> simp [maxI]
theorem cloneAck : Contract Try.prog 129 (Ent.rd1 cloneAckG).F := by
  refine fun_contractN' (KnowsL.nil).knows (Λ := look []) Try.func129 (c := Try.f129.body.getD .skip) (by kernel_rfl) fun vs bs r h hv hb => ?_
  unfold Ent.F cloneAckG at h
  dsimp only at h
  split at h
  · rename_i l
    obtain ⟨hc, h⟩ := need_some h
    exact ⟨loopsOk_nil _, (cloneAck_fun l (of_decide_eq_true hc)).trans h⟩
  · cases h
end Go.Proofs.Ytjghbihlgfjebaa.Den
