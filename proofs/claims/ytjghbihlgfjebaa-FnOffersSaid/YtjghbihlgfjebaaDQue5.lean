/- What functions of the program do, by the machine: Que5. -/
import Derived.Test.YtjghbihlgfjebaaDDelI
import Derived.KernelRfl
import Derived.Test.YtjghbihlgfjebaaRows
namespace Go.Proofs.Ytjghbihlgfjebaa.Den
open Go.Proofs
set_option maxRecDepth 100000
def ownQG : List V → List Blk → Br (V × List (Option Blk))
  | [.agg [.i .i64 c, .i .i64 r, .i .i64 n, .sl (.int .i64) w, .sl (.int .i64) h, .sl (.int .i64) d]], [] => .need (decide (w.length ≤ 1000000000 ∧ h.length ≤ 1000000000 ∧ d.length ≤ 1000000000)) (.leaf (.agg [.i .i64 (Que.mk c r n w h d).c, .i .i64 (Que.mk c r n w h d).r, .i .i64 (Que.mk c r n w h d).n, .ref 0 0 (Que.mk c r n w h d).w.length, .ref 1 0 (Que.mk c r n w h d).h.length, .ref 2 0 (Que.mk c r n w h d).d.length], [some (.row false none (.int .i64) (Que.mk c r n w h d).w), some (.row false none (.int .i64) (Que.mk c r n w h d).h), some (.row false none (.int .i64) (Que.mk c r n w h d).d)]))
  | _, _ => .no
def cloneQG : List V → List Blk → Br (V × List (Option Blk))
  | [.agg [.i .i64 c, .i .i64 r, .i .i64 n, .sl (.int .i64) w, .sl (.int .i64) h, .sl (.int .i64) d]], [] => .need (decide (w.length ≤ 1000000000 ∧ h.length ≤ 1000000000 ∧ d.length ≤ 1000000000)) (.leaf (.agg [.i .i64 (Que.mk c r n w h d).c, .i .i64 (Que.mk c r n w h d).r, .i .i64 (Que.mk c r n w h d).n, .ref 0 0 (Que.mk c r n w h d).w.length, .ref 1 0 (Que.mk c r n w h d).h.length, .ref 2 0 (Que.mk c r n w h d).d.length], [some (.row false none (.int .i64) (Que.mk c r n w h d).w), some (.row false none (.int .i64) (Que.mk c r n w h d).h), some (.row false none (.int .i64) (Que.mk c r n w h d).d)]))
  | _, _ => .no
def l16OfferG : List V → List Blk → Br (V × List (Option Blk))
  | [.agg [.i .i64 c, .i .i64 r, .i .i64 n, .ref 0 0 a, .ref 1 0 b, .ref 2 0 e]], [.row false n1 (.int .i64) w, .row false n2 (.int .i64) h, .row false n3 (.int .i64) d] => .need (decide (a = w.length ∧ b = h.length ∧ e = d.length) && goodQ c r n w h d) (.br (decide (n = 100)) (.leaf (.tup [.agg [.i .i64 0, .i .i64 0, .i .i64 0, .ref 3 0 0, .ref 4 0 0, .ref 5 0 0], .i .i64 0, .b false], [none, none, none, some (.row false none (.int .i64) []), some (.row false none (.int .i64) []), some (.row false none (.int .i64) [])])) (.leaf (.tup [.agg [.i .i64 (Que.mk c r n w h d).off.1.c, .i .i64 (Que.mk c r n w h d).off.1.r, .i .i64 (Que.mk c r n w h d).off.1.n, .ref 3 0 (Que.mk c r n w h d).off.1.w.length, .ref 4 0 (Que.mk c r n w h d).off.1.h.length, .ref 5 0 (Que.mk c r n w h d).off.1.d.length], .i .i64 (Que.mk c r n w h d).off.2, .b true], [none, none, none, some (.row false none (.int .i64) (Que.mk c r n w h d).off.1.w), some (.row false none (.int .i64) (Que.mk c r n w h d).off.1.h), some (.row false none (.int .i64) (Que.mk c r n w h d).off.1.d)])))
  | _, _ => .no
def l16HandG : List V → List Blk → Br (V × List (Option Blk))
  | [.agg [.i .i64 c, .i .i64 r, .i .i64 n, .ref 0 0 a, .ref 1 0 b, .ref 2 0 e]], [.row false n1 (.int .i64) w, .row false n2 (.int .i64) h, .row false n3 (.int .i64) d] => .need (decide (a = w.length ∧ b = h.length ∧ e = d.length) && goodQ c r n w h d) (.br (decide (w.length = 0)) (.leaf (.tup [.agg [.i .i64 0, .i .i64 0, .i .i64 0, .ref 3 0 0, .ref 4 0 0, .ref 5 0 0], .i .i64 0, .b false], [none, none, none, some (.row false none (.int .i64) []), some (.row false none (.int .i64) []), some (.row false none (.int .i64) [])])) (.leaf (.tup [.agg [.i .i64 (Que.mk c r n w h d).hnd.1.c, .i .i64 (Que.mk c r n w h d).hnd.1.r, .i .i64 (Que.mk c r n w h d).hnd.1.n, .ref 3 0 (Que.mk c r n w h d).hnd.1.w.length, .ref 4 0 (Que.mk c r n w h d).hnd.1.h.length, .ref 5 0 (Que.mk c r n w h d).hnd.1.d.length], .i .i64 (Que.mk c r n w h d).hnd.2, .b true], [none, none, none, some (.row false none (.int .i64) (Que.mk c r n w h d).hnd.1.w), some (.row false none (.int .i64) (Que.mk c r n w h d).hnd.1.h), some (.row false none (.int .i64) (Que.mk c r n w h d).hnd.1.d)])))
  | _, _ => .no
theorem ownQ_fun (c r n : Int) (w h d : List Int) (hc : (decide (w.length ≤ 1000000000 ∧ h.length ≤ 1000000000 ∧ d.length ≤ 1000000000)) = true) : (funN Try.prog (look []) (look []) Try.f111 [.agg [.i .i64 c, .i .i64 r, .i .i64 n, .sl (.int .i64) w, .sl (.int .i64) h, .sl (.int .i64) d]] []).map (canonR 0) = (.leaf (.agg [.i .i64 (Que.mk c r n w h d).c, .i .i64 (Que.mk c r n w h d).r, .i .i64 (Que.mk c r n w h d).n, .ref 0 0 (Que.mk c r n w h d).w.length, .ref 1 0 (Que.mk c r n w h d).h.length, .ref 2 0 (Que.mk c r n w h d).d.length], [some (.row false none (.int .i64) (Que.mk c r n w h d).w), some (.row false none (.int .i64) (Que.mk c r n w h d).h), some (.row false none (.int .i64) (Que.mk c r n w h d).d)]) : Br (V × List (Option Blk))).run := by
  have e : funN Try.prog (look []) (look []) Try.f111 [.agg [.i .i64 c, .i .i64 r, .i .i64 n, .sl (.int .i64) w, .sl (.int .i64) h, .sl (.int .i64) d]] [] = ((ifT (decide (((0 : Nat) + w.length) * (8 : Nat) ≤ (140737488355328 : Nat)) && decide ((0 : Nat) + w.length ≤ maxI))
  (ifT (decide (((0 : Nat) + h.length) * (8 : Nat) ≤ (140737488355328 : Nat)) && decide ((0 : Nat) + h.length ≤ maxI))
  (ifT (decide (((0 : Nat) + d.length) * (8 : Nat) ≤ (140737488355328 : Nat)) && decide ((0 : Nat) + d.length ≤ maxI))
  (some
  (V.agg
  [V.i IntKind.i64 c, V.i IntKind.i64 r, V.i IntKind.i64 n, V.ref (0 : Nat) (0 : Nat) ((0 : Nat) + w.length),
  V.ref (1 : Nat) (0 : Nat) ((0 : Nat) + h.length), V.ref (2 : Nat) (0 : Nat) ((0 : Nat) + d.length)],
  [some (Blk.row false none (Cd.int IntKind.i64) (nilT (Cd.int IntKind.i64).den ++ w)),
  some (Blk.row false none (Cd.int IntKind.i64) (nilT (Cd.int IntKind.i64).den ++ h)),
  some (Blk.row false none (Cd.int IntKind.i64) (nilT (Cd.int IntKind.i64).den ++ d))]))))) : _) := by kernel_rfl
  rw [e]
  clear e
  obtain ⟨h1, h2, h3⟩ := of_decide_eq_true hc
  have hM : maxI = 9223372036854775807 := rfl
  rw [ifT_true (by simp only [Bool.and_eq_true, decide_eq_true_eq]; omega), ifT_true (by simp only [Bool.and_eq_true, decide_eq_true_eq]; omega), ifT_true (by simp only [Bool.and_eq_true, decide_eq_true_eq]; omega)]
  simp only [Nat.zero_add, nilT_eq, List.nil_append]
  show _ = _
  kernel_rfl
theorem ownQ : Contract Try.prog 111 (Ent.rd1 ownQG).F := by
  refine contract_weak (contract_canon (fun_contractN' KnowsL.nil.knows (Λ := look []) Try.func111 (c := Try.f111.body.getD .skip) (F := fun vs bs => funN Try.prog (look []) (look []) Try.f111 vs bs) (by kernel_rfl) fun vs bs r h _ _ => ⟨loopsOk_nil _, h⟩)) fun vs bs r' hq => ?_
  unfold Ent.F ownQG at hq
  dsimp only at hq
  split at hq
  · rename_i c r n w h d
    obtain ⟨hc, hx⟩ := need_some hq
    exact (ownQ_fun c r n w h d hc).trans hx
  · cases hq
theorem cloneQ_fun (c r n : Int) (w h d : List Int) (hc : (decide (w.length ≤ 1000000000 ∧ h.length ≤ 1000000000 ∧ d.length ≤ 1000000000)) = true) : (funN Try.prog (look [(163, .rd1 cloneIntG)]) (look []) Try.f156 [.agg [.i .i64 c, .i .i64 r, .i .i64 n, .sl (.int .i64) w, .sl (.int .i64) h, .sl (.int .i64) d]] []).map (canonR 0) = (.leaf (.agg [.i .i64 (Que.mk c r n w h d).c, .i .i64 (Que.mk c r n w h d).r, .i .i64 (Que.mk c r n w h d).n, .ref 0 0 (Que.mk c r n w h d).w.length, .ref 1 0 (Que.mk c r n w h d).h.length, .ref 2 0 (Que.mk c r n w h d).d.length], [some (.row false none (.int .i64) (Que.mk c r n w h d).w), some (.row false none (.int .i64) (Que.mk c r n w h d).h), some (.row false none (.int .i64) (Que.mk c r n w h d).d)]) : Br (V × List (Option Blk))).run := by
  have e : funN Try.prog (look [(163, .rd1 cloneIntG)]) (look []) Try.f156 [.agg [.i .i64 c, .i .i64 r, .i .i64 n, .sl (.int .i64) w, .sl (.int .i64) h, .sl (.int .i64) d]] [] = ((ifT (decide (w.length ≤ (1000000000 : Nat)))
  (ifT (decide (h.length ≤ (1000000000 : Nat)))
  (ifT (decide (d.length ≤ (1000000000 : Nat)))
  (some
  (V.agg
  [V.i IntKind.i64 c, V.i IntKind.i64 r, V.i IntKind.i64 n, V.ref (0 : Nat) (0 : Nat) w.length,
  V.ref (1 : Nat) (0 : Nat) h.length, V.ref (2 : Nat) (0 : Nat) d.length],
  [some (Blk.row false none (Cd.int IntKind.i64) w), some (Blk.row false none (Cd.int IntKind.i64) h),
  some (Blk.row false none (Cd.int IntKind.i64) d)]))))) : _) := by kernel_rfl
  rw [e]
  clear e
  obtain ⟨h1, h2, h3⟩ := of_decide_eq_true hc
  rw [ifT_true (decide_eq_true h1), ifT_true (decide_eq_true h2), ifT_true (decide_eq_true h3)]
  show _ = _
  kernel_rfl
theorem cloneQ : Contract Try.prog 156 (Ent.rd1 cloneQG).F := by
  refine contract_weak (contract_canon (fun_contractN' (KnowsL.cons (enters_fn Try.func163 (by kernel_rfl) (by kernel_rfl)) cloneInt KnowsL.nil).knows (Λ := look []) Try.func156 (c := Try.f156.body.getD .skip) (F := fun vs bs => funN Try.prog (look [(163, .rd1 cloneIntG)]) (look []) Try.f156 vs bs) (by kernel_rfl) fun vs bs r h _ _ => ⟨loopsOk_nil _, h⟩)) fun vs bs r' hq => ?_
  unfold Ent.F cloneQG at hq
  dsimp only at hq
  split at hq
  · rename_i c r n w h d
    obtain ⟨hc, hx⟩ := need_some hq
    exact (cloneQ_fun c r n w h d hc).trans hx
  · cases hq
theorem l16Offer_fun (c r n : Int) (a b e : Nat) (n1 : Option Bool) (w : List Int) (n2 : Option Bool) (h : List Int) (n3 : Option Bool) (d : List Int) (hc : (decide (a = w.length ∧ b = h.length ∧ e = d.length) && goodQ c r n w h d) = true) : (funN Try.prog (look [(153, .own putG)]) (look []) Try.f110 [.agg [.i .i64 c, .i .i64 r, .i .i64 n, .ref 0 0 a, .ref 1 0 b, .ref 2 0 e]] [.row false n1 (.int .i64) w, .row false n2 (.int .i64) h, .row false n3 (.int .i64) d]).map (canonR 3) = (.br (decide (n = 100)) (.leaf (.tup [.agg [.i .i64 0, .i .i64 0, .i .i64 0, .ref 3 0 0, .ref 4 0 0, .ref 5 0 0], .i .i64 0, .b false], [none, none, none, some (.row false none (.int .i64) []), some (.row false none (.int .i64) []), some (.row false none (.int .i64) [])])) (.leaf (.tup [.agg [.i .i64 (Que.mk c r n w h d).off.1.c, .i .i64 (Que.mk c r n w h d).off.1.r, .i .i64 (Que.mk c r n w h d).off.1.n, .ref 3 0 (Que.mk c r n w h d).off.1.w.length, .ref 4 0 (Que.mk c r n w h d).off.1.h.length, .ref 5 0 (Que.mk c r n w h d).off.1.d.length], .i .i64 (Que.mk c r n w h d).off.2, .b true], [none, none, none, some (.row false none (.int .i64) (Que.mk c r n w h d).off.1.w), some (.row false none (.int .i64) (Que.mk c r n w h d).off.1.h), some (.row false none (.int .i64) (Que.mk c r n w h d).off.1.d)])) : Br (V × List (Option Blk))).run := by
  have e : funN Try.prog (look [(153, .own putG)]) (look []) Try.f110 [.agg [.i .i64 c, .i .i64 r, .i .i64 n, .ref 0 0 a, .ref 1 0 b, .ref 2 0 e]] [.row false n1 (.int .i64) w, .row false n2 (.int .i64) h, .row false n3 (.int .i64) d] = ((ifB (n == (100 : Int))
  (some
  (V.tup
  [V.agg
  [V.i IntKind.i64 (0 : Int), V.i IntKind.i64 (0 : Int), V.i IntKind.i64 (0 : Int),
  V.ref (3 : Nat) (0 : Nat) (0 : Nat), V.ref (4 : Nat) (0 : Nat) (0 : Nat),
  V.ref (5 : Nat) (0 : Nat) (0 : Nat)],
  V.i IntKind.i64 (0 : Int), V.b false],
  [some (Blk.row false none (Cd.int IntKind.i64) w), some (Blk.row false none (Cd.int IntKind.i64) h),
  some (Blk.row false none (Cd.int IntKind.i64) d),
  some (Blk.row false none (Cd.int IntKind.i64) (nilT (Cd.int IntKind.i64).den)),
  some (Blk.row false none (Cd.int IntKind.i64) (nilT (Cd.int IntKind.i64).den)),
  some (Blk.row false none (Cd.int IntKind.i64) (nilT (Cd.int IntKind.i64).den))]))
  (ifB (decide ((↑a : Int) < c))
  (ifT (decide ((a + (1 : Nat)) * (8 : Nat) ≤ (140737488355328 : Nat)) && decide (a + (1 : Nat) ≤ maxI))
  (some
  (V.tup
  [V.agg
  [V.i IntKind.i64 c, V.i IntKind.i64 r, V.i IntKind.i64 (IntKind.i64.wrap (n + (1 : Int))),
  V.ref (3 : Nat) (0 : Nat) (a + (1 : Nat)), V.ref (1 : Nat) (0 : Nat) b, V.ref (2 : Nat) (0 : Nat) e],
  V.i IntKind.i64 (-1 : Int), V.b true],
  [none, some (Blk.row false none (Cd.int IntKind.i64) h), some (Blk.row false none (Cd.int IntKind.i64) d),
  some
  (Blk.row false none (Cd.int IntKind.i64)
  (List.take a (List.drop (0 : Nat) w) ++ n :: nilT (Cd.int IntKind.i64).den))])))
  (ifB (r == (1 : Int))
  (ifT (decide ((0 : Int) ≤ (0 : Int)) && decide ((0 : Int) < (↑a : Int)))
  (ifSome w[(0 : Nat)]? fun z =>
  ifT (decide ((0 : Int) ≤ (1 : Int)) && decide ((1 : Int) ≤ (↑a : Int)))
  (ifT
  (decide
  (((0 : Nat) + (List.take (a - (1 : Nat)) (List.drop (1 : Nat) w)).length) * (8 : Nat) ≤
  (140737488355328 : Nat)) &&
  decide ((0 : Nat) + (List.take (a - (1 : Nat)) (List.drop (1 : Nat) w)).length ≤ maxI))
  (ifT
  (decide
  (((0 : Nat) + (List.take (a - (1 : Nat)) (List.drop (1 : Nat) w)).length + (1 : Nat)) * (8 : Nat) ≤
  (140737488355328 : Nat)) &&
  decide ((0 : Nat) + (List.take (a - (1 : Nat)) (List.drop (1 : Nat) w)).length + (1 : Nat) ≤ maxI))
  (ifT (decide (e = d.length ∧ d.length ≤ (1000000000 : Nat)) && srt d)
  (some
  (V.tup
  [V.agg
  [V.i IntKind.i64 c, V.i IntKind.i64 r, V.i IntKind.i64 (IntKind.i64.wrap (n + (1 : Int))),
  V.ref (3 : Nat) (0 : Nat)
  ((0 : Nat) + (List.take (a - (1 : Nat)) (List.drop (1 : Nat) w)).length + (1 : Nat)),
  V.ref (1 : Nat) (0 : Nat) b, V.ref (4 : Nat) (0 : Nat) (putL d z).length],
  V.i IntKind.i64 z, V.b true],
  [some (Blk.row false none (Cd.int IntKind.i64) w),
  some (Blk.row false none (Cd.int IntKind.i64) h), none,
  some
  (Blk.row false none (Cd.int IntKind.i64)
  (List.take ((0 : Nat) + (List.take (a - (1 : Nat)) (List.drop (1 : Nat) w)).length)
  (List.drop (0 : Nat)
  (nilT (Cd.int IntKind.i64).den ++
  List.take (a - (1 : Nat)) (List.drop (1 : Nat) w))) ++
  n :: nilT (Cd.int IntKind.i64).den)),
  some (Blk.row false none (Cd.int IntKind.i64) (putL d z))])))))))
  (ifB (r == (2 : Int))
  (ifT
  (decide ((0 : Int) ≤ IntKind.i64.wrap ((↑a : Int) - (1 : Int))) &&
  decide (IntKind.i64.wrap ((↑a : Int) - (1 : Int)) < (↑a : Int)))
  (ifSome w[(0 : Nat) + (IntKind.i64.wrap ((↑a : Int) - (1 : Int))).toNat]? fun z =>
  ifT
  (decide ((0 : Int) ≤ IntKind.i64.wrap ((↑a : Int) - (1 : Int))) &&
  decide (IntKind.i64.wrap ((↑a : Int) - (1 : Int)) ≤ (↑(w.length - (0 : Nat)) : Int)))
  (ifT
  (decide
  (((0 : Nat) +
  (List.take ((IntKind.i64.wrap ((↑a : Int) - (1 : Int))).toNat - (0 : Nat))
  (List.drop (0 : Nat) w)).length) *
  (8 : Nat) ≤
  (140737488355328 : Nat)) &&
  decide
  ((0 : Nat) +
  (List.take ((IntKind.i64.wrap ((↑a : Int) - (1 : Int))).toNat - (0 : Nat))
  (List.drop (0 : Nat) w)).length ≤
  maxI))
  (ifT
  (decide
  (((0 : Nat) +
  (List.take ((IntKind.i64.wrap ((↑a : Int) - (1 : Int))).toNat - (0 : Nat))
  (List.drop (0 : Nat) w)).length +
  (1 : Nat)) *
  (8 : Nat) ≤
  (140737488355328 : Nat)) &&
  decide
  ((0 : Nat) +
  (List.take ((IntKind.i64.wrap ((↑a : Int) - (1 : Int))).toNat - (0 : Nat))
  (List.drop (0 : Nat) w)).length +
  (1 : Nat) ≤
  maxI))
  (ifT (decide (e = d.length ∧ d.length ≤ (1000000000 : Nat)) && srt d)
  (some
  (V.tup
  [V.agg
  [V.i IntKind.i64 c, V.i IntKind.i64 r, V.i IntKind.i64 (IntKind.i64.wrap (n + (1 : Int))),
  V.ref (3 : Nat) (0 : Nat)
  ((0 : Nat) +
  (List.take ((IntKind.i64.wrap ((↑a : Int) - (1 : Int))).toNat - (0 : Nat))
  (List.drop (0 : Nat) w)).length +
  (1 : Nat)),
  V.ref (1 : Nat) (0 : Nat) b, V.ref (4 : Nat) (0 : Nat) (putL d z).length],
  V.i IntKind.i64 z, V.b true],
  [some (Blk.row false none (Cd.int IntKind.i64) w),
  some (Blk.row false none (Cd.int IntKind.i64) h), none,
  some
  (Blk.row false none (Cd.int IntKind.i64)
  (List.take
  ((0 : Nat) +
  (List.take ((IntKind.i64.wrap ((↑a : Int) - (1 : Int))).toNat - (0 : Nat))
  (List.drop (0 : Nat) w)).length)
  (List.drop (0 : Nat)
  (nilT (Cd.int IntKind.i64).den ++
  List.take ((IntKind.i64.wrap ((↑a : Int) - (1 : Int))).toNat - (0 : Nat))
  (List.drop (0 : Nat) w))) ++
  n :: nilT (Cd.int IntKind.i64).den)),
  some (Blk.row false none (Cd.int IntKind.i64) (putL d z))])))))))
  (ifT (decide (e = d.length ∧ d.length ≤ (1000000000 : Nat)) && srt d)
  (some
  (V.tup
  [V.agg
  [V.i IntKind.i64 c, V.i IntKind.i64 r, V.i IntKind.i64 (IntKind.i64.wrap (n + (1 : Int))),
  V.ref (0 : Nat) (0 : Nat) a, V.ref (1 : Nat) (0 : Nat) b,
  V.ref (3 : Nat) (0 : Nat) (putL d n).length],
  V.i IntKind.i64 n, V.b true],
  [some (Blk.row false none (Cd.int IntKind.i64) w), some (Blk.row false none (Cd.int IntKind.i64) h), none,
  some (Blk.row false none (Cd.int IntKind.i64) (putL d n))]))))))) : _) := by kernel_rfl
  rw [e]
  clear e
  rw [Bool.and_eq_true] at hc
  obtain ⟨⟨rfl, rfl, rfl⟩, hg⟩ : (a = w.length ∧ b = h.length ∧ e = d.length) ∧ _ := ⟨of_decide_eq_true hc.1, hc.2⟩
  have f : (Que.mk c r n w h d).Fine := Que.fine hg
  have hM : maxI = 9223372036854775807 := rfl
  have f1 := f.c; have f2 := f.r; have f3 := f.n; have f4 := f.wc; have f5 := f.sum; have f6 := f.srt_h; have f7 := f.srt_d
  dsimp only at f1 f2 f3 f4 f5 f6 f7
  have w1 : IntKind.i64.wrap (n + 1) = n + 1 := wrap_id (by omega) (by omega)
  by_cases q1 : n = 100
  · rw [ifB_true (by simp [q1]), br_t (decide_eq_true q1)]
    show _ = _
    kernel_rfl
  rw [ifB_false (by simp [q1]), br_f (decide_eq_false q1)]
  unfold Que.off
  dsimp only
  by_cases q2 : (w.length : Int) < c
  · rw [ifB_true (decide_eq_true q2), if_pos q2, ifT_true (by simp only [Bool.and_eq_true, decide_eq_true_eq]; omega), w1]
    simp only [List.drop_zero, List.take_length, nilT_eq]
    rw [show w.length + 1 = (w ++ [n]).length by simp]
    show _ = _
    kernel_rfl
  rw [ifB_false (decide_eq_false q2), if_neg q2]
  have hpos : 0 < w.length := by omega
  by_cases q3 : r = 3
  · rw [ifB_false (by simp [q3]), ifB_false (by simp [q3]), if_pos q3, ifT_true (by rw [f7, Bool.and_true]; exact decide_eq_true ⟨by trivial, by omega⟩), w1]
    show _ = _
    kernel_rfl
  rw [if_neg q3]
  by_cases q4 : r = 1
  · match w, hpos with
    | g :: w', _ =>
    have e1 : List.take ((g :: w').length - 1) w' = w' := List.take_of_length_le (by simp)
    simp only [List.length_cons] at f4 f5 q2
    rw [ifB_true (by simp [q4]), if_pos q4, ifT_true (by simp only [Bool.and_eq_true, decide_eq_true_eq, List.length_cons]; omega), List.getElem?_cons_zero, ifSome_s]
    simp only [e1, Nat.zero_add, nilT_eq, List.nil_append, List.drop_zero, List.take_length, List.drop_succ_cons, List.getD_cons_zero]
    rw [ifT_true (by simp only [Bool.and_eq_true, decide_eq_true_eq, List.length_cons]; omega), ifT_true (by simp only [Bool.and_eq_true, decide_eq_true_eq]; omega), ifT_true (by simp only [Bool.and_eq_true, decide_eq_true_eq]; omega), ifT_true (by rw [f7, Bool.and_true]; exact decide_eq_true ⟨by trivial, by omega⟩), w1, show w'.length + 1 = (w' ++ [n]).length by simp]
    show _ = _
    kernel_rfl
  · have q5 : r = 2 := by omega
    have w2 : IntKind.i64.wrap ((w.length : Int) - 1) = ((w.length - 1 : Nat) : Int) := by rw [wrap_id (by omega) (by omega)]; omega
    have h1 : w.length - 1 < w.length := by omega
    have e1 : w.getD (w.length - 1) 0 = w[w.length - 1] := by simp [List.getD, h1]
    have e2 : (List.take (w.length - 1) w).length = w.length - 1 := by rw [List.length_take]; omega
    have e3 : List.take (w.length - 1) (List.take (w.length - 1) w) = List.take (w.length - 1) w := by rw [List.take_take, Nat.min_self]
    rw [if_neg q4, ifB_false (by simp [q4]), ifB_true (by simp [q5])]
    simp only [w2, Int.toNat_natCast, Nat.zero_add, Nat.sub_zero, List.drop_zero, List.getElem?_eq_getElem h1, ifSome_s, e1, e2, nilT_eq, List.nil_append, e3]
    rw [ifT_true (by simp only [Bool.and_eq_true, decide_eq_true_eq]; omega), ifT_true (by simp only [Bool.and_eq_true, decide_eq_true_eq]; omega), ifT_true (by simp only [Bool.and_eq_true, decide_eq_true_eq]; omega), ifT_true (by simp only [Bool.and_eq_true, decide_eq_true_eq]; omega), ifT_true (by rw [f7, Bool.and_true]; exact decide_eq_true ⟨by trivial, by omega⟩), w1, show w.length - 1 + 1 = (List.take (w.length - 1) w ++ [n]).length by simp <;> omega]
    show _ = _
    kernel_rfl
theorem l16Offer : Contract Try.prog 110 (Ent.own l16OfferG).F := by
  refine contract_weak (contract_canon (fun_contractN' (KnowsL.cons (enters_fn Try.func153 (by kernel_rfl) (by kernel_rfl)) put KnowsL.nil).knows (Λ := look []) Try.func110 (c := Try.f110.body.getD .skip) (F := fun vs bs => funN Try.prog (look [(153, .own putG)]) (look []) Try.f110 vs bs) (by kernel_rfl) fun vs bs r h _ _ => ⟨loopsOk_nil _, h⟩)) fun vs bs r' hq => ?_
  unfold Ent.F l16OfferG at hq
  dsimp only at hq
  split at hq
  · rename_i c r n a b e n1 w n2 h n3 d
    obtain ⟨hc, hx⟩ := need_some hq
    exact (l16Offer_fun c r n a b e n1 w n2 h n3 d hc).trans hx
  · cases hq
theorem l16Hand_fun (c r n : Int) (a b e : Nat) (n1 : Option Bool) (w : List Int) (n2 : Option Bool) (h : List Int) (n3 : Option Bool) (d : List Int) (hc : (decide (a = w.length ∧ b = h.length ∧ e = d.length) && goodQ c r n w h d) = true) : (funN Try.prog (look [(153, .own putG)]) (look []) Try.f112 [.agg [.i .i64 c, .i .i64 r, .i .i64 n, .ref 0 0 a, .ref 1 0 b, .ref 2 0 e]] [.row false n1 (.int .i64) w, .row false n2 (.int .i64) h, .row false n3 (.int .i64) d]).map (canonR 3) = (.br (decide (w.length = 0)) (.leaf (.tup [.agg [.i .i64 0, .i .i64 0, .i .i64 0, .ref 3 0 0, .ref 4 0 0, .ref 5 0 0], .i .i64 0, .b false], [none, none, none, some (.row false none (.int .i64) []), some (.row false none (.int .i64) []), some (.row false none (.int .i64) [])])) (.leaf (.tup [.agg [.i .i64 (Que.mk c r n w h d).hnd.1.c, .i .i64 (Que.mk c r n w h d).hnd.1.r, .i .i64 (Que.mk c r n w h d).hnd.1.n, .ref 3 0 (Que.mk c r n w h d).hnd.1.w.length, .ref 4 0 (Que.mk c r n w h d).hnd.1.h.length, .ref 5 0 (Que.mk c r n w h d).hnd.1.d.length], .i .i64 (Que.mk c r n w h d).hnd.2, .b true], [none, none, none, some (.row false none (.int .i64) (Que.mk c r n w h d).hnd.1.w), some (.row false none (.int .i64) (Que.mk c r n w h d).hnd.1.h), some (.row false none (.int .i64) (Que.mk c r n w h d).hnd.1.d)])) : Br (V × List (Option Blk))).run := by
  have e : funN Try.prog (look [(153, .own putG)]) (look []) Try.f112 [.agg [.i .i64 c, .i .i64 r, .i .i64 n, .ref 0 0 a, .ref 1 0 b, .ref 2 0 e]] [.row false n1 (.int .i64) w, .row false n2 (.int .i64) h, .row false n3 (.int .i64) d] = ((ifB ((↑a : Int) == (0 : Int))
  (some
  (V.tup
  [V.agg
  [V.i IntKind.i64 (0 : Int), V.i IntKind.i64 (0 : Int), V.i IntKind.i64 (0 : Int),
  V.ref (3 : Nat) (0 : Nat) (0 : Nat), V.ref (4 : Nat) (0 : Nat) (0 : Nat),
  V.ref (5 : Nat) (0 : Nat) (0 : Nat)],
  V.i IntKind.i64 (0 : Int), V.b false],
  [some (Blk.row false none (Cd.int IntKind.i64) w), some (Blk.row false none (Cd.int IntKind.i64) h),
  some (Blk.row false none (Cd.int IntKind.i64) d),
  some (Blk.row false none (Cd.int IntKind.i64) (nilT (Cd.int IntKind.i64).den)),
  some (Blk.row false none (Cd.int IntKind.i64) (nilT (Cd.int IntKind.i64).den)),
  some (Blk.row false none (Cd.int IntKind.i64) (nilT (Cd.int IntKind.i64).den))]))
  (ifT (decide ((0 : Int) ≤ (0 : Int)) && decide ((0 : Int) < (↑a : Int)))
  (ifSome w[(0 : Nat)]? fun z =>
  ifT (decide ((0 : Int) ≤ (1 : Int)) && decide ((1 : Int) ≤ (↑a : Int)))
  (ifT
  (decide
  (((0 : Nat) + (List.take (a - (1 : Nat)) (List.drop (1 : Nat) w)).length) * (8 : Nat) ≤
  (140737488355328 : Nat)) &&
  decide ((0 : Nat) + (List.take (a - (1 : Nat)) (List.drop (1 : Nat) w)).length ≤ maxI))
  (ifT (decide (b = h.length ∧ h.length ≤ (1000000000 : Nat)) && srt h)
  (some
  (V.tup
  [V.agg
  [V.i IntKind.i64 c, V.i IntKind.i64 r, V.i IntKind.i64 n,
  V.ref (3 : Nat) (0 : Nat)
  ((0 : Nat) + (List.take (a - (1 : Nat)) (List.drop (1 : Nat) w)).length),
  V.ref (4 : Nat) (0 : Nat) (putL h z).length, V.ref (2 : Nat) (0 : Nat) e],
  V.i IntKind.i64 z, V.b true],
  [some (Blk.row false none (Cd.int IntKind.i64) w), none,
  some (Blk.row false none (Cd.int IntKind.i64) d),
  some
  (Blk.row false none (Cd.int IntKind.i64)
  (nilT (Cd.int IntKind.i64).den ++ List.take (a - (1 : Nat)) (List.drop (1 : Nat) w))),
  some (Blk.row false none (Cd.int IntKind.i64) (putL h z))]))))))) : _) := by kernel_rfl
  rw [e]
  clear e
  rw [Bool.and_eq_true] at hc
  obtain ⟨⟨rfl, rfl, rfl⟩, hg⟩ : (a = w.length ∧ b = h.length ∧ e = d.length) ∧ _ := ⟨of_decide_eq_true hc.1, hc.2⟩
  have f : (Que.mk c r n w h d).Fine := Que.fine hg
  have hM : maxI = 9223372036854775807 := rfl
  have f1 := f.c; have f2 := f.r; have f3 := f.n; have f4 := f.wc; have f5 := f.sum; have f6 := f.srt_h; have f7 := f.srt_d
  dsimp only at f1 f2 f3 f4 f5 f6 f7
  have w1 : IntKind.i64.wrap (n + 1) = n + 1 := wrap_id (by omega) (by omega)
  by_cases q1 : w.length = 0
  · rw [ifB_true (by simp [q1]), br_t (decide_eq_true q1)]
    show _ = _
    kernel_rfl
  rw [ifB_false (beq_false_of_ne (by omega)), br_f (decide_eq_false q1)]
  unfold Que.hnd
  dsimp only
  match w, q1 with
  | g :: w', _ =>
  have e1 : List.take ((g :: w').length - 1) w' = w' := List.take_of_length_le (by simp)
  simp only [List.length_cons] at f4 f5
  rw [ifT_true (by simp only [Bool.and_eq_true, decide_eq_true_eq, List.length_cons]; omega), List.getElem?_cons_zero, ifSome_s]
  simp only [e1, Nat.zero_add, nilT_eq, List.nil_append, List.drop_zero, List.drop_succ_cons, List.getD_cons_zero]
  rw [ifT_true (by simp only [Bool.and_eq_true, decide_eq_true_eq, List.length_cons]; omega), ifT_true (by simp only [Bool.and_eq_true, decide_eq_true_eq]; omega), ifT_true (by rw [f6, Bool.and_true]; exact decide_eq_true ⟨by trivial, by omega⟩)]
  show _ = _
  kernel_rfl
theorem l16Hand : Contract Try.prog 112 (Ent.own l16HandG).F := by
  refine contract_weak (contract_canon (fun_contractN' (KnowsL.cons (enters_fn Try.func153 (by kernel_rfl) (by kernel_rfl)) put KnowsL.nil).knows (Λ := look []) Try.func112 (c := Try.f112.body.getD .skip) (F := fun vs bs => funN Try.prog (look [(153, .own putG)]) (look []) Try.f112 vs bs) (by kernel_rfl) fun vs bs r h _ _ => ⟨loopsOk_nil _, h⟩)) fun vs bs r' hq => ?_
  unfold Ent.F l16HandG at hq
  dsimp only at hq
  split at hq
  · rename_i c r n a b e n1 w n2 h n3 d
    obtain ⟨hc, hx⟩ := need_some hq
    exact (l16Hand_fun c r n a b e n1 w n2 h n3 d hc).trans hx
  · cases hq
end Go.Proofs.Ytjghbihlgfjebaa.Den
