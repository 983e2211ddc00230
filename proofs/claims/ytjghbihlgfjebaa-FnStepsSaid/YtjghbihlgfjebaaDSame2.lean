/- What functions of the program do, by the machine: Same2. -/
import Derived.Test.YtjghbihlgfjebaaDSame
import Derived.KernelRfl
import Derived.Test.YtjghbihlgfjebaaRows
namespace Go.Proofs.Ytjghbihlgfjebaa.Den
open Go.Proofs
set_option maxRecDepth 100000
def ss1E : LoopEnt := ⟨89, [2,3,55,56], [2,3], [4], fun
  | ([.ptr 0 0, .ptr 1 0, .i .i64 m, .i .i64 n], [some (.box [.i .i64 a0, .sl .str a1, .i .i64 a2, .sl .str a3, .sl (.pair (.int .i64) (.pair (.int .i64) (.pair .str .unit))) a4, .sl (.pair (.int .i64) (.pair (.int .i64) .unit)) a5]), some (.box [.i .i64 b0, .sl .str b1, .i .i64 b2, .sl .str b3, .sl (.pair (.int .i64) (.pair (.int .i64) (.pair .str .unit))) b4, .sl (.pair (.int .i64) (.pair (.int .i64) .unit)) b5])]) =>
    .need (decide (0 ≤ n ∧ m = a4.length ∧ a4.length = b4.length ∧ n.toNat ≤ a4.length ∧ a4.length ≤ maxI)) (.br (decide (a4.drop n.toNat = b4.drop n.toNat)) (.leaf (.exit 0, ([.ptr 0 0, .ptr 1 0], [some (.box [.i .i64 a0, .sl .str a1, .i .i64 a2, .sl .str a3, .sl (.pair (.int .i64) (.pair (.int .i64) (.pair .str .unit))) a4, .sl (.pair (.int .i64) (.pair (.int .i64) .unit)) a5]), some (.box [.i .i64 b0, .sl .str b1, .i .i64 b2, .sl .str b3, .sl (.pair (.int .i64) (.pair (.int .i64) (.pair .str .unit))) b4, .sl (.pair (.int .i64) (.pair (.int .i64) .unit)) b5])]))) (.leaf (.ret, ([.b false], []))))
  | _ => .no⟩
def ss2E : LoopEnt := ⟨89, [2,3,73,74], [], [4], fun
  | ([.ptr 0 0, .ptr 1 0, .i .i64 m, .i .i64 n], [some (.box [.i .i64 a0, .sl .str a1, .i .i64 a2, .sl .str a3, .sl (.pair (.int .i64) (.pair (.int .i64) (.pair .str .unit))) a4, .sl (.pair (.int .i64) (.pair (.int .i64) .unit)) a5]), some (.box [.i .i64 b0, .sl .str b1, .i .i64 b2, .sl .str b3, .sl (.pair (.int .i64) (.pair (.int .i64) (.pair .str .unit))) b4, .sl (.pair (.int .i64) (.pair (.int .i64) .unit)) b5])]) =>
    .need (decide (0 ≤ n ∧ m = a5.length ∧ a5.length = b5.length ∧ n.toNat ≤ a5.length ∧ a5.length ≤ maxI)) (.br (decide (a5.drop n.toNat = b5.drop n.toNat)) (.leaf (.exit 2, ([], []))) (.leaf (.ret, ([.b false], []))))
  | _ => .no⟩
def sameSesG : List V → List Blk → Br (V × List (Option Blk))
  | [.agg [.i .i64 a0, .sl .str a1, .i .i64 a2, .sl .str a3, .sl (.pair (.int .i64) (.pair (.int .i64) (.pair .str .unit))) a4, .sl (.pair (.int .i64) (.pair (.int .i64) .unit)) a5], .agg [.i .i64 b0, .sl .str b1, .i .i64 b2, .sl .str b3, .sl (.pair (.int .i64) (.pair (.int .i64) (.pair .str .unit))) b4, .sl (.pair (.int .i64) (.pair (.int .i64) .unit)) b5]], [] => .leaf (.b (decide (a0 = b0 ∧ a2 = b2 ∧ a1 = b1 ∧ a3 = b3 ∧ a4 = b4 ∧ a5 = b5)), [])
  | _, _ => .no
theorem ss1_round (a0 : Int) (a1 : List (List UInt8)) (a2 : Int) (a3 : List (List UInt8)) (a4 : List (Int × Int × List UInt8 × Unit)) (a5 : List (Int × Int × Unit)) (b0 : Int) (b1 : List (List UInt8)) (b2 : Int) (b3 : List (List UInt8)) (b4 : List (Int × Int × List UInt8 × Unit)) (b5 : List (Int × Int × Unit)) (n : Nat) : roundK Try.prog (look [(24, .rd1 sameTextsG)]) (look [(4, ss1E), (10, ss2E)]) 0 (body Try.f29 0) ss1E ([.ptr 0 0, .ptr 1 0, .i .i64 (↑a4.length : Int), .i .i64 n], [some (.box [.i .i64 a0, .sl .str a1, .i .i64 a2, .sl .str a3, .sl (.pair (.int .i64) (.pair (.int .i64) (.pair .str .unit))) a4, .sl (.pair (.int .i64) (.pair (.int .i64) .unit)) a5]), some (.box [.i .i64 b0, .sl .str b1, .i .i64 b2, .sl .str b3, .sl (.pair (.int .i64) (.pair (.int .i64) (.pair .str .unit))) b4, .sl (.pair (.int .i64) (.pair (.int .i64) .unit)) b5])]) =
    ((ifB (decide ((↑n : Int) < (↑a4.length : Int)))
  (ifT (decide ((0 : Int) ≤ (↑n : Int)) && decide ((↑n : Int) < (↑a4.length : Int)))
  (ifSome a4[((↑n : Int)).toNat]? fun z =>
  ifT (decide ((0 : Int) ≤ (↑n : Int)) && decide ((↑n : Int) < (↑b4.length : Int)))
  (ifSome b4[((↑n : Int)).toNat]? fun z_1 =>
  ifB (!(z.fst == z_1.fst && (z.snd.fst == z_1.snd.fst && (z.snd.snd.fst == z_1.snd.snd.fst && true))))
  (some (Ex.ret, [V.b false], []))
  (some
  (Ex.normal,
  [V.ptr (0 : Nat) (0 : Nat), V.ptr (1 : Nat) (0 : Nat), V.i IntKind.i64 (↑a4.length : Int),
  V.i IntKind.i64 (IntKind.i64.wrap ((↑n : Int) + (1 : Int)))],
  [some
  (Blk.box
  [V.i IntKind.i64 a0, V.sl Cd.str a1, V.i IntKind.i64 a2, V.sl Cd.str a3,
  V.sl ((Cd.int IntKind.i64).pair ((Cd.int IntKind.i64).pair (Cd.str.pair Cd.unit))) a4,
  V.sl ((Cd.int IntKind.i64).pair ((Cd.int IntKind.i64).pair Cd.unit)) a5]),
  some
  (Blk.box
  [V.i IntKind.i64 b0, V.sl Cd.str b1, V.i IntKind.i64 b2, V.sl Cd.str b3,
  V.sl ((Cd.int IntKind.i64).pair ((Cd.int IntKind.i64).pair (Cd.str.pair Cd.unit))) b4,
  V.sl ((Cd.int IntKind.i64).pair ((Cd.int IntKind.i64).pair Cd.unit)) b5])])))))
  (some
  (Ex.exit (0 : Nat), [V.ptr (0 : Nat) (0 : Nat), V.ptr (1 : Nat) (0 : Nat)],
  [some
  (Blk.box
  [V.i IntKind.i64 a0, V.sl Cd.str a1, V.i IntKind.i64 a2, V.sl Cd.str a3,
  V.sl ((Cd.int IntKind.i64).pair ((Cd.int IntKind.i64).pair (Cd.str.pair Cd.unit))) a4,
  V.sl ((Cd.int IntKind.i64).pair ((Cd.int IntKind.i64).pair Cd.unit)) a5]),
  some
  (Blk.box
  [V.i IntKind.i64 b0, V.sl Cd.str b1, V.i IntKind.i64 b2, V.sl Cd.str b3,
  V.sl ((Cd.int IntKind.i64).pair ((Cd.int IntKind.i64).pair (Cd.str.pair Cd.unit))) b4,
  V.sl ((Cd.int IntKind.i64).pair ((Cd.int IntKind.i64).pair Cd.unit)) b5])]))) : _) := by kernel_rfl
theorem ss2_round (a0 : Int) (a1 : List (List UInt8)) (a2 : Int) (a3 : List (List UInt8)) (a4 : List (Int × Int × List UInt8 × Unit)) (a5 : List (Int × Int × Unit)) (b0 : Int) (b1 : List (List UInt8)) (b2 : Int) (b3 : List (List UInt8)) (b4 : List (Int × Int × List UInt8 × Unit)) (b5 : List (Int × Int × Unit)) (n : Nat) : roundK Try.prog (look [(24, .rd1 sameTextsG)]) (look [(4, ss1E), (10, ss2E)]) 0 (body Try.f29 1) ss2E ([.ptr 0 0, .ptr 1 0, .i .i64 (↑a5.length : Int), .i .i64 n], [some (.box [.i .i64 a0, .sl .str a1, .i .i64 a2, .sl .str a3, .sl (.pair (.int .i64) (.pair (.int .i64) (.pair .str .unit))) a4, .sl (.pair (.int .i64) (.pair (.int .i64) .unit)) a5]), some (.box [.i .i64 b0, .sl .str b1, .i .i64 b2, .sl .str b3, .sl (.pair (.int .i64) (.pair (.int .i64) (.pair .str .unit))) b4, .sl (.pair (.int .i64) (.pair (.int .i64) .unit)) b5])]) =
    ((ifB (decide ((↑n : Int) < (↑a5.length : Int)))
  (ifT (decide ((0 : Int) ≤ (↑n : Int)) && decide ((↑n : Int) < (↑a5.length : Int)))
  (ifSome a5[((↑n : Int)).toNat]? fun z =>
  ifT (decide ((0 : Int) ≤ (↑n : Int)) && decide ((↑n : Int) < (↑b5.length : Int)))
  (ifSome b5[((↑n : Int)).toNat]? fun z_1 =>
  ifB (!(z.fst == z_1.fst && (z.snd.fst == z_1.snd.fst && true))) (some (Ex.ret, [V.b false], []))
  (some
  (Ex.normal,
  [V.ptr (0 : Nat) (0 : Nat), V.ptr (1 : Nat) (0 : Nat), V.i IntKind.i64 (↑a5.length : Int),
  V.i IntKind.i64 (IntKind.i64.wrap ((↑n : Int) + (1 : Int)))],
  [some
  (Blk.box
  [V.i IntKind.i64 a0, V.sl Cd.str a1, V.i IntKind.i64 a2, V.sl Cd.str a3,
  V.sl ((Cd.int IntKind.i64).pair ((Cd.int IntKind.i64).pair (Cd.str.pair Cd.unit))) a4,
  V.sl ((Cd.int IntKind.i64).pair ((Cd.int IntKind.i64).pair Cd.unit)) a5]),
  some
  (Blk.box
  [V.i IntKind.i64 b0, V.sl Cd.str b1, V.i IntKind.i64 b2, V.sl Cd.str b3,
  V.sl ((Cd.int IntKind.i64).pair ((Cd.int IntKind.i64).pair (Cd.str.pair Cd.unit))) b4,
  V.sl ((Cd.int IntKind.i64).pair ((Cd.int IntKind.i64).pair Cd.unit)) b5])])))))
  (some (Ex.exit (2 : Nat), [], []))) : _) := by kernel_rfl
theorem ss_fun0 (a0 : Int) (a1 : List (List UInt8)) (a2 : Int) (a3 : List (List UInt8)) (a4 : List (Int × Int × List UInt8 × Unit)) (a5 : List (Int × Int × Unit)) (b0 : Int) (b1 : List (List UInt8)) (b2 : Int) (b3 : List (List UInt8)) (b4 : List (Int × Int × List UInt8 × Unit)) (b5 : List (Int × Int × Unit)) : funK Try.prog (look [(24, .rd1 sameTextsG)]) (look [(4, ss1E), (10, ss2E)]) Try.f29 [.agg [.i .i64 a0, .sl .str a1, .i .i64 a2, .sl .str a3, .sl (.pair (.int .i64) (.pair (.int .i64) (.pair .str .unit))) a4, .sl (.pair (.int .i64) (.pair (.int .i64) .unit)) a5], .agg [.i .i64 b0, .sl .str b1, .i .i64 b2, .sl .str b3, .sl (.pair (.int .i64) (.pair (.int .i64) (.pair .str .unit))) b4, .sl (.pair (.int .i64) (.pair (.int .i64) .unit)) b5]] [] =
    ((ifB (a0 != b0) (some (V.b false, []))
  (ifB (a2 != b2) (some (V.b false, []))
  (ifB (!decide (a1 = b1)) (some (V.b false, []))
  (ifB (!decide (a3 = b3)) (some (V.b false, []))
  (ifB ((↑a4.length : Int) != (↑b4.length : Int)) (some (V.b false, []))
  (ifB ((↑a5.length : Int) != (↑b5.length : Int)) (some (V.b false, []))
  (ifT
  (decide
  ((0 : Int) ≤ (0 : Int) ∧
  (↑a4.length : Int) = (↑a4.length : Int) ∧
  a4.length = b4.length ∧ (0 : Nat) ≤ a4.length ∧ a4.length ≤ maxI))
  (ifB (decide (List.drop (0 : Nat) a4 = List.drop (0 : Nat) b4))
  (ifT
  (decide
  ((0 : Int) ≤ (0 : Int) ∧
  (↑a5.length : Int) = (↑a5.length : Int) ∧
  a5.length = b5.length ∧ (0 : Nat) ≤ a5.length ∧ a5.length ≤ maxI))
  (ifB (decide (List.drop (0 : Nat) a5 = List.drop (0 : Nat) b5)) (some (V.b true, []))
  (some (V.b false, []))))
  (some (V.b false, [])))))))))) : _) := by kernel_rfl
theorem ss1_loop (a0 : Int) (a1 : List (List UInt8)) (a2 : Int) (a3 : List (List UInt8)) (a4 : List (Int × Int × List UInt8 × Unit)) (a5 : List (Int × Int × Unit)) (b0 : Int) (b1 : List (List UInt8)) (b2 : Int) (b3 : List (List UInt8)) (b4 : List (Int × Int × List UInt8 × Unit)) (b5 : List (Int × Int × Unit)) (hl : a4.length = b4.length) (hm : a4.length ≤ maxI) : ∀ (j n : Nat), n + j = a4.length → ∀ e d', (Br.br (decide (a4.drop n = b4.drop n)) (.leaf (.exit 0, ([.ptr 0 0, .ptr 1 0], [some (.box [.i .i64 a0, .sl .str a1, .i .i64 a2, .sl .str a3, .sl (.pair (.int .i64) (.pair (.int .i64) (.pair .str .unit))) a4, .sl (.pair (.int .i64) (.pair (.int .i64) .unit)) a5]), some (.box [.i .i64 b0, .sl .str b1, .i .i64 b2, .sl .str b3, .sl (.pair (.int .i64) (.pair (.int .i64) (.pair .str .unit))) b4, .sl (.pair (.int .i64) (.pair (.int .i64) .unit)) b5])]))) (.leaf (.ret, ([.b false], []))) : Br (Ex × Dt)).run = some (e, d') →
    Runs Try.prog (look [(24, .rd1 sameTextsG)]) (look [(4, ss1E), (10, ss2E)]) 0 (body Try.f29 0) ss1E (([.ptr 0 0, .ptr 1 0, .i .i64 (↑a4.length : Int), .i .i64 (↑n : Int)], [some (.box [.i .i64 a0, .sl .str a1, .i .i64 a2, .sl .str a3, .sl (.pair (.int .i64) (.pair (.int .i64) (.pair .str .unit))) a4, .sl (.pair (.int .i64) (.pair (.int .i64) .unit)) a5]), some (.box [.i .i64 b0, .sl .str b1, .i .i64 b2, .sl .str b3, .sl (.pair (.int .i64) (.pair (.int .i64) (.pair .str .unit))) b4, .sl (.pair (.int .i64) (.pair (.int .i64) .unit)) b5])])) e d'
  | 0, n, hn, e, d', h => by
    rw [List.drop_eq_nil_of_le (show a4.length ≤ n by omega), List.drop_eq_nil_of_le (show b4.length ≤ n by omega)] at h
    cases h
    refine .stop _ _ _ ((ss1_round a0 a1 a2 a3 a4 a5 b0 b1 b2 b3 b4 b5 n).trans ?_) (by simp)
    rw [ifB_false (decide_eq_false (by omega))]
  | j + 1, n, hn, e, d', h => by
    have h1 : n < a4.length := by omega
    have h2 : n < b4.length := by omega
    have hr := ss1_round a0 a1 a2 a3 a4 a5 b0 b1 b2 b3 b4 b5 n
    simp only [Int.toNat_natCast, List.getElem?_eq_getElem h1, List.getElem?_eq_getElem h2, wrap_succ (n := n) (by omega)] at hr
    rw [ifB_true (decide_eq_true (by omega)), ifT_true (by simp only [Bool.and_eq_true, decide_eq_true_eq]; omega), ifSome_s, ifT_true (by simp only [Bool.and_eq_true, decide_eq_true_eq]; omega), ifSome_s] at hr
    rw [br_run, List.drop_eq_getElem_cons h1, List.drop_eq_getElem_cons h2] at h
    simp only [List.cons.injEq] at h
    by_cases he : a4[n] = b4[n]
    · rw [ifB_false (by rw [he]; simp)] at hr
      refine .step _ _ _ _ hr (ss1_loop a0 a1 a2 a3 a4 a5 b0 b1 b2 b3 b4 b5 hl hm j (n + 1) (by omega) e d' ?_)
      rw [br_run]
      simpa only [he, true_and] using h
    · have hc : (!(a4[n].1 == b4[n].1 && (a4[n].2.1 == b4[n].2.1 && (a4[n].2.2.1 == b4[n].2.2.1 && true)))) = true := by
        simp only [Bool.not_eq_true', Bool.and_eq_false_imp, beq_iff_eq, Bool.and_true]
        intro q1
        intro q2
        rw [beq_eq_false_iff_ne]
        intro q3
        exact he (Prod.ext q1 (Prod.ext q2 (Prod.ext q3 rfl)))
      rw [ifB_true hc] at hr
      simp only [he, false_and, if_false] at h
      cases h
      exact .stop _ _ _ hr (by simp)
theorem ss2_loop (a0 : Int) (a1 : List (List UInt8)) (a2 : Int) (a3 : List (List UInt8)) (a4 : List (Int × Int × List UInt8 × Unit)) (a5 : List (Int × Int × Unit)) (b0 : Int) (b1 : List (List UInt8)) (b2 : Int) (b3 : List (List UInt8)) (b4 : List (Int × Int × List UInt8 × Unit)) (b5 : List (Int × Int × Unit)) (hl : a5.length = b5.length) (hm : a5.length ≤ maxI) : ∀ (j n : Nat), n + j = a5.length → ∀ e d', (Br.br (decide (a5.drop n = b5.drop n)) (.leaf (.exit 2, ([], []))) (.leaf (.ret, ([.b false], []))) : Br (Ex × Dt)).run = some (e, d') →
    Runs Try.prog (look [(24, .rd1 sameTextsG)]) (look [(4, ss1E), (10, ss2E)]) 0 (body Try.f29 1) ss2E (([.ptr 0 0, .ptr 1 0, .i .i64 (↑a5.length : Int), .i .i64 (↑n : Int)], [some (.box [.i .i64 a0, .sl .str a1, .i .i64 a2, .sl .str a3, .sl (.pair (.int .i64) (.pair (.int .i64) (.pair .str .unit))) a4, .sl (.pair (.int .i64) (.pair (.int .i64) .unit)) a5]), some (.box [.i .i64 b0, .sl .str b1, .i .i64 b2, .sl .str b3, .sl (.pair (.int .i64) (.pair (.int .i64) (.pair .str .unit))) b4, .sl (.pair (.int .i64) (.pair (.int .i64) .unit)) b5])])) e d'
  | 0, n, hn, e, d', h => by
    rw [List.drop_eq_nil_of_le (show a5.length ≤ n by omega), List.drop_eq_nil_of_le (show b5.length ≤ n by omega)] at h
    cases h
    refine .stop _ _ _ ((ss2_round a0 a1 a2 a3 a4 a5 b0 b1 b2 b3 b4 b5 n).trans ?_) (by simp)
    rw [ifB_false (decide_eq_false (by omega))]
  | j + 1, n, hn, e, d', h => by
    have h1 : n < a5.length := by omega
    have h2 : n < b5.length := by omega
    have hr := ss2_round a0 a1 a2 a3 a4 a5 b0 b1 b2 b3 b4 b5 n
    simp only [Int.toNat_natCast, List.getElem?_eq_getElem h1, List.getElem?_eq_getElem h2, wrap_succ (n := n) (by omega)] at hr
    rw [ifB_true (decide_eq_true (by omega)), ifT_true (by simp only [Bool.and_eq_true, decide_eq_true_eq]; omega), ifSome_s, ifT_true (by simp only [Bool.and_eq_true, decide_eq_true_eq]; omega), ifSome_s] at hr
    rw [br_run, List.drop_eq_getElem_cons h1, List.drop_eq_getElem_cons h2] at h
    simp only [List.cons.injEq] at h
    by_cases he : a5[n] = b5[n]
    · rw [ifB_false (by rw [he]; simp)] at hr
      refine .step _ _ _ _ hr (ss2_loop a0 a1 a2 a3 a4 a5 b0 b1 b2 b3 b4 b5 hl hm j (n + 1) (by omega) e d' ?_)
      rw [br_run]
      simpa only [he, true_and] using h
    · have hc : (!(a5[n].1 == b5[n].1 && (a5[n].2.1 == b5[n].2.1 && true))) = true := by
        simp only [Bool.not_eq_true', Bool.and_eq_false_imp, beq_iff_eq, Bool.and_true]
        intro q1
        skip
        rw [beq_eq_false_iff_ne]
        intro q3
        exact he (Prod.ext q1 (Prod.ext q3 rfl))
      rw [ifB_true hc] at hr
      simp only [he, false_and, if_false] at h
      cases h
      exact .stop _ _ _ hr (by simp)
theorem ss1_ok : ∀ d e d', ((ss1E).L d).run = some (e, d') → Runs Try.prog (look [(24, .rd1 sameTextsG)]) (look [(4, ss1E), (10, ss2E)]) 0 (body Try.f29 0) ss1E d e d' := by
  intro d e d' h
  unfold ss1E at h
  dsimp only at h
  split at h
  · obtain ⟨hc, h'⟩ := need_some h
    obtain ⟨h0, rfl, h1, h2, h3⟩ := of_decide_eq_true hc
    obtain ⟨n, rfl⟩ := Int.eq_ofNat_of_zero_le h0
    exact ss1_loop _ _ _ _ _ _ _ _ _ _ _ _ h1 h3 _ n (Nat.add_sub_of_le h2) e d' h'
  · cases h
theorem ss2_ok : ∀ d e d', ((ss2E).L d).run = some (e, d') → Runs Try.prog (look [(24, .rd1 sameTextsG)]) (look [(4, ss1E), (10, ss2E)]) 0 (body Try.f29 1) ss2E d e d' := by
  intro d e d' h
  unfold ss2E at h
  dsimp only at h
  split at h
  · obtain ⟨hc, h'⟩ := need_some h
    obtain ⟨h0, rfl, h1, h2, h3⟩ := of_decide_eq_true hc
    obtain ⟨n, rfl⟩ := Int.eq_ofNat_of_zero_le h0
    exact ss2_loop _ _ _ _ _ _ _ _ _ _ _ _ h1 h3 _ n (Nat.add_sub_of_le h2) e d' h'
  · cases h
theorem ss_loops : LoopsOk Try.prog (look [(24, .rd1 sameTextsG)]) (look [(4, ss1E), (10, ss2E)]) 0 (Try.f29.body.getD .skip) :=
  LoopsI.loops (.cons (a := body Try.f29 0) (by kernel_rfl) ss1_ok (.cons (a := body Try.f29 1) (by kernel_rfl) ss2_ok .nil)) (by kernel_rfl)
theorem sameSes_fun (a0 : Int) (a1 : List (List UInt8)) (a2 : Int) (a3 : List (List UInt8)) (a4 : List (Int × Int × List UInt8 × Unit)) (a5 : List (Int × Int × Unit)) (b0 : Int) (b1 : List (List UInt8)) (b2 : Int) (b3 : List (List UInt8)) (b4 : List (Int × Int × List UInt8 × Unit)) (b5 : List (Int × Int × Unit)) (m4 : a4.length ≤ maxI) (m5 : a5.length ≤ maxI) : funK Try.prog (look [(24, .rd1 sameTextsG)]) (look [(4, ss1E), (10, ss2E)]) Try.f29 [.agg [.i .i64 a0, .sl .str a1, .i .i64 a2, .sl .str a3, .sl (.pair (.int .i64) (.pair (.int .i64) (.pair .str .unit))) a4, .sl (.pair (.int .i64) (.pair (.int .i64) .unit)) a5], .agg [.i .i64 b0, .sl .str b1, .i .i64 b2, .sl .str b3, .sl (.pair (.int .i64) (.pair (.int .i64) (.pair .str .unit))) b4, .sl (.pair (.int .i64) (.pair (.int .i64) .unit)) b5]] [] = some (.b (decide (a0 = b0 ∧ a2 = b2 ∧ a1 = b1 ∧ a3 = b3 ∧ a4 = b4 ∧ a5 = b5)), []) := by
  rw [ss_fun0]
  by_cases h0 : a0 = b0
  rotate_left
  · simp [h0]
  by_cases h2 : a2 = b2
  rotate_left
  · simp [h0, h2]
  by_cases h1 : a1 = b1
  rotate_left
  · simp [h0, h2, h1]
  by_cases h3 : a3 = b3
  rotate_left
  · simp [h0, h2, h1, h3]
  by_cases l4 : a4.length = b4.length
  rotate_left
  · have : a4 ≠ b4 := fun e => l4 (by rw [e])
    simp [h0, h2, h1, h3, l4, this]
  by_cases l5 : a5.length = b5.length
  rotate_left
  · have : a5 ≠ b5 := fun e => l5 (by rw [e])
    simp [h0, h2, h1, h3, l4, l5, this]
  by_cases h4 : a4 = b4 <;> by_cases h5 : a5 = b5 <;> simp [h0, h2, h1, h3, l4, l5, h4, h5, show b4.length ≤ maxI by omega, show b5.length ≤ maxI by omega]
theorem sameSes : Contract Try.prog 29 (Ent.rd1 sameSesG).F := by
  refine fun_contract' (KnowsL.cons (enters_fn Try.func24 (by kernel_rfl) (by kernel_rfl)) sameTexts KnowsL.nil).knows (Λ := (look [(4, ss1E), (10, ss2E)])) Try.func29 (c := Try.f29.body.getD .skip) (by kernel_rfl) fun vs bs r h hv hb => ?_
  unfold Ent.F sameSesG at h
  dsimp only at h
  split at h
  · rename_i a0 a1 a2 a3 a4 a5 b0 b1 b2 b3 b4 b5
    have hf := hv (.agg [.i .i64 a0, .sl .str a1, .i .i64 a2, .sl .str a3, .sl (.pair (.int .i64) (.pair (.int .i64) (.pair .str .unit))) a4, .sl (.pair (.int .i64) (.pair (.int .i64) .unit)) a5]) (by simp)
    exact ⟨ss_loops, (sameSes_fun a0 a1 a2 a3 a4 a5 b0 b1 b2 b3 b4 b5 (hf (.sl (.pair (.int .i64) (.pair (.int .i64) (.pair .str .unit))) a4) (by simp)).1 (hf (.sl (.pair (.int .i64) (.pair (.int .i64) .unit)) a5) (by simp)).1).trans (by cases h; rfl)⟩
  · cases h
end Go.Proofs.Ytjghbihlgfjebaa.Den
