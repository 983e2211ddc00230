/- What functions of the program do, by the machine: LFQT. -/
import Derived.Test.YtjghbihlgfjebaaDLFQ0
import Derived.KernelRfl
import Derived.Test.YtjghbihlgfjebaaRows
namespace Go.Proofs.Ytjghbihlgfjebaa.Den
open Go.Proofs
set_option maxRecDepth 100000
/-- What is told of each is as it was: how many were dropped. -/
def qchk (h d : List Int) : List Bool → List Int → Int → Int → Option Int
  | b :: l, x :: t, dr, hd =>
    if b = true ∧ 0 ≤ x then (if x ∈ d then qchk h d l t (dr + 1) hd else none)
    else if b = false ∧ 0 ≤ x then (if hd < x ∧ x ∈ h then qchk h d l t dr x else none)
    else qchk h d l t dr hd
  | _, _, dr, _ => some dr
def fq1E : LoopEnt := ⟨171, [6, 7, 12, 13, 84, 85, 86], [6, 12], [2], fun
  | ([.ptr 0 0, .ref 1 0 k, .i .i64 dr, .i .i64 hd, .ref 2 0 k2, .i .i64 m, .i .i64 i], [some (.box [.i .i64 c, .i .i64 r, .i .i64 n, .ref 3 p a, .ref 4 0 b, .ref 5 0 e]), some (.row false none (.int .i64) t), some (.row false none .bool l), some (.row false none (.int .i64) w), some (.row false none (.int .i64) h), some (.row false none (.int .i64) d)]) =>
    .need (decide (0 ≤ i ∧ i.toNat ≤ l.length ∧ k = t.length ∧ k2 = l.length ∧ m = l.length ∧ t.length = l.length ∧ l.length ≤ 1000 ∧ 0 ≤ dr ∧ dr + l.length ≤ 10000 + i ∧ b = h.length ∧ e = d.length) && (qchk h d (l.drop i.toNat) (t.drop i.toNat) dr hd).isSome) (.leaf (.exit 0, ([.ptr 0 0, .i .i64 ((qchk h d (l.drop i.toNat) (t.drop i.toNat) dr hd).getD 0)], [some (.box [.i .i64 c, .i .i64 r, .i .i64 n, .ref 1 p a, .ref 2 0 b, .ref 3 0 e]), some (.row false none (.int .i64) w), some (.row false none (.int .i64) h), some (.row false none (.int .i64) d)])))
  | _ => .no⟩
def fq2E : LoopEnt := ⟨171, [6, 17], [], [2], fun
  | ([.ptr 0 0, .i .i64 x], [some (.box [.i .i64 c, .i .i64 r, .i .i64 n, .ref 1 p a, .ref 2 0 b, .ref 3 0 e]), some (.row false none (.int .i64) w), some (.row false none (.int .i64) h), some (.row false none (.int .i64) d)]) => .need (decide (0 ≤ x ∧ x ≤ n ∧ p + a = w.length ∧ b = h.length ∧ e = d.length) && goodQ c r n (w.drop p) h d) (.leaf (.exit 2, ([], [])))
  | _ => .no⟩
theorem fq1_round (k : Nat) (dr hd : Int) (k2 : Nat) (m i c r n : Int) (p a b e : Nat) (t : List Int) (l : List Bool) (w h d : List Int) : roundK Try.prog (look [(32, .rd1 dplayqG), (33, .rd1 iplayG), (34, .rd1 splayG), (35, .rd1 sameIntsG), (36, .rd1 sameQG), (37, .rd1 goodQG), (38, .rd1 contIntG), (39, .rd1 whereG)]) (look [(15, fq1E), (30, fq2E)]) 0 (body Try.f6 0) fq1E ([.ptr 0 0, .ref 1 0 k, .i .i64 dr, .i .i64 hd, .ref 2 0 k2, .i .i64 m, .i .i64 i], [some (.box [.i .i64 c, .i .i64 r, .i .i64 n, .ref 3 p a, .ref 4 0 b, .ref 5 0 e]), some (.row false none (.int .i64) t), some (.row false none .bool l), some (.row false none (.int .i64) w), some (.row false none (.int .i64) h), some (.row false none (.int .i64) d)]) =
  ((ifB (decide (i < m))
  (ifT (decide ((0 : Int) ≤ i) && decide (i < (↑k2 : Int)))
  (ifSome l[(0 : Nat) + i.toNat]? fun z =>
  ifT (decide ((0 : Int) ≤ i) && decide (i < (↑k : Int)))
  (ifSome t[(0 : Nat) + i.toNat]? fun z_1 =>
  ifB z
  (ifB (decide (z_1 ≥ (0 : Int)))
  (ifB (!decide (z_1 ∈ List.take e (List.drop (0 : Nat) d))) (some (Ex.ret, [V.b false], []))
  (ifB (!z)
  (ifB (decide (z_1 ≥ (0 : Int)))
  (ifB (decide (z_1 ≤ hd)) (some (Ex.ret, [V.b false], []))
  (ifB (!decide (z_1 ∈ List.take b (List.drop (0 : Nat) h))) (some (Ex.ret, [V.b false], []))
  (some
  (Ex.normal,
  [V.ptr (0 : Nat) (0 : Nat), V.ref (1 : Nat) (0 : Nat) k,
  V.i IntKind.i64 (IntKind.i64.wrap (dr + (1 : Int))), V.i IntKind.i64 z_1,
  V.ref (2 : Nat) (0 : Nat) k2, V.i IntKind.i64 m,
  V.i IntKind.i64 (IntKind.i64.wrap (i + (1 : Int)))],
  [some
  (Blk.box
  [V.i IntKind.i64 c, V.i IntKind.i64 r, V.i IntKind.i64 n, V.ref (3 : Nat) p a,
  V.ref (4 : Nat) (0 : Nat) b, V.ref (5 : Nat) (0 : Nat) e]),
  some (Blk.row false none (Cd.int IntKind.i64) t), some (Blk.row false none Cd.bool l),
  some (Blk.row false none (Cd.int IntKind.i64) w),
  some (Blk.row false none (Cd.int IntKind.i64) h),
  some (Blk.row false none (Cd.int IntKind.i64) d)]))))
  (some
  (Ex.normal,
  [V.ptr (0 : Nat) (0 : Nat), V.ref (1 : Nat) (0 : Nat) k,
  V.i IntKind.i64 (IntKind.i64.wrap (dr + (1 : Int))), V.i IntKind.i64 hd,
  V.ref (2 : Nat) (0 : Nat) k2, V.i IntKind.i64 m,
  V.i IntKind.i64 (IntKind.i64.wrap (i + (1 : Int)))],
  [some
  (Blk.box
  [V.i IntKind.i64 c, V.i IntKind.i64 r, V.i IntKind.i64 n, V.ref (3 : Nat) p a,
  V.ref (4 : Nat) (0 : Nat) b, V.ref (5 : Nat) (0 : Nat) e]),
  some (Blk.row false none (Cd.int IntKind.i64) t), some (Blk.row false none Cd.bool l),
  some (Blk.row false none (Cd.int IntKind.i64) w),
  some (Blk.row false none (Cd.int IntKind.i64) h),
  some (Blk.row false none (Cd.int IntKind.i64) d)])))
  (some
  (Ex.normal,
  [V.ptr (0 : Nat) (0 : Nat), V.ref (1 : Nat) (0 : Nat) k,
  V.i IntKind.i64 (IntKind.i64.wrap (dr + (1 : Int))), V.i IntKind.i64 hd,
  V.ref (2 : Nat) (0 : Nat) k2, V.i IntKind.i64 m,
  V.i IntKind.i64 (IntKind.i64.wrap (i + (1 : Int)))],
  [some
  (Blk.box
  [V.i IntKind.i64 c, V.i IntKind.i64 r, V.i IntKind.i64 n, V.ref (3 : Nat) p a,
  V.ref (4 : Nat) (0 : Nat) b, V.ref (5 : Nat) (0 : Nat) e]),
  some (Blk.row false none (Cd.int IntKind.i64) t), some (Blk.row false none Cd.bool l),
  some (Blk.row false none (Cd.int IntKind.i64) w),
  some (Blk.row false none (Cd.int IntKind.i64) h),
  some (Blk.row false none (Cd.int IntKind.i64) d)]))))
  (ifB (!z)
  (ifB (decide (z_1 ≥ (0 : Int)))
  (ifB (decide (z_1 ≤ hd)) (some (Ex.ret, [V.b false], []))
  (ifB (!decide (z_1 ∈ List.take b (List.drop (0 : Nat) h))) (some (Ex.ret, [V.b false], []))
  (some
  (Ex.normal,
  [V.ptr (0 : Nat) (0 : Nat), V.ref (1 : Nat) (0 : Nat) k, V.i IntKind.i64 dr,
  V.i IntKind.i64 z_1, V.ref (2 : Nat) (0 : Nat) k2, V.i IntKind.i64 m,
  V.i IntKind.i64 (IntKind.i64.wrap (i + (1 : Int)))],
  [some
  (Blk.box
  [V.i IntKind.i64 c, V.i IntKind.i64 r, V.i IntKind.i64 n, V.ref (3 : Nat) p a,
  V.ref (4 : Nat) (0 : Nat) b, V.ref (5 : Nat) (0 : Nat) e]),
  some (Blk.row false none (Cd.int IntKind.i64) t), some (Blk.row false none Cd.bool l),
  some (Blk.row false none (Cd.int IntKind.i64) w),
  some (Blk.row false none (Cd.int IntKind.i64) h),
  some (Blk.row false none (Cd.int IntKind.i64) d)]))))
  (some
  (Ex.normal,
  [V.ptr (0 : Nat) (0 : Nat), V.ref (1 : Nat) (0 : Nat) k, V.i IntKind.i64 dr, V.i IntKind.i64 hd,
  V.ref (2 : Nat) (0 : Nat) k2, V.i IntKind.i64 m,
  V.i IntKind.i64 (IntKind.i64.wrap (i + (1 : Int)))],
  [some
  (Blk.box
  [V.i IntKind.i64 c, V.i IntKind.i64 r, V.i IntKind.i64 n, V.ref (3 : Nat) p a,
  V.ref (4 : Nat) (0 : Nat) b, V.ref (5 : Nat) (0 : Nat) e]),
  some (Blk.row false none (Cd.int IntKind.i64) t), some (Blk.row false none Cd.bool l),
  some (Blk.row false none (Cd.int IntKind.i64) w),
  some (Blk.row false none (Cd.int IntKind.i64) h),
  some (Blk.row false none (Cd.int IntKind.i64) d)])))
  (some
  (Ex.normal,
  [V.ptr (0 : Nat) (0 : Nat), V.ref (1 : Nat) (0 : Nat) k, V.i IntKind.i64 dr, V.i IntKind.i64 hd,
  V.ref (2 : Nat) (0 : Nat) k2, V.i IntKind.i64 m,
  V.i IntKind.i64 (IntKind.i64.wrap (i + (1 : Int)))],
  [some
  (Blk.box
  [V.i IntKind.i64 c, V.i IntKind.i64 r, V.i IntKind.i64 n, V.ref (3 : Nat) p a,
  V.ref (4 : Nat) (0 : Nat) b, V.ref (5 : Nat) (0 : Nat) e]),
  some (Blk.row false none (Cd.int IntKind.i64) t), some (Blk.row false none Cd.bool l),
  some (Blk.row false none (Cd.int IntKind.i64) w),
  some (Blk.row false none (Cd.int IntKind.i64) h),
  some (Blk.row false none (Cd.int IntKind.i64) d)]))))
  (ifB (!z)
  (ifB (decide (z_1 ≥ (0 : Int)))
  (ifB (decide (z_1 ≤ hd)) (some (Ex.ret, [V.b false], []))
  (ifB (!decide (z_1 ∈ List.take b (List.drop (0 : Nat) h))) (some (Ex.ret, [V.b false], []))
  (some
  (Ex.normal,
  [V.ptr (0 : Nat) (0 : Nat), V.ref (1 : Nat) (0 : Nat) k, V.i IntKind.i64 dr,
  V.i IntKind.i64 z_1, V.ref (2 : Nat) (0 : Nat) k2, V.i IntKind.i64 m,
  V.i IntKind.i64 (IntKind.i64.wrap (i + (1 : Int)))],
  [some
  (Blk.box
  [V.i IntKind.i64 c, V.i IntKind.i64 r, V.i IntKind.i64 n, V.ref (3 : Nat) p a,
  V.ref (4 : Nat) (0 : Nat) b, V.ref (5 : Nat) (0 : Nat) e]),
  some (Blk.row false none (Cd.int IntKind.i64) t), some (Blk.row false none Cd.bool l),
  some (Blk.row false none (Cd.int IntKind.i64) w),
  some (Blk.row false none (Cd.int IntKind.i64) h),
  some (Blk.row false none (Cd.int IntKind.i64) d)]))))
  (some
  (Ex.normal,
  [V.ptr (0 : Nat) (0 : Nat), V.ref (1 : Nat) (0 : Nat) k, V.i IntKind.i64 dr, V.i IntKind.i64 hd,
  V.ref (2 : Nat) (0 : Nat) k2, V.i IntKind.i64 m,
  V.i IntKind.i64 (IntKind.i64.wrap (i + (1 : Int)))],
  [some
  (Blk.box
  [V.i IntKind.i64 c, V.i IntKind.i64 r, V.i IntKind.i64 n, V.ref (3 : Nat) p a,
  V.ref (4 : Nat) (0 : Nat) b, V.ref (5 : Nat) (0 : Nat) e]),
  some (Blk.row false none (Cd.int IntKind.i64) t), some (Blk.row false none Cd.bool l),
  some (Blk.row false none (Cd.int IntKind.i64) w),
  some (Blk.row false none (Cd.int IntKind.i64) h),
  some (Blk.row false none (Cd.int IntKind.i64) d)])))
  (some
  (Ex.normal,
  [V.ptr (0 : Nat) (0 : Nat), V.ref (1 : Nat) (0 : Nat) k, V.i IntKind.i64 dr, V.i IntKind.i64 hd,
  V.ref (2 : Nat) (0 : Nat) k2, V.i IntKind.i64 m,
  V.i IntKind.i64 (IntKind.i64.wrap (i + (1 : Int)))],
  [some
  (Blk.box
  [V.i IntKind.i64 c, V.i IntKind.i64 r, V.i IntKind.i64 n, V.ref (3 : Nat) p a,
  V.ref (4 : Nat) (0 : Nat) b, V.ref (5 : Nat) (0 : Nat) e]),
  some (Blk.row false none (Cd.int IntKind.i64) t), some (Blk.row false none Cd.bool l),
  some (Blk.row false none (Cd.int IntKind.i64) w), some (Blk.row false none (Cd.int IntKind.i64) h),
  some (Blk.row false none (Cd.int IntKind.i64) d)]))))))
  (some
  (Ex.exit (0 : Nat), [V.ptr (0 : Nat) (0 : Nat), V.i IntKind.i64 dr],
  [some
  (Blk.box
  [V.i IntKind.i64 c, V.i IntKind.i64 r, V.i IntKind.i64 n, V.ref (1 : Nat) p a, V.ref (2 : Nat) (0 : Nat) b,
  V.ref (3 : Nat) (0 : Nat) e]),
  some (Blk.row false none (Cd.int IntKind.i64) w), some (Blk.row false none (Cd.int IntKind.i64) h),
  some (Blk.row false none (Cd.int IntKind.i64) d)]))) : _) := by kernel_rfl
theorem fq2_round (x c r n : Int) (p a b e : Nat) (w h d : List Int) : roundK Try.prog (look [(32, .rd1 dplayqG), (33, .rd1 iplayG), (34, .rd1 splayG), (35, .rd1 sameIntsG), (36, .rd1 sameQG), (37, .rd1 goodQG), (38, .rd1 contIntG), (39, .rd1 whereG)]) (look [(15, fq1E), (30, fq2E)]) 0 (body Try.f6 1) fq2E ([.ptr 0 0, .i .i64 x], [some (.box [.i .i64 c, .i .i64 r, .i .i64 n, .ref 1 p a, .ref 2 0 b, .ref 3 0 e]), some (.row false none (.int .i64) w), some (.row false none (.int .i64) h), some (.row false none (.int .i64) d)]) =
  ((ifB (decide (x < n))
  (ifB
  (!((Que.mk c r n (List.take a (List.drop p w)) (List.take b (List.drop (0 : Nat) h))
  (List.take e (List.drop (0 : Nat) d))).whereO
  x).snd)
  (some (Ex.ret, [V.b false], []))
  (ifB
  (!(((Que.mk c r n (List.take a (List.drop p w)) (List.take b (List.drop (0 : Nat) h))
  (List.take e (List.drop (0 : Nat) d))).whereO
  x).fst ==
  (1 : Int)) ==
  decide (x ∈ List.take a (List.drop p w)))
  (some (Ex.ret, [V.b false], []))
  (ifB
  (!(((Que.mk c r n (List.take a (List.drop p w)) (List.take b (List.drop (0 : Nat) h))
  (List.take e (List.drop (0 : Nat) d))).whereO
  x).fst ==
  (2 : Int)) ==
  decide (x ∈ List.take b (List.drop (0 : Nat) h)))
  (some (Ex.ret, [V.b false], []))
  (ifB
  (!(((Que.mk c r n (List.take a (List.drop p w)) (List.take b (List.drop (0 : Nat) h))
  (List.take e (List.drop (0 : Nat) d))).whereO
  x).fst ==
  (3 : Int)) ==
  decide (x ∈ List.take e (List.drop (0 : Nat) d)))
  (some (Ex.ret, [V.b false], []))
  (some
  (Ex.normal, [V.ptr (0 : Nat) (0 : Nat), V.i IntKind.i64 (IntKind.i64.wrap (x + (1 : Int)))],
  [some
  (Blk.box
  [V.i IntKind.i64 c, V.i IntKind.i64 r, V.i IntKind.i64 n, V.ref (1 : Nat) p a,
  V.ref (2 : Nat) (0 : Nat) b, V.ref (3 : Nat) (0 : Nat) e]),
  some (Blk.row false none (Cd.int IntKind.i64) w), some (Blk.row false none (Cd.int IntKind.i64) h),
  some (Blk.row false none (Cd.int IntKind.i64) d)]))))))
  (some (Ex.exit (2 : Nat), [], []))) : _) := by kernel_rfl
theorem law_tree (l : List Int) : funK Try.prog (look [(32, .rd1 dplayqG), (33, .rd1 iplayG), (34, .rd1 splayG), (35, .rd1 sameIntsG), (36, .rd1 sameQG), (37, .rd1 goodQG), (38, .rd1 contIntG), (39, .rd1 whereG)]) (look [(15, fq1E), (30, fq2E)]) Try.f6 [.sl (.int .u8) l] [] =
  ((ifB (decide ((↑l.length : Int) > (1048576 : Int))) (some (V.b true, []))
  (ifT (decide ((Cur.mk l (0 : Int) (0 : Int)).good (0 : Int)))
  (ifB
  (!(playP (dqC l) (dqR l) (List.take (dqL l).length (List.drop (0 : Nat) (dqL l)))).snd.snd ==
  (playO (dqC l) (dqR l) (List.take (dqL l).length (List.drop (0 : Nat) (dqL l)))).snd.snd)
  (some (V.b false, []))
  (ifB
  (!decide
  (List.take (playP (dqC l) (dqR l) (List.take (dqL l).length (List.drop (0 : Nat) (dqL l)))).snd.fst.length
  (List.drop (0 : Nat)
  (playP (dqC l) (dqR l) (List.take (dqL l).length (List.drop (0 : Nat) (dqL l)))).snd.fst) =
  List.take (playO (dqC l) (dqR l) (List.take (dqL l).length (List.drop (0 : Nat) (dqL l)))).snd.fst.length
  (List.drop (0 : Nat)
  (playO (dqC l) (dqR l) (List.take (dqL l).length (List.drop (0 : Nat) (dqL l)))).snd.fst)))
  (some (V.b false, []))
  (ifB
  (!decide
  ((playP (dqC l) (dqR l) (List.take (dqL l).length (List.drop (0 : Nat) (dqL l)))).fst.fst.c =
  (playO (dqC l) (dqR l) (List.take (dqL l).length (List.drop (0 : Nat) (dqL l)))).fst.c ∧
  (playP (dqC l) (dqR l) (List.take (dqL l).length (List.drop (0 : Nat) (dqL l)))).fst.fst.r =
  (playO (dqC l) (dqR l) (List.take (dqL l).length (List.drop (0 : Nat) (dqL l)))).fst.r ∧
  (playP (dqC l) (dqR l) (List.take (dqL l).length (List.drop (0 : Nat) (dqL l)))).fst.fst.n =
  (playO (dqC l) (dqR l) (List.take (dqL l).length (List.drop (0 : Nat) (dqL l)))).fst.n ∧
  List.take
  (Que.view
  (playP (dqC l) (dqR l)
  (List.take (dqL l).length (List.drop (0 : Nat) (dqL l)))).fst).w.length
  (List.drop
  (playP (dqC l) (dqR l) (List.take (dqL l).length (List.drop (0 : Nat) (dqL l)))).fst.snd
  (playP (dqC l) (dqR l)
  (List.take (dqL l).length (List.drop (0 : Nat) (dqL l)))).fst.fst.w) =
  List.take
  (playO (dqC l) (dqR l) (List.take (dqL l).length (List.drop (0 : Nat) (dqL l)))).fst.w.length
  (List.drop (0 : Nat)
  (playO (dqC l) (dqR l) (List.take (dqL l).length (List.drop (0 : Nat) (dqL l)))).fst.w) ∧
  List.take
  (playP (dqC l) (dqR l)
  (List.take (dqL l).length (List.drop (0 : Nat) (dqL l)))).fst.fst.h.length
  (List.drop (0 : Nat)
  (playP (dqC l) (dqR l)
  (List.take (dqL l).length (List.drop (0 : Nat) (dqL l)))).fst.fst.h) =
  List.take
  (playO (dqC l) (dqR l)
  (List.take (dqL l).length (List.drop (0 : Nat) (dqL l)))).fst.h.length
  (List.drop (0 : Nat)
  (playO (dqC l) (dqR l) (List.take (dqL l).length (List.drop (0 : Nat) (dqL l)))).fst.h) ∧
  List.take
  (playP (dqC l) (dqR l)
  (List.take (dqL l).length (List.drop (0 : Nat) (dqL l)))).fst.fst.d.length
  (List.drop (0 : Nat)
  (playP (dqC l) (dqR l)
  (List.take (dqL l).length (List.drop (0 : Nat) (dqL l)))).fst.fst.d) =
  List.take
  (playO (dqC l) (dqR l)
  (List.take (dqL l).length (List.drop (0 : Nat) (dqL l)))).fst.d.length
  (List.drop (0 : Nat)
  (playO (dqC l) (dqR l) (List.take (dqL l).length (List.drop (0 : Nat) (dqL l)))).fst.d)))
  (some (V.b false, []))
  (ifB (!(playP (dqC l) (dqR l) (List.take (dqL l).length (List.drop (0 : Nat) (dqL l)))).snd.snd)
  (some
  (V.b
  ((↑(playP (dqC l) (dqR l) (List.take (dqL l).length (List.drop (0 : Nat) (dqL l)))).snd.fst.length :
  Int) ==
  (0 : Int)),
  []))
  (ifB
  (!goodQ (playP (dqC l) (dqR l) (List.take (dqL l).length (List.drop (0 : Nat) (dqL l)))).fst.fst.c
  (playP (dqC l) (dqR l) (List.take (dqL l).length (List.drop (0 : Nat) (dqL l)))).fst.fst.r
  (playP (dqC l) (dqR l) (List.take (dqL l).length (List.drop (0 : Nat) (dqL l)))).fst.fst.n
  (List.take
  (Que.view
  (playP (dqC l) (dqR l) (List.take (dqL l).length (List.drop (0 : Nat) (dqL l)))).fst).w.length
  (List.drop (playP (dqC l) (dqR l) (List.take (dqL l).length (List.drop (0 : Nat) (dqL l)))).fst.snd
  (playP (dqC l) (dqR l) (List.take (dqL l).length (List.drop (0 : Nat) (dqL l)))).fst.fst.w))
  (List.take
  (playP (dqC l) (dqR l) (List.take (dqL l).length (List.drop (0 : Nat) (dqL l)))).fst.fst.h.length
  (List.drop (0 : Nat)
  (playP (dqC l) (dqR l) (List.take (dqL l).length (List.drop (0 : Nat) (dqL l)))).fst.fst.h))
  (List.take
  (playP (dqC l) (dqR l) (List.take (dqL l).length (List.drop (0 : Nat) (dqL l)))).fst.fst.d.length
  (List.drop (0 : Nat)
  (playP (dqC l) (dqR l) (List.take (dqL l).length (List.drop (0 : Nat) (dqL l)))).fst.fst.d)))
  (some (V.b false, []))
  (ifB
  (IntKind.i64.wrap
  (IntKind.i64.wrap
  ((↑(Que.view
  (playP (dqC l) (dqR l)
  (List.take (dqL l).length (List.drop (0 : Nat) (dqL l)))).fst).w.length :
  Int) +
  (↑(playP (dqC l) (dqR l)
  (List.take (dqL l).length (List.drop (0 : Nat) (dqL l)))).fst.fst.h.length :
  Int)) +
  (↑(playP (dqC l) (dqR l)
  (List.take (dqL l).length (List.drop (0 : Nat) (dqL l)))).fst.fst.d.length :
  Int)) !=
  (playP (dqC l) (dqR l) (List.take (dqL l).length (List.drop (0 : Nat) (dqL l)))).fst.fst.n)
  (some (V.b false, []))
  (ifT
  (decide
  ((0 : Int) ≤ (0 : Int) ∧
  (0 : Nat) ≤ (dqL l).length ∧
  (playP (dqC l) (dqR l)
  (List.take (dqL l).length (List.drop (0 : Nat) (dqL l)))).snd.fst.length =
  (playP (dqC l) (dqR l)
  (List.take (dqL l).length (List.drop (0 : Nat) (dqL l)))).snd.fst.length ∧
  (dqL l).length = (dqL l).length ∧
  (↑(dqL l).length : Int) = (↑(dqL l).length : Int) ∧
  (playP (dqC l) (dqR l)
  (List.take (dqL l).length (List.drop (0 : Nat) (dqL l)))).snd.fst.length =
  (dqL l).length ∧
  (dqL l).length ≤ (1000 : Nat) ∧
  (0 : Int) ≤ (0 : Int) ∧
  (0 : Int) + (↑(dqL l).length : Int) ≤ (10000 : Int) ∧
  (playP (dqC l) (dqR l)
  (List.take (dqL l).length
  (List.drop (0 : Nat) (dqL l)))).fst.fst.h.length =
  (playP (dqC l) (dqR l)
  (List.take (dqL l).length
  (List.drop (0 : Nat) (dqL l)))).fst.fst.h.length ∧
  (playP (dqC l) (dqR l)
  (List.take (dqL l).length
  (List.drop (0 : Nat) (dqL l)))).fst.fst.d.length =
  (playP (dqC l) (dqR l)
  (List.take (dqL l).length
  (List.drop (0 : Nat) (dqL l)))).fst.fst.d.length) &&
  (qchk (playP (dqC l) (dqR l) (List.take (dqL l).length (List.drop (0 : Nat) (dqL l)))).fst.fst.h
  (playP (dqC l) (dqR l) (List.take (dqL l).length (List.drop (0 : Nat) (dqL l)))).fst.fst.d
  (List.drop (0 : Nat) (dqL l))
  (List.drop (0 : Nat)
  (playP (dqC l) (dqR l) (List.take (dqL l).length (List.drop (0 : Nat) (dqL l)))).snd.fst)
  (0 : Int) (-1 : Int)).isSome)
  (ifB
  ((qchk (playP (dqC l) (dqR l) (List.take (dqL l).length (List.drop (0 : Nat) (dqL l)))).fst.fst.h
  (playP (dqC l) (dqR l) (List.take (dqL l).length (List.drop (0 : Nat) (dqL l)))).fst.fst.d
  (List.drop (0 : Nat) (dqL l))
  (List.drop (0 : Nat)
  (playP (dqC l) (dqR l) (List.take (dqL l).length (List.drop (0 : Nat) (dqL l)))).snd.fst)
  (0 : Int) (-1 : Int)).getD
  (0 : Int) !=
  (↑(playP (dqC l) (dqR l)
  (List.take (dqL l).length (List.drop (0 : Nat) (dqL l)))).fst.fst.d.length :
  Int))
  (some (V.b false, []))
  (ifT
  (decide
  ((0 : Int) ≤ (0 : Int) ∧
  (0 : Int) ≤
  (playP (dqC l) (dqR l)
  (List.take (dqL l).length (List.drop (0 : Nat) (dqL l)))).fst.fst.n ∧
  (playP (dqC l) (dqR l) (List.take (dqL l).length (List.drop (0 : Nat) (dqL l)))).fst.snd +
  (Que.view
  (playP (dqC l) (dqR l)
  (List.take (dqL l).length (List.drop (0 : Nat) (dqL l)))).fst).w.length =
  (playP (dqC l) (dqR l)
  (List.take (dqL l).length (List.drop (0 : Nat) (dqL l)))).fst.fst.w.length ∧
  (playP (dqC l) (dqR l)
  (List.take (dqL l).length
  (List.drop (0 : Nat) (dqL l)))).fst.fst.h.length =
  (playP (dqC l) (dqR l)
  (List.take (dqL l).length
  (List.drop (0 : Nat) (dqL l)))).fst.fst.h.length ∧
  (playP (dqC l) (dqR l)
  (List.take (dqL l).length
  (List.drop (0 : Nat) (dqL l)))).fst.fst.d.length =
  (playP (dqC l) (dqR l)
  (List.take (dqL l).length
  (List.drop (0 : Nat) (dqL l)))).fst.fst.d.length) &&
  goodQ (playP (dqC l) (dqR l) (List.take (dqL l).length (List.drop (0 : Nat) (dqL l)))).fst.fst.c
  (playP (dqC l) (dqR l) (List.take (dqL l).length (List.drop (0 : Nat) (dqL l)))).fst.fst.r
  (playP (dqC l) (dqR l) (List.take (dqL l).length (List.drop (0 : Nat) (dqL l)))).fst.fst.n
  (List.drop
  (playP (dqC l) (dqR l) (List.take (dqL l).length (List.drop (0 : Nat) (dqL l)))).fst.snd
  (playP (dqC l) (dqR l) (List.take (dqL l).length (List.drop (0 : Nat) (dqL l)))).fst.fst.w)
  (playP (dqC l) (dqR l) (List.take (dqL l).length (List.drop (0 : Nat) (dqL l)))).fst.fst.h
  (playP (dqC l) (dqR l) (List.take (dqL l).length (List.drop (0 : Nat) (dqL l)))).fst.fst.d)
  (some (V.b true, []))))))))))))) : _) := by kernel_rfl
theorem fq1_loop {c r n : Int} {p a b e : Nat} {t : List Int} {l : List Bool} {w h d : List Int} (hb : b = h.length) (he : e = d.length) (ht : t.length = l.length) (hl : l.length ≤ 1000) : ∀ (j i : Nat) (dr hd v : Int), i + j = l.length → 0 ≤ dr → dr + l.length ≤ 10000 + i → qchk h d (l.drop i) (t.drop i) dr hd = some v →
    Runs Try.prog (look [(32, .rd1 dplayqG), (33, .rd1 iplayG), (34, .rd1 splayG), (35, .rd1 sameIntsG), (36, .rd1 sameQG), (37, .rd1 goodQG), (38, .rd1 contIntG), (39, .rd1 whereG)]) (look [(15, fq1E), (30, fq2E)]) 0 (body Try.f6 0) fq1E ([.ptr 0 0, .ref 1 0 t.length, .i .i64 dr, .i .i64 hd, .ref 2 0 l.length, .i .i64 (↑l.length : Int), .i .i64 (i : Int)], [some (.box [.i .i64 c, .i .i64 r, .i .i64 n, .ref 3 p a, .ref 4 0 b, .ref 5 0 e]), some (.row false none (.int .i64) t), some (.row false none .bool l), some (.row false none (.int .i64) w), some (.row false none (.int .i64) h), some (.row false none (.int .i64) d)]) (.exit 0) ([.ptr 0 0, .i .i64 v], [some (.box [.i .i64 c, .i .i64 r, .i .i64 n, .ref 1 p a, .ref 2 0 b, .ref 3 0 e]), some (.row false none (.int .i64) w), some (.row false none (.int .i64) h), some (.row false none (.int .i64) d)])
  | 0, i, dr, hd, v, hi, h0, h1, hq => by
    have hr := fq1_round t.length dr hd l.length l.length i c r n p a b e t l w h d
    rw [ifB_false (decide_eq_false (by omega))] at hr
    rw [List.drop_eq_nil_of_le (by omega)] at hq
    cases hq
    exact .stop _ _ _ hr (by simp)
  | j + 1, i, dr, hd, v, hi, h0, h1, hq => by
    have hil : i < l.length := by omega
    have hit : i < t.length := by omega
    have hr := fq1_round t.length dr hd l.length l.length i c r n p a b e t l w h d
    rw [ifB_true (decide_eq_true (by omega)), ifT_true (by simp only [Bool.and_eq_true, decide_eq_true_eq]; omega)] at hr
    subst hb he
    simp only [List.drop_zero, List.take_length, Nat.zero_add, Int.toNat_natCast, List.getElem?_eq_getElem hil, List.getElem?_eq_getElem hit, ifSome_s, wrap_succ (n := i) (by unfold maxI; omega), wrap_id (n := dr + 1) (by omega) (by omega)] at hr
    rw [ifT_true (by simp only [Bool.and_eq_true, decide_eq_true_eq]; omega)] at hr
    rw [List.drop_eq_getElem_cons hil, List.drop_eq_getElem_cons hit] at hq
    have ih := fq1_loop (c := c) (r := r) (n := n) (p := p) (a := a) (w := w) (h := h) (d := d) rfl rfl ht hl j (i + 1)
    unfold qchk at hq
    cases hz : l[i] with
    | true =>
      rw [hz] at hr hq
      rw [ifB_true rfl] at hr
      by_cases hx : 0 ≤ t[i]
      · rw [if_pos ⟨rfl, hx⟩] at hq
        split at hq
        · rename_i hm
          rw [ifB_true (decide_eq_true hx), ifB_false (by simp [hm]), ifB_false (by rfl)] at hr
          exact .step _ _ _ _ hr (ih (dr + 1) hd v (by omega) (by omega) (by omega) hq)
        · cases hq
      · rw [if_neg (fun hh => hx hh.2), if_neg (fun hh => hx hh.2)] at hq
        rw [ifB_false (decide_eq_false hx), ifB_false (by rfl)] at hr
        exact .step _ _ _ _ hr (ih dr hd v (by omega) (by omega) (by omega) hq)
    | false =>
      rw [hz] at hr hq
      rw [ifB_false rfl, ifB_true (by rfl)] at hr
      rw [if_neg (fun hh => by cases hh.1)] at hq
      by_cases hx : 0 ≤ t[i]
      · rw [if_pos ⟨rfl, hx⟩] at hq
        split at hq
        · rename_i hm
          rw [ifB_true (decide_eq_true hx), ifB_false (decide_eq_false (by omega)), ifB_false (by simp [hm.2])] at hr
          exact .step _ _ _ _ hr (ih dr t[i] v (by omega) (by omega) (by omega) hq)
        · cases hq
      · rw [if_neg (fun hh => hx hh.2)] at hq
        rw [ifB_false (decide_eq_false hx)] at hr
        exact .step _ _ _ _ hr (ih dr hd v (by omega) (by omega) (by omega) hq)
theorem fq2_loop {c r n : Int} {p a b e : Nat} {w h d : List Int} (ha : p + a = w.length) (hb : b = h.length) (he : e = d.length) (hg : goodQ c r n (w.drop p) h d = true) : ∀ (j : Nat) (x : Int), 0 ≤ x → x + j = n →
    Runs Try.prog (look [(32, .rd1 dplayqG), (33, .rd1 iplayG), (34, .rd1 splayG), (35, .rd1 sameIntsG), (36, .rd1 sameQG), (37, .rd1 goodQG), (38, .rd1 contIntG), (39, .rd1 whereG)]) (look [(15, fq1E), (30, fq2E)]) 0 (body Try.f6 1) fq2E ([.ptr 0 0, .i .i64 x], [some (.box [.i .i64 c, .i .i64 r, .i .i64 n, .ref 1 p a, .ref 2 0 b, .ref 3 0 e]), some (.row false none (.int .i64) w), some (.row false none (.int .i64) h), some (.row false none (.int .i64) d)]) (.exit 2) ([], [])
  | 0, x, h0, hx => by
    have hr := fq2_round x c r n p a b e w h d
    rw [ifB_false (decide_eq_false (by omega))] at hr
    exact .stop _ _ _ hr (by simp)
  | j + 1, x, h0, hx => by
    have hr := fq2_round x c r n p a b e w h d
    have f : (Que.mk c r n (w.drop p) h d).Fine := Que.fine hg
    have f3 := f.n
    dsimp only at f3
    have e1 : List.take a (List.drop p w) = List.drop p w := List.take_of_length_le (by rw [List.length_drop]; omega)
    subst hb he
    simp only [e1, List.drop_zero, List.take_length, wrap_id (n := x + 1) (by omega) (by omega)] at hr
    have hw : (Que.mk c r n (w.drop p) h d).whereO x = (if x ∈ w.drop p then 1 else if x ∈ h then 2 else 3, true) := by
      unfold Que.whereO
      rw [if_pos ⟨hg, h0, by dsimp only; omega⟩]
    -- it is in one of them
    have hall : x ∈ w.drop p ∨ x ∈ h ∨ x ∈ d := by
      have hfull := Que.Fine.full f (x := x) h0 (by dsimp only; omega)
      simpa using hfull
    rw [ifB_true (decide_eq_true (by omega)), hw, ifB_false (by rfl)] at hr
    have go : roundK Try.prog (look [(32, .rd1 dplayqG), (33, .rd1 iplayG), (34, .rd1 splayG), (35, .rd1 sameIntsG), (36, .rd1 sameQG), (37, .rd1 goodQG), (38, .rd1 contIntG), (39, .rd1 whereG)]) (look [(15, fq1E), (30, fq2E)]) 0 (body Try.f6 1) fq2E ([.ptr 0 0, .i .i64 x], [some (.box [.i .i64 c, .i .i64 r, .i .i64 n, .ref 1 p a, .ref 2 0 h.length, .ref 3 0 d.length]), some (.row false none (.int .i64) w), some (.row false none (.int .i64) h), some (.row false none (.int .i64) d)]) = some (.normal, ([.ptr 0 0, .i .i64 (x + 1)], [some (.box [.i .i64 c, .i .i64 r, .i .i64 n, .ref 1 p a, .ref 2 0 h.length, .ref 3 0 d.length]), some (.row false none (.int .i64) w), some (.row false none (.int .i64) h), some (.row false none (.int .i64) d)])) := by
      refine hr.trans ?_
      by_cases q1 : x ∈ w.drop p
      · have q2 : x ∉ h := f.no_h (z := x) q1
        have q3 : x ∉ d := f.no_d (z := x) q1
        simp [q1, q2, q3]
      · by_cases q2 : x ∈ h
        · have q3 : x ∉ d := fun hc => (List.nodup_append.1 f.nd).2.2 x (by simp [q2]) x hc rfl
          simp [q1, q2, q3]
        · have q3 : x ∈ d := by
            rcases hall with h | h | h
            · exact (q1 h).elim
            · exact (q2 h).elim
            · exact h
          simp [q1, q2, q3]
    exact .step _ _ _ _ go (fq2_loop ha rfl rfl hg j (x + 1) (by omega) (by omega))
theorem law_loops : LoopsOk Try.prog (look [(32, .rd1 dplayqG), (33, .rd1 iplayG), (34, .rd1 splayG), (35, .rd1 sameIntsG), (36, .rd1 sameQG), (37, .rd1 goodQG), (38, .rd1 contIntG), (39, .rd1 whereG)]) (look [(15, fq1E), (30, fq2E)]) 0 (Try.f6.body.getD .skip) := by
  refine LoopsI.loops (cs := [body Try.f6 0, body Try.f6 1]) (.cons (ent := fq1E) (by kernel_rfl) (fun q e q' hq => ?_) (.cons (ent := fq2E) (by kernel_rfl) (fun q e q' hq => ?_) .nil)) (by kernel_rfl)
  · unfold fq1E at hq
    dsimp only at hq
    split at hq
    · rename_i k dr hd k2 m i c r n p a b e t l w h d
      obtain ⟨hc, hx⟩ := need_some hq
      clear hq
      rw [Bool.and_eq_true] at hc
      obtain ⟨hc, hs⟩ := hc
      obtain ⟨h0, h1, h2, h3, h4, h5, h6, h7, h8, h9, h10⟩ := of_decide_eq_true hc
      subst h2 h3 h4
      obtain ⟨i, rfl⟩ := Int.eq_ofNat_of_zero_le h0
      rw [Int.toNat_natCast] at h1 hs hx
      obtain ⟨v, hv⟩ := Option.isSome_iff_exists.1 hs
      rw [hv] at hx
      cases leaf_some hx
      exact fq1_loop h9 h10 h5 h6 (l.length - i) i dr hd v (by omega) h7 h8 hv
    · cases hq
  · unfold fq2E at hq
    dsimp only at hq
    split at hq
    · rename_i x c r n p a b e w h d
      obtain ⟨hc, hx⟩ := need_some hq
      clear hq
      rw [Bool.and_eq_true] at hc
      obtain ⟨hc, hg⟩ := hc
      obtain ⟨h0, h1, h2, h3, h4⟩ := of_decide_eq_true hc
      cases leaf_some hx
      exact fq2_loop h2 h3 h4 hg (n - x).toNat x h0 (by omega)
    · cases hq
theorem law_knows : Knows Try.prog (look [(32, .rd1 dplayqG), (33, .rd1 iplayG), (34, .rd1 splayG), (35, .rd1 sameIntsG), (36, .rd1 sameQG), (37, .rd1 goodQG), (38, .rd1 contIntG), (39, .rd1 whereG)]) := KnowsL.knows (KnowsL.cons (enters_fn Try.func32 (by kernel_rfl) (by kernel_rfl)) dplayq (KnowsL.cons (enters_fn Try.func33 (by kernel_rfl) (by kernel_rfl)) iplay (KnowsL.cons (enters_fn Try.func34 (by kernel_rfl) (by kernel_rfl)) splay (KnowsL.cons (enters_fn Try.func35 (by kernel_rfl) (by kernel_rfl)) sameInts (KnowsL.cons (enters_fn Try.func36 (by kernel_rfl) (by kernel_rfl)) sameQ (KnowsL.cons (enters_fn Try.func37 (by kernel_rfl) (by kernel_rfl)) implGQ (KnowsL.cons (enters_fn Try.func38 (by kernel_rfl) (by kernel_rfl)) lawHas (KnowsL.cons (enters_fn Try.func39 (by kernel_rfl) (by kernel_rfl)) implWhere KnowsL.nil))))))))
end Go.Proofs.Ytjghbihlgfjebaa.Den
