/- What functions of the program do, by the machine: Step3. -/
import Derived.Test.YtjghbihlgfjebaaDStep2
import Derived.KernelRfl
import Derived.Test.YtjghbihlgfjebaaRows
namespace Go.Proofs.Ytjghbihlgfjebaa.Den
open Go.Proofs
set_option maxRecDepth 100000
def oStepG : List V → List Blk → Br (V × List (Option Blk))
  | [.ptr 0 0, .agg [.i .i64 x0, .i .i64 x1, .s x2]], [.box [.i .i64 s0, .ref 1 0 m1, .i .i64 s2, .ref 2 0 m3, .ref 3 0 m4, .ref 4 0 m5], .row false n1 .str s1, .row false n3 .str s3, .row false n4 (.pair (.int .i64) (.pair (.int .i64) (.pair .str .unit))) s4, .row false n5 (.pair (.int .i64) (.pair (.int .i64) .unit)) s5] => (Br.br (x0 == (1 : Int))
  (Br.br (decide ((↑x2.length : Int) > (20 : Int)))
  (Br.leaf
  (V.b false,
  [some
  (Blk.box
  [V.i IntKind.i64 s0, V.ref (1 : Nat) (0 : Nat) m1, V.i IntKind.i64 s2, V.ref (2 : Nat) (0 : Nat) m3,
  V.ref (3 : Nat) (0 : Nat) m4, V.ref (4 : Nat) (0 : Nat) m5]),
  some (Blk.row false n1 Cd.str s1), some (Blk.row false n3 Cd.str s3),
  some (Blk.row false n4 ((Cd.int IntKind.i64).pair ((Cd.int IntKind.i64).pair (Cd.str.pair Cd.unit))) s4),
  some (Blk.row false n5 ((Cd.int IntKind.i64).pair ((Cd.int IntKind.i64).pair Cd.unit)) s5)]))
  (Br.br ((↑m1 : Int) == (30 : Int))
  (Br.leaf
  (V.b false,
  [some
  (Blk.box
  [V.i IntKind.i64 s0, V.ref (1 : Nat) (0 : Nat) m1, V.i IntKind.i64 s2, V.ref (2 : Nat) (0 : Nat) m3,
  V.ref (3 : Nat) (0 : Nat) m4, V.ref (4 : Nat) (0 : Nat) m5]),
  some (Blk.row false n1 Cd.str s1), some (Blk.row false n3 Cd.str s3),
  some (Blk.row false n4 ((Cd.int IntKind.i64).pair ((Cd.int IntKind.i64).pair (Cd.str.pair Cd.unit))) s4),
  some (Blk.row false n5 ((Cd.int IntKind.i64).pair ((Cd.int IntKind.i64).pair Cd.unit)) s5)]))
  (Br.need (decide ((m1 + (1 : Nat)) * (16 : Nat) ≤ (140737488355328 : Nat)) && decide (m1 + (1 : Nat) ≤ maxI))
  (Br.leaf
  (V.b true,
  [some
  (Blk.box
  [V.i IntKind.i64 s0, V.ref (5 : Nat) (0 : Nat) (m1 + (1 : Nat)), V.i IntKind.i64 s2,
  V.ref (2 : Nat) (0 : Nat) m3, V.ref (3 : Nat) (0 : Nat) m4, V.ref (4 : Nat) (0 : Nat) m5]),
  none, some (Blk.row false n3 Cd.str s3),
  some (Blk.row false n4 ((Cd.int IntKind.i64).pair ((Cd.int IntKind.i64).pair (Cd.str.pair Cd.unit))) s4),
  some (Blk.row false n5 ((Cd.int IntKind.i64).pair ((Cd.int IntKind.i64).pair Cd.unit)) s5),
  some
  (Blk.row false (some false) Cd.str
  (List.take m1 (List.drop (0 : Nat) s1) ++ x2 :: nilT Cd.str.den))])))))
  (Br.br (x0 == (2 : Int))
  (Br.br
  (!decide
  (s2 ≤ x1 ∧
  x1 ≤
  IntKind.i64.wrap
  ((if (↑(List.take m1 (List.drop (0 : Nat) s1)).length : Int) < IntKind.i64.wrap (s2 + (4 : Int)) then
  (↑(List.take m1 (List.drop (0 : Nat) s1)).length : Int)
  else IntKind.i64.wrap (s2 + (4 : Int))) -
  (1 : Int))))
  (Br.leaf
  (V.b false,
  [some
  (Blk.box
  [V.i IntKind.i64 s0, V.ref (1 : Nat) (0 : Nat) m1, V.i IntKind.i64 s2, V.ref (2 : Nat) (0 : Nat) m3,
  V.ref (3 : Nat) (0 : Nat) m4, V.ref (4 : Nat) (0 : Nat) m5]),
  some (Blk.row false n1 Cd.str s1), some (Blk.row false n3 Cd.str s3),
  some (Blk.row false n4 ((Cd.int IntKind.i64).pair ((Cd.int IntKind.i64).pair (Cd.str.pair Cd.unit))) s4),
  some (Blk.row false n5 ((Cd.int IntKind.i64).pair ((Cd.int IntKind.i64).pair Cd.unit)) s5)]))
  (Br.br ((↑m4 : Int) == (12 : Int))
  (Br.leaf
  (V.b false,
  [some
  (Blk.box
  [V.i IntKind.i64 s0, V.ref (1 : Nat) (0 : Nat) m1, V.i IntKind.i64 s2, V.ref (2 : Nat) (0 : Nat) m3,
  V.ref (3 : Nat) (0 : Nat) m4, V.ref (4 : Nat) (0 : Nat) m5]),
  some (Blk.row false n1 Cd.str s1), some (Blk.row false n3 Cd.str s3),
  some (Blk.row false n4 ((Cd.int IntKind.i64).pair ((Cd.int IntKind.i64).pair (Cd.str.pair Cd.unit))) s4),
  some (Blk.row false n5 ((Cd.int IntKind.i64).pair ((Cd.int IntKind.i64).pair Cd.unit)) s5)]))
  (Br.need (decide ((0 : Int) ≤ x1) && decide (x1 < (↑m1 : Int)))
  (Br.opt Cd.str s1[(0 : Nat) + x1.toNat]? fun z =>
  Br.need (decide ((m4 + (1 : Nat)) * (32 : Nat) ≤ (140737488355328 : Nat)) && decide (m4 + (1 : Nat) ≤ maxI))
  (Br.leaf
  (V.b true,
  [some
  (Blk.box
  [V.i IntKind.i64 s0, V.ref (1 : Nat) (0 : Nat) m1, V.i IntKind.i64 s2,
  V.ref (2 : Nat) (0 : Nat) m3, V.ref (5 : Nat) (0 : Nat) (m4 + (1 : Nat)),
  V.ref (4 : Nat) (0 : Nat) m5]),
  some (Blk.row false n1 Cd.str s1), some (Blk.row false n3 Cd.str s3), none,
  some (Blk.row false n5 ((Cd.int IntKind.i64).pair ((Cd.int IntKind.i64).pair Cd.unit)) s5),
  some
  (Blk.row false (some false)
  ((Cd.int IntKind.i64).pair ((Cd.int IntKind.i64).pair (Cd.str.pair Cd.unit)))
  (List.take m4 (List.drop (0 : Nat) s4) ++
  (s0, x1, z, ()) ::
  nilT
  ((Cd.int IntKind.i64).pair ((Cd.int IntKind.i64).pair (Cd.str.pair Cd.unit))).den))]))))))
  (Br.br (x0 == (3 : Int))
  (Br.br (decide ((0 : Int) ≤ x1 ∧ x1 ≤ IntKind.i64.wrap ((↑m4 : Int) - (1 : Int))))
  (Br.need (decide ((0 : Int) ≤ x1) && decide (x1 < (↑m4 : Int)))
  (Br.opt ((Cd.int IntKind.i64).pair ((Cd.int IntKind.i64).pair (Cd.str.pair Cd.unit)))
  s4[(0 : Nat) + x1.toNat]? fun z =>
  Br.need
  (decide
  ((0 : Int) ≤ x1 ∧
  IntKind.i64.wrap (x1 + (1 : Int)) = x1 + (1 : Int) ∧
  IntKind.i64.wrap (x1 + (1 : Int)) ≤ (↑m4 : Int) ∧ (0 : Nat) + m4 ≤ s4.length ∧ m4 ≤ maxI))
  (Br.br (z.fst != s0)
  (Br.leaf
  (V.b (decide ((0 : Int) ≤ x1 ∧ x1 ≤ IntKind.i64.wrap ((↑m4 : Int) - (1 : Int)))),
  [some
  (Blk.box
  [V.i IntKind.i64 s0, V.ref (1 : Nat) (0 : Nat) m1, V.i IntKind.i64 s2,
  V.ref (2 : Nat) (0 : Nat) m3, V.ref (5 : Nat) (0 : Nat) (m4 - (1 : Nat)),
  V.ref (4 : Nat) (0 : Nat) m5]),
  some (Blk.row false n1 Cd.str s1), some (Blk.row false n3 Cd.str s3), none,
  some (Blk.row false n5 ((Cd.int IntKind.i64).pair ((Cd.int IntKind.i64).pair Cd.unit)) s5),
  some
  (Blk.row false none
  ((Cd.int IntKind.i64).pair ((Cd.int IntKind.i64).pair (Cd.str.pair Cd.unit)))
  ((List.take m4 (List.drop (0 : Nat) s4)).eraseIdx x1.toNat))]))
  (Br.br (z.snd.fst == (↑m3 : Int))
  (Br.need
  (decide ((m3 + (1 : Nat)) * (16 : Nat) ≤ (140737488355328 : Nat)) && decide (m3 + (1 : Nat) ≤ maxI))
  (Br.br (decide ((↑m5 : Int) < (12 : Int)))
  (Br.need
  (decide ((m5 + (1 : Nat)) * (16 : Nat) ≤ (140737488355328 : Nat)) &&
  decide (m5 + (1 : Nat) ≤ maxI))
  (Br.leaf
  (V.b (decide ((0 : Int) ≤ x1 ∧ x1 ≤ IntKind.i64.wrap ((↑m4 : Int) - (1 : Int)))),
  [some
  (Blk.box
  [V.i IntKind.i64 s0, V.ref (1 : Nat) (0 : Nat) m1, V.i IntKind.i64 s2,
  V.ref (5 : Nat) (0 : Nat) (m3 + (1 : Nat)),
  V.ref (6 : Nat) (0 : Nat) (m4 - (1 : Nat)),
  V.ref (7 : Nat) (0 : Nat) (m5 + (1 : Nat))]),
  some (Blk.row false n1 Cd.str s1), none, none, none,
  some
  (Blk.row false (some false) Cd.str
  (List.take m3 (List.drop (0 : Nat) s3) ++ z.snd.snd.fst :: nilT Cd.str.den)),
  some
  (Blk.row false none
  ((Cd.int IntKind.i64).pair ((Cd.int IntKind.i64).pair (Cd.str.pair Cd.unit)))
  ((List.take m4 (List.drop (0 : Nat) s4)).eraseIdx x1.toNat)),
  some
  (Blk.row false (some false)
  ((Cd.int IntKind.i64).pair ((Cd.int IntKind.i64).pair Cd.unit))
  (List.take m5 (List.drop (0 : Nat) s5) ++
  (s0, (↑(m3 + (1 : Nat)) : Int), ()) ::
  nilT ((Cd.int IntKind.i64).pair ((Cd.int IntKind.i64).pair Cd.unit)).den))])))
  (Br.leaf
  (V.b (decide ((0 : Int) ≤ x1 ∧ x1 ≤ IntKind.i64.wrap ((↑m4 : Int) - (1 : Int)))),
  [some
  (Blk.box
  [V.i IntKind.i64 s0, V.ref (1 : Nat) (0 : Nat) m1, V.i IntKind.i64 s2,
  V.ref (5 : Nat) (0 : Nat) (m3 + (1 : Nat)),
  V.ref (6 : Nat) (0 : Nat) (m4 - (1 : Nat)), V.ref (4 : Nat) (0 : Nat) m5]),
  some (Blk.row false n1 Cd.str s1), none, none,
  some (Blk.row false n5 ((Cd.int IntKind.i64).pair ((Cd.int IntKind.i64).pair Cd.unit)) s5),
  some
  (Blk.row false (some false) Cd.str
  (List.take m3 (List.drop (0 : Nat) s3) ++ z.snd.snd.fst :: nilT Cd.str.den)),
  some
  (Blk.row false none
  ((Cd.int IntKind.i64).pair ((Cd.int IntKind.i64).pair (Cd.str.pair Cd.unit)))
  ((List.take m4 (List.drop (0 : Nat) s4)).eraseIdx x1.toNat))]))))
  (Br.br (decide ((↑m5 : Int) < (12 : Int)))
  (Br.need
  (decide ((m5 + (1 : Nat)) * (16 : Nat) ≤ (140737488355328 : Nat)) &&
  decide (m5 + (1 : Nat) ≤ maxI))
  (Br.leaf
  (V.b (decide ((0 : Int) ≤ x1 ∧ x1 ≤ IntKind.i64.wrap ((↑m4 : Int) - (1 : Int)))),
  [some
  (Blk.box
  [V.i IntKind.i64 s0, V.ref (1 : Nat) (0 : Nat) m1, V.i IntKind.i64 s2,
  V.ref (2 : Nat) (0 : Nat) m3, V.ref (5 : Nat) (0 : Nat) (m4 - (1 : Nat)),
  V.ref (6 : Nat) (0 : Nat) (m5 + (1 : Nat))]),
  some (Blk.row false n1 Cd.str s1), some (Blk.row false n3 Cd.str s3), none, none,
  some
  (Blk.row false none
  ((Cd.int IntKind.i64).pair ((Cd.int IntKind.i64).pair (Cd.str.pair Cd.unit)))
  ((List.take m4 (List.drop (0 : Nat) s4)).eraseIdx x1.toNat)),
  some
  (Blk.row false (some false)
  ((Cd.int IntKind.i64).pair ((Cd.int IntKind.i64).pair Cd.unit))
  (List.take m5 (List.drop (0 : Nat) s5) ++
  (s0, (↑m3 : Int), ()) ::
  nilT ((Cd.int IntKind.i64).pair ((Cd.int IntKind.i64).pair Cd.unit)).den))])))
  (Br.leaf
  (V.b (decide ((0 : Int) ≤ x1 ∧ x1 ≤ IntKind.i64.wrap ((↑m4 : Int) - (1 : Int)))),
  [some
  (Blk.box
  [V.i IntKind.i64 s0, V.ref (1 : Nat) (0 : Nat) m1, V.i IntKind.i64 s2,
  V.ref (2 : Nat) (0 : Nat) m3, V.ref (5 : Nat) (0 : Nat) (m4 - (1 : Nat)),
  V.ref (4 : Nat) (0 : Nat) m5]),
  some (Blk.row false n1 Cd.str s1), some (Blk.row false n3 Cd.str s3), none,
  some (Blk.row false n5 ((Cd.int IntKind.i64).pair ((Cd.int IntKind.i64).pair Cd.unit)) s5),
  some
  (Blk.row false none
  ((Cd.int IntKind.i64).pair ((Cd.int IntKind.i64).pair (Cd.str.pair Cd.unit)))
  ((List.take m4 (List.drop (0 : Nat) s4)).eraseIdx x1.toNat))])))))))
  (Br.leaf
  (V.b (decide ((0 : Int) ≤ x1 ∧ x1 ≤ IntKind.i64.wrap ((↑m4 : Int) - (1 : Int)))),
  [some
  (Blk.box
  [V.i IntKind.i64 s0, V.ref (1 : Nat) (0 : Nat) m1, V.i IntKind.i64 s2, V.ref (2 : Nat) (0 : Nat) m3,
  V.ref (3 : Nat) (0 : Nat) m4, V.ref (4 : Nat) (0 : Nat) m5]),
  some (Blk.row false n1 Cd.str s1), some (Blk.row false n3 Cd.str s3),
  some (Blk.row false n4 ((Cd.int IntKind.i64).pair ((Cd.int IntKind.i64).pair (Cd.str.pair Cd.unit))) s4),
  some (Blk.row false n5 ((Cd.int IntKind.i64).pair ((Cd.int IntKind.i64).pair Cd.unit)) s5)])))
  (Br.br (x0 == (4 : Int))
  (Br.br (decide ((0 : Int) ≤ x1 ∧ x1 ≤ IntKind.i64.wrap ((↑m4 : Int) - (1 : Int))))
  (Br.need
  (decide
  ((0 : Int) ≤ x1 ∧
  IntKind.i64.wrap (x1 + (1 : Int)) = x1 + (1 : Int) ∧
  IntKind.i64.wrap (x1 + (1 : Int)) ≤ (↑m4 : Int) ∧ (0 : Nat) + m4 ≤ s4.length ∧ m4 ≤ maxI))
  (Br.leaf
  (V.b (decide ((0 : Int) ≤ x1 ∧ x1 ≤ IntKind.i64.wrap ((↑m4 : Int) - (1 : Int)))),
  [some
  (Blk.box
  [V.i IntKind.i64 s0, V.ref (1 : Nat) (0 : Nat) m1, V.i IntKind.i64 s2,
  V.ref (2 : Nat) (0 : Nat) m3, V.ref (5 : Nat) (0 : Nat) (m4 - (1 : Nat)),
  V.ref (4 : Nat) (0 : Nat) m5]),
  some (Blk.row false n1 Cd.str s1), some (Blk.row false n3 Cd.str s3), none,
  some (Blk.row false n5 ((Cd.int IntKind.i64).pair ((Cd.int IntKind.i64).pair Cd.unit)) s5),
  some
  (Blk.row false none ((Cd.int IntKind.i64).pair ((Cd.int IntKind.i64).pair (Cd.str.pair Cd.unit)))
  ((List.take m4 (List.drop (0 : Nat) s4)).eraseIdx x1.toNat))])))
  (Br.leaf
  (V.b (decide ((0 : Int) ≤ x1 ∧ x1 ≤ IntKind.i64.wrap ((↑m4 : Int) - (1 : Int)))),
  [some
  (Blk.box
  [V.i IntKind.i64 s0, V.ref (1 : Nat) (0 : Nat) m1, V.i IntKind.i64 s2, V.ref (2 : Nat) (0 : Nat) m3,
  V.ref (3 : Nat) (0 : Nat) m4, V.ref (4 : Nat) (0 : Nat) m5]),
  some (Blk.row false n1 Cd.str s1), some (Blk.row false n3 Cd.str s3),
  some
  (Blk.row false n4 ((Cd.int IntKind.i64).pair ((Cd.int IntKind.i64).pair (Cd.str.pair Cd.unit))) s4),
  some (Blk.row false n5 ((Cd.int IntKind.i64).pair ((Cd.int IntKind.i64).pair Cd.unit)) s5)])))
  (Br.br (x0 == (5 : Int))
  (Br.br (!decide ((0 : Int) ≤ x1 ∧ x1 ≤ IntKind.i64.wrap ((↑m4 : Int) - (1 : Int))))
  (Br.leaf
  (V.b false,
  [some
  (Blk.box
  [V.i IntKind.i64 s0, V.ref (1 : Nat) (0 : Nat) m1, V.i IntKind.i64 s2,
  V.ref (2 : Nat) (0 : Nat) m3, V.ref (3 : Nat) (0 : Nat) m4, V.ref (4 : Nat) (0 : Nat) m5]),
  some (Blk.row false n1 Cd.str s1), some (Blk.row false n3 Cd.str s3),
  some
  (Blk.row false n4 ((Cd.int IntKind.i64).pair ((Cd.int IntKind.i64).pair (Cd.str.pair Cd.unit))) s4),
  some (Blk.row false n5 ((Cd.int IntKind.i64).pair ((Cd.int IntKind.i64).pair Cd.unit)) s5)]))
  (Br.br ((↑m4 : Int) == (12 : Int))
  (Br.leaf
  (V.b false,
  [some
  (Blk.box
  [V.i IntKind.i64 s0, V.ref (1 : Nat) (0 : Nat) m1, V.i IntKind.i64 s2,
  V.ref (2 : Nat) (0 : Nat) m3, V.ref (3 : Nat) (0 : Nat) m4, V.ref (4 : Nat) (0 : Nat) m5]),
  some (Blk.row false n1 Cd.str s1), some (Blk.row false n3 Cd.str s3),
  some
  (Blk.row false n4 ((Cd.int IntKind.i64).pair ((Cd.int IntKind.i64).pair (Cd.str.pair Cd.unit)))
  s4),
  some (Blk.row false n5 ((Cd.int IntKind.i64).pair ((Cd.int IntKind.i64).pair Cd.unit)) s5)]))
  (Br.need (decide ((0 : Int) ≤ x1) && decide (x1 < (↑m4 : Int)))
  (Br.opt ((Cd.int IntKind.i64).pair ((Cd.int IntKind.i64).pair (Cd.str.pair Cd.unit)))
  s4[(0 : Nat) + x1.toNat]? fun z =>
  Br.need
  (decide ((m4 + (1 : Nat)) * (32 : Nat) ≤ (140737488355328 : Nat)) && decide (m4 + (1 : Nat) ≤ maxI))
  (Br.leaf
  (V.b true,
  [some
  (Blk.box
  [V.i IntKind.i64 s0, V.ref (1 : Nat) (0 : Nat) m1, V.i IntKind.i64 s2,
  V.ref (2 : Nat) (0 : Nat) m3, V.ref (5 : Nat) (0 : Nat) (m4 + (1 : Nat)),
  V.ref (4 : Nat) (0 : Nat) m5]),
  some (Blk.row false n1 Cd.str s1), some (Blk.row false n3 Cd.str s3), none,
  some (Blk.row false n5 ((Cd.int IntKind.i64).pair ((Cd.int IntKind.i64).pair Cd.unit)) s5),
  some
  (Blk.row false (some false)
  ((Cd.int IntKind.i64).pair ((Cd.int IntKind.i64).pair (Cd.str.pair Cd.unit)))
  (List.take m4 (List.drop (0 : Nat) s4) ++
  (z.fst, z.snd.fst, z.snd.snd.fst, ()) ::
  nilT
  ((Cd.int IntKind.i64).pair
  ((Cd.int IntKind.i64).pair (Cd.str.pair Cd.unit))).den))]))))))
  (Br.br (x0 == (6 : Int))
  (Br.br (decide ((0 : Int) ≤ x1 ∧ x1 ≤ IntKind.i64.wrap ((↑m5 : Int) - (1 : Int))))
  (Br.need (decide ((0 : Int) ≤ x1) && decide (x1 < (↑m5 : Int)))
  (Br.opt ((Cd.int IntKind.i64).pair ((Cd.int IntKind.i64).pair Cd.unit)) s5[(0 : Nat) + x1.toNat]?
  fun z =>
  Br.need
  (decide
  ((0 : Int) ≤ x1 ∧
  IntKind.i64.wrap (x1 + (1 : Int)) = x1 + (1 : Int) ∧
  IntKind.i64.wrap (x1 + (1 : Int)) ≤ (↑m5 : Int) ∧ (0 : Nat) + m5 ≤ s5.length ∧ m5 ≤ maxI))
  (Br.br (z.fst == s0)
  (Br.leaf
  (V.b (decide ((0 : Int) ≤ x1 ∧ x1 ≤ IntKind.i64.wrap ((↑m5 : Int) - (1 : Int)))),
  [some
  (Blk.box
  [V.i IntKind.i64 s0, V.ref (1 : Nat) (0 : Nat) m1,
  V.i IntKind.i64 (if z.snd.fst > s2 then z.snd.fst else s2),
  V.ref (2 : Nat) (0 : Nat) m3, V.ref (3 : Nat) (0 : Nat) m4,
  V.ref (5 : Nat) (0 : Nat) (m5 - (1 : Nat))]),
  some (Blk.row false n1 Cd.str s1), some (Blk.row false n3 Cd.str s3),
  some
  (Blk.row false n4
  ((Cd.int IntKind.i64).pair ((Cd.int IntKind.i64).pair (Cd.str.pair Cd.unit))) s4),
  none,
  some
  (Blk.row false none ((Cd.int IntKind.i64).pair ((Cd.int IntKind.i64).pair Cd.unit))
  ((List.take m5 (List.drop (0 : Nat) s5)).eraseIdx x1.toNat))]))
  (Br.leaf
  (V.b (decide ((0 : Int) ≤ x1 ∧ x1 ≤ IntKind.i64.wrap ((↑m5 : Int) - (1 : Int)))),
  [some
  (Blk.box
  [V.i IntKind.i64 s0, V.ref (1 : Nat) (0 : Nat) m1, V.i IntKind.i64 s2,
  V.ref (2 : Nat) (0 : Nat) m3, V.ref (3 : Nat) (0 : Nat) m4,
  V.ref (5 : Nat) (0 : Nat) (m5 - (1 : Nat))]),
  some (Blk.row false n1 Cd.str s1), some (Blk.row false n3 Cd.str s3),
  some
  (Blk.row false n4
  ((Cd.int IntKind.i64).pair ((Cd.int IntKind.i64).pair (Cd.str.pair Cd.unit))) s4),
  none,
  some
  (Blk.row false none ((Cd.int IntKind.i64).pair ((Cd.int IntKind.i64).pair Cd.unit))
  ((List.take m5 (List.drop (0 : Nat) s5)).eraseIdx x1.toNat))])))))
  (Br.leaf
  (V.b (decide ((0 : Int) ≤ x1 ∧ x1 ≤ IntKind.i64.wrap ((↑m5 : Int) - (1 : Int)))),
  [some
  (Blk.box
  [V.i IntKind.i64 s0, V.ref (1 : Nat) (0 : Nat) m1, V.i IntKind.i64 s2,
  V.ref (2 : Nat) (0 : Nat) m3, V.ref (3 : Nat) (0 : Nat) m4, V.ref (4 : Nat) (0 : Nat) m5]),
  some (Blk.row false n1 Cd.str s1), some (Blk.row false n3 Cd.str s3),
  some
  (Blk.row false n4 ((Cd.int IntKind.i64).pair ((Cd.int IntKind.i64).pair (Cd.str.pair Cd.unit)))
  s4),
  some (Blk.row false n5 ((Cd.int IntKind.i64).pair ((Cd.int IntKind.i64).pair Cd.unit)) s5)])))
  (Br.br (x0 == (7 : Int))
  (Br.br (s0 == (1000 : Int))
  (Br.leaf
  (V.b false,
  [some
  (Blk.box
  [V.i IntKind.i64 s0, V.ref (1 : Nat) (0 : Nat) m1, V.i IntKind.i64 s2,
  V.ref (2 : Nat) (0 : Nat) m3, V.ref (3 : Nat) (0 : Nat) m4, V.ref (4 : Nat) (0 : Nat) m5]),
  some (Blk.row false n1 Cd.str s1), some (Blk.row false n3 Cd.str s3),
  some
  (Blk.row false n4 ((Cd.int IntKind.i64).pair ((Cd.int IntKind.i64).pair (Cd.str.pair Cd.unit)))
  s4),
  some (Blk.row false n5 ((Cd.int IntKind.i64).pair ((Cd.int IntKind.i64).pair Cd.unit)) s5)]))
  (Br.leaf
  (V.b true,
  [some
  (Blk.box
  [V.i IntKind.i64 (IntKind.i64.wrap (s0 + (1 : Int))), V.ref (1 : Nat) (0 : Nat) m1,
  V.i IntKind.i64 (↑m3 : Int), V.ref (2 : Nat) (0 : Nat) m3, V.ref (3 : Nat) (0 : Nat) m4,
  V.ref (4 : Nat) (0 : Nat) m5]),
  some (Blk.row false n1 Cd.str s1), some (Blk.row false n3 Cd.str s3),
  some
  (Blk.row false n4 ((Cd.int IntKind.i64).pair ((Cd.int IntKind.i64).pair (Cd.str.pair Cd.unit)))
  s4),
  some (Blk.row false n5 ((Cd.int IntKind.i64).pair ((Cd.int IntKind.i64).pair Cd.unit)) s5)])))
  (Br.leaf
  (V.b false,
  [some
  (Blk.box
  [V.i IntKind.i64 s0, V.ref (1 : Nat) (0 : Nat) m1, V.i IntKind.i64 s2,
  V.ref (2 : Nat) (0 : Nat) m3, V.ref (3 : Nat) (0 : Nat) m4, V.ref (4 : Nat) (0 : Nat) m5]),
  some (Blk.row false n1 Cd.str s1), some (Blk.row false n3 Cd.str s3),
  some
  (Blk.row false n4 ((Cd.int IntKind.i64).pair ((Cd.int IntKind.i64).pair (Cd.str.pair Cd.unit)))
  s4),
  some (Blk.row false n5 ((Cd.int IntKind.i64).pair ((Cd.int IntKind.i64).pair Cd.unit)) s5)])))))))))
  | _, _ => .no
theorem oStep_fun (x0 x1 : Int) (x2 : List UInt8) (s0 : Int) (m1 : Nat) (s2 : Int) (m3 m4 m5 : Nat) (n1 : Option Bool) (s1 : List (List UInt8)) (n3 : Option Bool) (s3 : List (List UInt8)) (n4 : Option Bool) (s4 : List (Int × Int × List UInt8 × Unit)) (n5 : Option Bool) (s5 : List (Int × Int × Unit)) : funK Try.prog (look [(94, .rd1 withinG), (70, .own oSendG), (132, .own oTakeG), (131, .own oAckG), (145, .own delPacketG)]) (look []) Try.f93 [.ptr 0 0, .agg [.i .i64 x0, .i .i64 x1, .s x2]] [.box [.i .i64 s0, .ref 1 0 m1, .i .i64 s2, .ref 2 0 m3, .ref 3 0 m4, .ref 4 0 m5], .row false n1 .str s1, .row false n3 .str s3, .row false n4 (.pair (.int .i64) (.pair (.int .i64) (.pair .str .unit))) s4, .row false n5 (.pair (.int .i64) (.pair (.int .i64) .unit)) s5] = (oStepG [.ptr 0 0, .agg [.i .i64 x0, .i .i64 x1, .s x2]] [.box [.i .i64 s0, .ref 1 0 m1, .i .i64 s2, .ref 2 0 m3, .ref 3 0 m4, .ref 4 0 m5], .row false n1 .str s1, .row false n3 .str s3, .row false n4 (.pair (.int .i64) (.pair (.int .i64) (.pair .str .unit))) s4, .row false n5 (.pair (.int .i64) (.pair (.int .i64) .unit)) s5]).run := by kernel_rfl
theorem oStep : Contract Try.prog 93 (Ent.own oStepG).F := by
  refine fun_contract' (KnowsL.cons (enters_fn Try.func94 (by kernel_rfl) (by kernel_rfl)) within (KnowsL.cons (enters_fn Try.func70 (by kernel_rfl) (by kernel_rfl)) oSend (KnowsL.cons (enters_fn Try.func132 (by kernel_rfl) (by kernel_rfl)) oTake (KnowsL.cons (enters_fn Try.func131 (by kernel_rfl) (by kernel_rfl)) oAck (KnowsL.cons (enters_fn Try.func145 (by kernel_rfl) (by kernel_rfl)) delPacket KnowsL.nil))))).knows (Λ := look []) Try.func93 (c := Try.f93.body.getD .skip) (by kernel_rfl) fun vs bs r h hv hb => ?_
  unfold Ent.F oStepG at h
  dsimp only at h
  split at h
  · rename_i x0 x1 x2 s0 m1 s2 m3 m4 m5 n1 s1 n3 s3 n4 s4 n5 s5
    exact ⟨loopsOk_nil _, (oStep_fun x0 x1 x2 s0 m1 s2 m3 m4 m5 n1 s1 n3 s3 n4 s4 n5 s5).trans h⟩
  · cases h
end Go.Proofs.Ytjghbihlgfjebaa.Den
