/- What functions of the program do, by the machine: Step2. -/
import Derived.Test.YtjghbihlgfjebaaDStep1
import Derived.KernelRfl
import Derived.Test.YtjghbihlgfjebaaRows
namespace Go.Proofs.Ytjghbihlgfjebaa.Den
open Go.Proofs
set_option maxRecDepth 100000
def oSendG : List V → List Blk → Br (V × List (Option Blk))
  | [.ptr 0 0, .i .i64 k], [.box [.i .i64 s0, .ref 1 0 m1, .i .i64 s2, .ref 2 0 m3, .ref 3 0 m4, .ref 4 0 m5], .row false n1 .str s1, .row false n3 .str s3, .row false n4 (.pair (.int .i64) (.pair (.int .i64) (.pair .str .unit))) s4, .row false n5 (.pair (.int .i64) (.pair (.int .i64) .unit)) s5] => (Br.br
  (!decide
  (s2 ≤ k ∧
  k ≤
  IntKind.i64.wrap
  ((if (↑(List.take m1 (List.drop (0 : Nat) s1)).length : Int) < IntKind.i64.wrap (s2 + (4 : Int)) then
  (↑(List.take m1 (List.drop (0 : Nat) s1)).length : Int)
  else IntKind.i64.wrap (s2 + (4 : Int))) -
  (1 : Int))))
  (Br.leaf
  (V.b false,
  [some
  (Blk.box
  [V.i IntKind.i64 s0, V.ref (1 : Nat) (0 : Nat) m1, V.i IntKind.i64 s2, V.ref (2 : Nat) (0 : Nat) m3,
  V.ref (3 : Nat) (0 : Nat) m4, V.ref (4 : Nat) (0 : Nat) m5]),
  some (Blk.row false n1 Cd.str s1), some (Blk.row false n3 Cd.str s3),
  some (Blk.row false n4 ((Cd.int IntKind.i64).pair ((Cd.int IntKind.i64).pair (Cd.str.pair Cd.unit))) s4),
  some (Blk.row false n5 ((Cd.int IntKind.i64).pair ((Cd.int IntKind.i64).pair Cd.unit)) s5)]))
  (Br.br ((↑m4 : Int) == (12 : Int))
  (Br.leaf
  (V.b false,
  [some
  (Blk.box
  [V.i IntKind.i64 s0, V.ref (1 : Nat) (0 : Nat) m1, V.i IntKind.i64 s2, V.ref (2 : Nat) (0 : Nat) m3,
  V.ref (3 : Nat) (0 : Nat) m4, V.ref (4 : Nat) (0 : Nat) m5]),
  some (Blk.row false n1 Cd.str s1), some (Blk.row false n3 Cd.str s3),
  some (Blk.row false n4 ((Cd.int IntKind.i64).pair ((Cd.int IntKind.i64).pair (Cd.str.pair Cd.unit))) s4),
  some (Blk.row false n5 ((Cd.int IntKind.i64).pair ((Cd.int IntKind.i64).pair Cd.unit)) s5)]))
  (Br.need (decide ((0 : Int) ≤ k) && decide (k < (↑m1 : Int)))
  (Br.opt Cd.str s1[(0 : Nat) + k.toNat]? fun z =>
  Br.need (decide ((m4 + (1 : Nat)) * (32 : Nat) ≤ (140737488355328 : Nat)) && decide (m4 + (1 : Nat) ≤ maxI))
  (Br.leaf
  (V.b true,
  [some
  (Blk.box
  [V.i IntKind.i64 s0, V.ref (1 : Nat) (0 : Nat) m1, V.i IntKind.i64 s2, V.ref (2 : Nat) (0 : Nat) m3,
  V.ref (5 : Nat) (0 : Nat) (m4 + (1 : Nat)), V.ref (4 : Nat) (0 : Nat) m5]),
  some (Blk.row false n1 Cd.str s1), some (Blk.row false n3 Cd.str s3), none,
  some (Blk.row false n5 ((Cd.int IntKind.i64).pair ((Cd.int IntKind.i64).pair Cd.unit)) s5),
  some
  (Blk.row false (some false)
  ((Cd.int IntKind.i64).pair ((Cd.int IntKind.i64).pair (Cd.str.pair Cd.unit)))
  (List.take m4 (List.drop (0 : Nat) s4) ++
  (s0, k, z, ()) ::
  nilT ((Cd.int IntKind.i64).pair ((Cd.int IntKind.i64).pair (Cd.str.pair Cd.unit))).den))]))))))
  | _, _ => .no
def l15StepG : List V → List Blk → Br (V × List (Option Blk))
  | [.agg [.i .i64 s0, .ref 0 0 m1, .i .i64 s2, .ref 1 0 m3, .ref 2 0 m4, .ref 3 0 m5], .agg [.i .i64 x0, .i .i64 x1, .s x2]], [.row false n1 .str s1, .row false n3 .str s3, .row false n4 (.pair (.int .i64) (.pair (.int .i64) (.pair .str .unit))) s4, .row false n5 (.pair (.int .i64) (.pair (.int .i64) .unit)) s5] => (Br.br (x0 == (1 : Int))
  (Br.br (!decide (x2.length ≤ (20 : Nat)))
  (Br.leaf
  (V.tup
  [V.agg
  [V.i IntKind.i64 s0, V.ref (0 : Nat) (0 : Nat) m1, V.i IntKind.i64 s2, V.ref (1 : Nat) (0 : Nat) m3,
  V.ref (2 : Nat) (0 : Nat) m4, V.ref (3 : Nat) (0 : Nat) m5],
  V.b false],
  [some (Blk.row false n1 Cd.str s1), some (Blk.row false n3 Cd.str s3),
  some (Blk.row false n4 ((Cd.int IntKind.i64).pair ((Cd.int IntKind.i64).pair (Cd.str.pair Cd.unit))) s4),
  some (Blk.row false n5 ((Cd.int IntKind.i64).pair ((Cd.int IntKind.i64).pair Cd.unit)) s5)]))
  (Br.br ((↑m1 : Int) == (30 : Int))
  (Br.leaf
  (V.tup
  [V.agg
  [V.i IntKind.i64 s0, V.ref (0 : Nat) (0 : Nat) m1, V.i IntKind.i64 s2, V.ref (1 : Nat) (0 : Nat) m3,
  V.ref (2 : Nat) (0 : Nat) m4, V.ref (3 : Nat) (0 : Nat) m5],
  V.b false],
  [some (Blk.row false n1 Cd.str s1), some (Blk.row false n3 Cd.str s3),
  some (Blk.row false n4 ((Cd.int IntKind.i64).pair ((Cd.int IntKind.i64).pair (Cd.str.pair Cd.unit))) s4),
  some (Blk.row false n5 ((Cd.int IntKind.i64).pair ((Cd.int IntKind.i64).pair Cd.unit)) s5)]))
  (Br.need (decide ((m1 + (1 : Nat)) * (16 : Nat) ≤ (140737488355328 : Nat)) && decide (m1 + (1 : Nat) ≤ maxI))
  (Br.leaf
  (V.tup
  [V.agg
  [V.i IntKind.i64 s0, V.ref (4 : Nat) (0 : Nat) (m1 + (1 : Nat)), V.i IntKind.i64 s2,
  V.ref (1 : Nat) (0 : Nat) m3, V.ref (2 : Nat) (0 : Nat) m4, V.ref (3 : Nat) (0 : Nat) m5],
  V.b true],
  [none, some (Blk.row false n3 Cd.str s3),
  some (Blk.row false n4 ((Cd.int IntKind.i64).pair ((Cd.int IntKind.i64).pair (Cd.str.pair Cd.unit))) s4),
  some (Blk.row false n5 ((Cd.int IntKind.i64).pair ((Cd.int IntKind.i64).pair Cd.unit)) s5),
  some
  (Blk.row false (some false) Cd.str
  (List.take m1 (List.drop (0 : Nat) s1) ++ x2 :: nilT Cd.str.den))])))))
  (Br.br (x0 == (2 : Int))
  (Br.br (decide (x1 < s2))
  (Br.leaf
  (V.tup
  [V.agg
  [V.i IntKind.i64 s0, V.ref (0 : Nat) (0 : Nat) m1, V.i IntKind.i64 s2, V.ref (1 : Nat) (0 : Nat) m3,
  V.ref (2 : Nat) (0 : Nat) m4, V.ref (3 : Nat) (0 : Nat) m5],
  V.b false],
  [some (Blk.row false n1 Cd.str s1), some (Blk.row false n3 Cd.str s3),
  some (Blk.row false n4 ((Cd.int IntKind.i64).pair ((Cd.int IntKind.i64).pair (Cd.str.pair Cd.unit))) s4),
  some (Blk.row false n5 ((Cd.int IntKind.i64).pair ((Cd.int IntKind.i64).pair Cd.unit)) s5)]))
  (Br.br (decide (x1 ≥ IntKind.i64.wrap (s2 + (4 : Int))))
  (Br.leaf
  (V.tup
  [V.agg
  [V.i IntKind.i64 s0, V.ref (0 : Nat) (0 : Nat) m1, V.i IntKind.i64 s2, V.ref (1 : Nat) (0 : Nat) m3,
  V.ref (2 : Nat) (0 : Nat) m4, V.ref (3 : Nat) (0 : Nat) m5],
  V.b false],
  [some (Blk.row false n1 Cd.str s1), some (Blk.row false n3 Cd.str s3),
  some (Blk.row false n4 ((Cd.int IntKind.i64).pair ((Cd.int IntKind.i64).pair (Cd.str.pair Cd.unit))) s4),
  some (Blk.row false n5 ((Cd.int IntKind.i64).pair ((Cd.int IntKind.i64).pair Cd.unit)) s5)]))
  (Br.br (decide (x1 ≥ (↑m1 : Int)))
  (Br.leaf
  (V.tup
  [V.agg
  [V.i IntKind.i64 s0, V.ref (0 : Nat) (0 : Nat) m1, V.i IntKind.i64 s2, V.ref (1 : Nat) (0 : Nat) m3,
  V.ref (2 : Nat) (0 : Nat) m4, V.ref (3 : Nat) (0 : Nat) m5],
  V.b false],
  [some (Blk.row false n1 Cd.str s1), some (Blk.row false n3 Cd.str s3),
  some
  (Blk.row false n4 ((Cd.int IntKind.i64).pair ((Cd.int IntKind.i64).pair (Cd.str.pair Cd.unit))) s4),
  some (Blk.row false n5 ((Cd.int IntKind.i64).pair ((Cd.int IntKind.i64).pair Cd.unit)) s5)]))
  (Br.br ((↑m4 : Int) == (12 : Int))
  (Br.leaf
  (V.tup
  [V.agg
  [V.i IntKind.i64 s0, V.ref (0 : Nat) (0 : Nat) m1, V.i IntKind.i64 s2,
  V.ref (1 : Nat) (0 : Nat) m3, V.ref (2 : Nat) (0 : Nat) m4, V.ref (3 : Nat) (0 : Nat) m5],
  V.b false],
  [some (Blk.row false n1 Cd.str s1), some (Blk.row false n3 Cd.str s3),
  some
  (Blk.row false n4 ((Cd.int IntKind.i64).pair ((Cd.int IntKind.i64).pair (Cd.str.pair Cd.unit))) s4),
  some (Blk.row false n5 ((Cd.int IntKind.i64).pair ((Cd.int IntKind.i64).pair Cd.unit)) s5)]))
  (Br.need (decide ((0 : Int) ≤ x1) && decide (x1 < (↑m1 : Int)))
  (Br.opt Cd.str s1[(0 : Nat) + x1.toNat]? fun z =>
  Br.need
  (decide ((m4 + (1 : Nat)) * (32 : Nat) ≤ (140737488355328 : Nat)) && decide (m4 + (1 : Nat) ≤ maxI))
  (Br.leaf
  (V.tup
  [V.agg
  [V.i IntKind.i64 s0, V.ref (0 : Nat) (0 : Nat) m1, V.i IntKind.i64 s2,
  V.ref (1 : Nat) (0 : Nat) m3, V.ref (4 : Nat) (0 : Nat) (m4 + (1 : Nat)),
  V.ref (3 : Nat) (0 : Nat) m5],
  V.b true],
  [some (Blk.row false n1 Cd.str s1), some (Blk.row false n3 Cd.str s3), none,
  some (Blk.row false n5 ((Cd.int IntKind.i64).pair ((Cd.int IntKind.i64).pair Cd.unit)) s5),
  some
  (Blk.row false (some false)
  ((Cd.int IntKind.i64).pair ((Cd.int IntKind.i64).pair (Cd.str.pair Cd.unit)))
  (List.take m4 (List.drop (0 : Nat) s4) ++
  (s0, x1, z, ()) ::
  nilT
  ((Cd.int IntKind.i64).pair
  ((Cd.int IntKind.i64).pair (Cd.str.pair Cd.unit))).den))]))))))))
  (Br.br (x0 == (6 : Int))
  (Br.br (decide (x1 < (0 : Int)))
  (Br.leaf
  (V.tup
  [V.agg
  [V.i IntKind.i64 s0, V.ref (0 : Nat) (0 : Nat) m1, V.i IntKind.i64 s2, V.ref (1 : Nat) (0 : Nat) m3,
  V.ref (2 : Nat) (0 : Nat) m4, V.ref (3 : Nat) (0 : Nat) m5],
  V.b false],
  [some (Blk.row false n1 Cd.str s1), some (Blk.row false n3 Cd.str s3),
  some (Blk.row false n4 ((Cd.int IntKind.i64).pair ((Cd.int IntKind.i64).pair (Cd.str.pair Cd.unit))) s4),
  some (Blk.row false n5 ((Cd.int IntKind.i64).pair ((Cd.int IntKind.i64).pair Cd.unit)) s5)]))
  (Br.br (decide (x1 ≥ (↑m5 : Int)))
  (Br.leaf
  (V.tup
  [V.agg
  [V.i IntKind.i64 s0, V.ref (0 : Nat) (0 : Nat) m1, V.i IntKind.i64 s2, V.ref (1 : Nat) (0 : Nat) m3,
  V.ref (2 : Nat) (0 : Nat) m4, V.ref (3 : Nat) (0 : Nat) m5],
  V.b false],
  [some (Blk.row false n1 Cd.str s1), some (Blk.row false n3 Cd.str s3),
  some
  (Blk.row false n4 ((Cd.int IntKind.i64).pair ((Cd.int IntKind.i64).pair (Cd.str.pair Cd.unit))) s4),
  some (Blk.row false n5 ((Cd.int IntKind.i64).pair ((Cd.int IntKind.i64).pair Cd.unit)) s5)]))
  (Br.need (decide ((0 : Int) ≤ x1) && decide (x1 < (↑m5 : Int)))
  (Br.opt ((Cd.int IntKind.i64).pair ((Cd.int IntKind.i64).pair Cd.unit)) s5[(0 : Nat) + x1.toNat]? fun z =>
  Br.need (decide ((0 : Int) ≤ x1) && decide (x1 ≤ (↑(s5.length - (0 : Nat)) : Int)))
  (Br.need
  (decide
  (((0 : Nat) + (List.take (x1.toNat - (0 : Nat)) (List.drop (0 : Nat) s5)).length) * (16 : Nat) ≤
  (140737488355328 : Nat)) &&
  decide ((0 : Nat) + (List.take (x1.toNat - (0 : Nat)) (List.drop (0 : Nat) s5)).length ≤ maxI))
  (Br.need
  (decide ((0 : Int) ≤ IntKind.i64.wrap (x1 + (1 : Int))) &&
  decide (IntKind.i64.wrap (x1 + (1 : Int)) ≤ (↑m5 : Int)))
  (Br.need
  (decide
  (((0 : Nat) + (List.take (x1.toNat - (0 : Nat)) (List.drop (0 : Nat) s5)).length +
  (List.take (m5 - (IntKind.i64.wrap (x1 + (1 : Int))).toNat)
  (List.drop ((0 : Nat) + (IntKind.i64.wrap (x1 + (1 : Int))).toNat) s5)).length) *
  (16 : Nat) ≤
  (140737488355328 : Nat)) &&
  decide
  ((0 : Nat) + (List.take (x1.toNat - (0 : Nat)) (List.drop (0 : Nat) s5)).length +
  (List.take (m5 - (IntKind.i64.wrap (x1 + (1 : Int))).toNat)
  (List.drop ((0 : Nat) + (IntKind.i64.wrap (x1 + (1 : Int))).toNat) s5)).length ≤
  maxI))
  (Br.br (z.fst == s0)
  (Br.br (decide (z.snd.fst > s2))
  (Br.leaf
  (V.tup
  [V.agg
  [V.i IntKind.i64 s0, V.ref (0 : Nat) (0 : Nat) m1, V.i IntKind.i64 z.snd.fst,
  V.ref (1 : Nat) (0 : Nat) m3, V.ref (2 : Nat) (0 : Nat) m4,
  V.ref (4 : Nat) (0 : Nat)
  ((0 : Nat) +
  (List.take (x1.toNat - (0 : Nat)) (List.drop (0 : Nat) s5)).length +
  (List.take (m5 - (IntKind.i64.wrap (x1 + (1 : Int))).toNat)
  (List.drop ((0 : Nat) + (IntKind.i64.wrap (x1 + (1 : Int))).toNat)
  s5)).length)],
  V.b true],
  [some (Blk.row false n1 Cd.str s1), some (Blk.row false n3 Cd.str s3),
  some
  (Blk.row false n4
  ((Cd.int IntKind.i64).pair ((Cd.int IntKind.i64).pair (Cd.str.pair Cd.unit))) s4),
  some
  (Blk.row false n5 ((Cd.int IntKind.i64).pair ((Cd.int IntKind.i64).pair Cd.unit)) s5),
  some
  (Blk.row false (some false)
  ((Cd.int IntKind.i64).pair ((Cd.int IntKind.i64).pair Cd.unit))
  (List.take
  ((0 : Nat) + (List.take (x1.toNat - (0 : Nat)) (List.drop (0 : Nat) s5)).length)
  (List.drop (0 : Nat)
  (nilT ((Cd.int IntKind.i64).pair ((Cd.int IntKind.i64).pair Cd.unit)).den ++
  List.take (x1.toNat - (0 : Nat)) (List.drop (0 : Nat) s5))) ++
  List.take (m5 - (IntKind.i64.wrap (x1 + (1 : Int))).toNat)
  (List.drop ((0 : Nat) + (IntKind.i64.wrap (x1 + (1 : Int))).toNat) s5)))]))
  (Br.leaf
  (V.tup
  [V.agg
  [V.i IntKind.i64 s0, V.ref (0 : Nat) (0 : Nat) m1, V.i IntKind.i64 s2,
  V.ref (1 : Nat) (0 : Nat) m3, V.ref (2 : Nat) (0 : Nat) m4,
  V.ref (4 : Nat) (0 : Nat)
  ((0 : Nat) +
  (List.take (x1.toNat - (0 : Nat)) (List.drop (0 : Nat) s5)).length +
  (List.take (m5 - (IntKind.i64.wrap (x1 + (1 : Int))).toNat)
  (List.drop ((0 : Nat) + (IntKind.i64.wrap (x1 + (1 : Int))).toNat)
  s5)).length)],
  V.b true],
  [some (Blk.row false n1 Cd.str s1), some (Blk.row false n3 Cd.str s3),
  some
  (Blk.row false n4
  ((Cd.int IntKind.i64).pair ((Cd.int IntKind.i64).pair (Cd.str.pair Cd.unit))) s4),
  some
  (Blk.row false n5 ((Cd.int IntKind.i64).pair ((Cd.int IntKind.i64).pair Cd.unit)) s5),
  some
  (Blk.row false (some false)
  ((Cd.int IntKind.i64).pair ((Cd.int IntKind.i64).pair Cd.unit))
  (List.take
  ((0 : Nat) + (List.take (x1.toNat - (0 : Nat)) (List.drop (0 : Nat) s5)).length)
  (List.drop (0 : Nat)
  (nilT ((Cd.int IntKind.i64).pair ((Cd.int IntKind.i64).pair Cd.unit)).den ++
  List.take (x1.toNat - (0 : Nat)) (List.drop (0 : Nat) s5))) ++
  List.take (m5 - (IntKind.i64.wrap (x1 + (1 : Int))).toNat)
  (List.drop ((0 : Nat) + (IntKind.i64.wrap (x1 + (1 : Int))).toNat) s5)))])))
  (Br.leaf
  (V.tup
  [V.agg
  [V.i IntKind.i64 s0, V.ref (0 : Nat) (0 : Nat) m1, V.i IntKind.i64 s2,
  V.ref (1 : Nat) (0 : Nat) m3, V.ref (2 : Nat) (0 : Nat) m4,
  V.ref (4 : Nat) (0 : Nat)
  ((0 : Nat) + (List.take (x1.toNat - (0 : Nat)) (List.drop (0 : Nat) s5)).length +
  (List.take (m5 - (IntKind.i64.wrap (x1 + (1 : Int))).toNat)
  (List.drop ((0 : Nat) + (IntKind.i64.wrap (x1 + (1 : Int))).toNat)
  s5)).length)],
  V.b true],
  [some (Blk.row false n1 Cd.str s1), some (Blk.row false n3 Cd.str s3),
  some
  (Blk.row false n4
  ((Cd.int IntKind.i64).pair ((Cd.int IntKind.i64).pair (Cd.str.pair Cd.unit))) s4),
  some
  (Blk.row false n5 ((Cd.int IntKind.i64).pair ((Cd.int IntKind.i64).pair Cd.unit)) s5),
  some
  (Blk.row false (some false)
  ((Cd.int IntKind.i64).pair ((Cd.int IntKind.i64).pair Cd.unit))
  (List.take
  ((0 : Nat) + (List.take (x1.toNat - (0 : Nat)) (List.drop (0 : Nat) s5)).length)
  (List.drop (0 : Nat)
  (nilT ((Cd.int IntKind.i64).pair ((Cd.int IntKind.i64).pair Cd.unit)).den ++
  List.take (x1.toNat - (0 : Nat)) (List.drop (0 : Nat) s5))) ++
  List.take (m5 - (IntKind.i64.wrap (x1 + (1 : Int))).toNat)
  (List.drop ((0 : Nat) + (IntKind.i64.wrap (x1 + (1 : Int))).toNat)
  s5)))]))))))))))
  (Br.br (x0 == (7 : Int))
  (Br.br (s0 == (1000 : Int))
  (Br.leaf
  (V.tup
  [V.agg
  [V.i IntKind.i64 s0, V.ref (0 : Nat) (0 : Nat) m1, V.i IntKind.i64 s2, V.ref (1 : Nat) (0 : Nat) m3,
  V.ref (2 : Nat) (0 : Nat) m4, V.ref (3 : Nat) (0 : Nat) m5],
  V.b false],
  [some (Blk.row false n1 Cd.str s1), some (Blk.row false n3 Cd.str s3),
  some
  (Blk.row false n4 ((Cd.int IntKind.i64).pair ((Cd.int IntKind.i64).pair (Cd.str.pair Cd.unit))) s4),
  some (Blk.row false n5 ((Cd.int IntKind.i64).pair ((Cd.int IntKind.i64).pair Cd.unit)) s5)]))
  (Br.leaf
  (V.tup
  [V.agg
  [V.i IntKind.i64 (IntKind.i64.wrap (s0 + (1 : Int))), V.ref (0 : Nat) (0 : Nat) m1,
  V.i IntKind.i64 (↑m3 : Int), V.ref (1 : Nat) (0 : Nat) m3, V.ref (2 : Nat) (0 : Nat) m4,
  V.ref (3 : Nat) (0 : Nat) m5],
  V.b true],
  [some (Blk.row false n1 Cd.str s1), some (Blk.row false n3 Cd.str s3),
  some
  (Blk.row false n4 ((Cd.int IntKind.i64).pair ((Cd.int IntKind.i64).pair (Cd.str.pair Cd.unit))) s4),
  some (Blk.row false n5 ((Cd.int IntKind.i64).pair ((Cd.int IntKind.i64).pair Cd.unit)) s5)])))
  (Br.br (decide (x1 < (0 : Int)))
  (Br.leaf
  (V.tup
  [V.agg
  [V.i IntKind.i64 s0, V.ref (0 : Nat) (0 : Nat) m1, V.i IntKind.i64 s2, V.ref (1 : Nat) (0 : Nat) m3,
  V.ref (2 : Nat) (0 : Nat) m4, V.ref (3 : Nat) (0 : Nat) m5],
  V.b false],
  [some (Blk.row false n1 Cd.str s1), some (Blk.row false n3 Cd.str s3),
  some
  (Blk.row false n4 ((Cd.int IntKind.i64).pair ((Cd.int IntKind.i64).pair (Cd.str.pair Cd.unit))) s4),
  some (Blk.row false n5 ((Cd.int IntKind.i64).pair ((Cd.int IntKind.i64).pair Cd.unit)) s5)]))
  (Br.br (decide (x1 ≥ (↑m4 : Int)))
  (Br.leaf
  (V.tup
  [V.agg
  [V.i IntKind.i64 s0, V.ref (0 : Nat) (0 : Nat) m1, V.i IntKind.i64 s2,
  V.ref (1 : Nat) (0 : Nat) m3, V.ref (2 : Nat) (0 : Nat) m4, V.ref (3 : Nat) (0 : Nat) m5],
  V.b false],
  [some (Blk.row false n1 Cd.str s1), some (Blk.row false n3 Cd.str s3),
  some
  (Blk.row false n4 ((Cd.int IntKind.i64).pair ((Cd.int IntKind.i64).pair (Cd.str.pair Cd.unit))) s4),
  some (Blk.row false n5 ((Cd.int IntKind.i64).pair ((Cd.int IntKind.i64).pair Cd.unit)) s5)]))
  (Br.br (!decide ((3 : Int) ≤ x0 ∧ x0 ≤ (5 : Int)))
  (Br.leaf
  (V.tup
  [V.agg
  [V.i IntKind.i64 s0, V.ref (0 : Nat) (0 : Nat) m1, V.i IntKind.i64 s2,
  V.ref (1 : Nat) (0 : Nat) m3, V.ref (2 : Nat) (0 : Nat) m4, V.ref (3 : Nat) (0 : Nat) m5],
  V.b false],
  [some (Blk.row false n1 Cd.str s1), some (Blk.row false n3 Cd.str s3),
  some
  (Blk.row false n4 ((Cd.int IntKind.i64).pair ((Cd.int IntKind.i64).pair (Cd.str.pair Cd.unit)))
  s4),
  some (Blk.row false n5 ((Cd.int IntKind.i64).pair ((Cd.int IntKind.i64).pair Cd.unit)) s5)]))
  (Br.need (decide ((0 : Int) ≤ x1) && decide (x1 < (↑m4 : Int)))
  (Br.opt ((Cd.int IntKind.i64).pair ((Cd.int IntKind.i64).pair (Cd.str.pair Cd.unit)))
  s4[(0 : Nat) + x1.toNat]? fun z =>
  Br.br (x0 == (5 : Int))
  (Br.br ((↑m4 : Int) == (12 : Int))
  (Br.leaf
  (V.tup
  [V.agg
  [V.i IntKind.i64 s0, V.ref (0 : Nat) (0 : Nat) m1, V.i IntKind.i64 s2,
  V.ref (1 : Nat) (0 : Nat) m3, V.ref (2 : Nat) (0 : Nat) m4,
  V.ref (3 : Nat) (0 : Nat) m5],
  V.b false],
  [some (Blk.row false n1 Cd.str s1), some (Blk.row false n3 Cd.str s3),
  some
  (Blk.row false n4
  ((Cd.int IntKind.i64).pair ((Cd.int IntKind.i64).pair (Cd.str.pair Cd.unit))) s4),
  some
  (Blk.row false n5 ((Cd.int IntKind.i64).pair ((Cd.int IntKind.i64).pair Cd.unit)) s5)]))
  (Br.need
  (decide ((m4 + (1 : Nat)) * (32 : Nat) ≤ (140737488355328 : Nat)) &&
  decide (m4 + (1 : Nat) ≤ maxI))
  (Br.leaf
  (V.tup
  [V.agg
  [V.i IntKind.i64 s0, V.ref (0 : Nat) (0 : Nat) m1, V.i IntKind.i64 s2,
  V.ref (1 : Nat) (0 : Nat) m3, V.ref (4 : Nat) (0 : Nat) (m4 + (1 : Nat)),
  V.ref (3 : Nat) (0 : Nat) m5],
  V.b true],
  [some (Blk.row false n1 Cd.str s1), some (Blk.row false n3 Cd.str s3), none,
  some
  (Blk.row false n5 ((Cd.int IntKind.i64).pair ((Cd.int IntKind.i64).pair Cd.unit)) s5),
  some
  (Blk.row false (some false)
  ((Cd.int IntKind.i64).pair ((Cd.int IntKind.i64).pair (Cd.str.pair Cd.unit)))
  (List.take m4 (List.drop (0 : Nat) s4) ++
  (z.fst, z.snd.fst, z.snd.snd.fst, ()) ::
  nilT
  ((Cd.int IntKind.i64).pair
  ((Cd.int IntKind.i64).pair (Cd.str.pair Cd.unit))).den))]))))
  (Br.need (decide ((0 : Int) ≤ x1) && decide (x1 ≤ (↑(s4.length - (0 : Nat)) : Int)))
  (Br.need
  (decide
  (((0 : Nat) + (List.take (x1.toNat - (0 : Nat)) (List.drop (0 : Nat) s4)).length) *
  (32 : Nat) ≤
  (140737488355328 : Nat)) &&
  decide
  ((0 : Nat) + (List.take (x1.toNat - (0 : Nat)) (List.drop (0 : Nat) s4)).length ≤ maxI))
  (Br.need
  (decide ((0 : Int) ≤ IntKind.i64.wrap (x1 + (1 : Int))) &&
  decide (IntKind.i64.wrap (x1 + (1 : Int)) ≤ (↑m4 : Int)))
  (Br.need
  (decide
  (((0 : Nat) + (List.take (x1.toNat - (0 : Nat)) (List.drop (0 : Nat) s4)).length +
  (List.take (m4 - (IntKind.i64.wrap (x1 + (1 : Int))).toNat)
  (List.drop ((0 : Nat) + (IntKind.i64.wrap (x1 + (1 : Int))).toNat)
  s4)).length) *
  (32 : Nat) ≤
  (140737488355328 : Nat)) &&
  decide
  ((0 : Nat) + (List.take (x1.toNat - (0 : Nat)) (List.drop (0 : Nat) s4)).length +
  (List.take (m4 - (IntKind.i64.wrap (x1 + (1 : Int))).toNat)
  (List.drop ((0 : Nat) + (IntKind.i64.wrap (x1 + (1 : Int))).toNat) s4)).length ≤
  maxI))
  (Br.br (x0 == (3 : Int))
  (Br.br (z.fst != s0)
  (Br.leaf
  (V.tup
  [V.agg
  [V.i IntKind.i64 s0, V.ref (0 : Nat) (0 : Nat) m1, V.i IntKind.i64 s2,
  V.ref (1 : Nat) (0 : Nat) m3,
  V.ref (4 : Nat) (0 : Nat)
  ((0 : Nat) +
  (List.take (x1.toNat - (0 : Nat)) (List.drop (0 : Nat) s4)).length +
  (List.take (m4 - (IntKind.i64.wrap (x1 + (1 : Int))).toNat)
  (List.drop ((0 : Nat) + (IntKind.i64.wrap (x1 + (1 : Int))).toNat)
  s4)).length),
  V.ref (3 : Nat) (0 : Nat) m5],
  V.b true],
  [some (Blk.row false n1 Cd.str s1), some (Blk.row false n3 Cd.str s3),
  some
  (Blk.row false n4
  ((Cd.int IntKind.i64).pair ((Cd.int IntKind.i64).pair (Cd.str.pair Cd.unit)))
  s4),
  some
  (Blk.row false n5
  ((Cd.int IntKind.i64).pair ((Cd.int IntKind.i64).pair Cd.unit)) s5),
  some
  (Blk.row false (some false)
  ((Cd.int IntKind.i64).pair ((Cd.int IntKind.i64).pair (Cd.str.pair Cd.unit)))
  (List.take
  ((0 : Nat) +
  (List.take (x1.toNat - (0 : Nat)) (List.drop (0 : Nat) s4)).length)
  (List.drop (0 : Nat)
  (nilT
  ((Cd.int IntKind.i64).pair
  ((Cd.int IntKind.i64).pair (Cd.str.pair Cd.unit))).den ++
  List.take (x1.toNat - (0 : Nat)) (List.drop (0 : Nat) s4))) ++
  List.take (m4 - (IntKind.i64.wrap (x1 + (1 : Int))).toNat)
  (List.drop ((0 : Nat) + (IntKind.i64.wrap (x1 + (1 : Int))).toNat)
  s4)))]))
  (Br.br (z.snd.fst == (↑m3 : Int))
  (Br.need
  (decide ((m3 + (1 : Nat)) * (16 : Nat) ≤ (140737488355328 : Nat)) &&
  decide (m3 + (1 : Nat) ≤ maxI))
  (Br.br (decide ((↑m5 : Int) < (12 : Int)))
  (Br.need
  (decide ((m5 + (1 : Nat)) * (16 : Nat) ≤ (140737488355328 : Nat)) &&
  decide (m5 + (1 : Nat) ≤ maxI))
  (Br.leaf
  (V.tup
  [V.agg
  [V.i IntKind.i64 s0, V.ref (0 : Nat) (0 : Nat) m1, V.i IntKind.i64 s2,
  V.ref (4 : Nat) (0 : Nat) (m3 + (1 : Nat)),
  V.ref (5 : Nat) (0 : Nat)
  ((0 : Nat) +
  (List.take (x1.toNat - (0 : Nat))
  (List.drop (0 : Nat) s4)).length +
  (List.take (m4 - (IntKind.i64.wrap (x1 + (1 : Int))).toNat)
  (List.drop
  ((0 : Nat) + (IntKind.i64.wrap (x1 + (1 : Int))).toNat)
  s4)).length),
  V.ref (6 : Nat) (0 : Nat) (m5 + (1 : Nat))],
  V.b true],
  [some (Blk.row false n1 Cd.str s1), none,
  some
  (Blk.row false n4
  ((Cd.int IntKind.i64).pair
  ((Cd.int IntKind.i64).pair (Cd.str.pair Cd.unit)))
  s4),
  none,
  some
  (Blk.row false (some false) Cd.str
  (List.take m3 (List.drop (0 : Nat) s3) ++
  z.snd.snd.fst :: nilT Cd.str.den)),
  some
  (Blk.row false (some false)
  ((Cd.int IntKind.i64).pair
  ((Cd.int IntKind.i64).pair (Cd.str.pair Cd.unit)))
  (List.take
  ((0 : Nat) +
  (List.take (x1.toNat - (0 : Nat))
  (List.drop (0 : Nat) s4)).length)
  (List.drop (0 : Nat)
  (nilT
  ((Cd.int IntKind.i64).pair
  ((Cd.int IntKind.i64).pair
  (Cd.str.pair Cd.unit))).den ++
  List.take (x1.toNat - (0 : Nat)) (List.drop (0 : Nat) s4))) ++
  List.take (m4 - (IntKind.i64.wrap (x1 + (1 : Int))).toNat)
  (List.drop ((0 : Nat) + (IntKind.i64.wrap (x1 + (1 : Int))).toNat)
  s4))),
  some
  (Blk.row false (some false)
  ((Cd.int IntKind.i64).pair ((Cd.int IntKind.i64).pair Cd.unit))
  (List.take m5 (List.drop (0 : Nat) s5) ++
  (s0, (↑(m3 + (1 : Nat)) : Int), ()) ::
  nilT
  ((Cd.int IntKind.i64).pair
  ((Cd.int IntKind.i64).pair Cd.unit)).den))])))
  (Br.leaf
  (V.tup
  [V.agg
  [V.i IntKind.i64 s0, V.ref (0 : Nat) (0 : Nat) m1, V.i IntKind.i64 s2,
  V.ref (4 : Nat) (0 : Nat) (m3 + (1 : Nat)),
  V.ref (5 : Nat) (0 : Nat)
  ((0 : Nat) +
  (List.take (x1.toNat - (0 : Nat))
  (List.drop (0 : Nat) s4)).length +
  (List.take (m4 - (IntKind.i64.wrap (x1 + (1 : Int))).toNat)
  (List.drop
  ((0 : Nat) + (IntKind.i64.wrap (x1 + (1 : Int))).toNat)
  s4)).length),
  V.ref (3 : Nat) (0 : Nat) m5],
  V.b true],
  [some (Blk.row false n1 Cd.str s1), none,
  some
  (Blk.row false n4
  ((Cd.int IntKind.i64).pair
  ((Cd.int IntKind.i64).pair (Cd.str.pair Cd.unit)))
  s4),
  some
  (Blk.row false n5
  ((Cd.int IntKind.i64).pair ((Cd.int IntKind.i64).pair Cd.unit)) s5),
  some
  (Blk.row false (some false) Cd.str
  (List.take m3 (List.drop (0 : Nat) s3) ++
  z.snd.snd.fst :: nilT Cd.str.den)),
  some
  (Blk.row false (some false)
  ((Cd.int IntKind.i64).pair
  ((Cd.int IntKind.i64).pair (Cd.str.pair Cd.unit)))
  (List.take
  ((0 : Nat) +
  (List.take (x1.toNat - (0 : Nat))
  (List.drop (0 : Nat) s4)).length)
  (List.drop (0 : Nat)
  (nilT
  ((Cd.int IntKind.i64).pair
  ((Cd.int IntKind.i64).pair (Cd.str.pair Cd.unit))).den ++
  List.take (x1.toNat - (0 : Nat)) (List.drop (0 : Nat) s4))) ++
  List.take (m4 - (IntKind.i64.wrap (x1 + (1 : Int))).toNat)
  (List.drop ((0 : Nat) + (IntKind.i64.wrap (x1 + (1 : Int))).toNat)
  s4)))]))))
  (Br.br (decide ((↑m5 : Int) < (12 : Int)))
  (Br.need
  (decide ((m5 + (1 : Nat)) * (16 : Nat) ≤ (140737488355328 : Nat)) &&
  decide (m5 + (1 : Nat) ≤ maxI))
  (Br.leaf
  (V.tup
  [V.agg
  [V.i IntKind.i64 s0, V.ref (0 : Nat) (0 : Nat) m1, V.i IntKind.i64 s2,
  V.ref (1 : Nat) (0 : Nat) m3,
  V.ref (4 : Nat) (0 : Nat)
  ((0 : Nat) +
  (List.take (x1.toNat - (0 : Nat))
  (List.drop (0 : Nat) s4)).length +
  (List.take (m4 - (IntKind.i64.wrap (x1 + (1 : Int))).toNat)
  (List.drop
  ((0 : Nat) + (IntKind.i64.wrap (x1 + (1 : Int))).toNat)
  s4)).length),
  V.ref (5 : Nat) (0 : Nat) (m5 + (1 : Nat))],
  V.b true],
  [some (Blk.row false n1 Cd.str s1), some (Blk.row false n3 Cd.str s3),
  some
  (Blk.row false n4
  ((Cd.int IntKind.i64).pair
  ((Cd.int IntKind.i64).pair (Cd.str.pair Cd.unit)))
  s4),
  none,
  some
  (Blk.row false (some false)
  ((Cd.int IntKind.i64).pair
  ((Cd.int IntKind.i64).pair (Cd.str.pair Cd.unit)))
  (List.take
  ((0 : Nat) +
  (List.take (x1.toNat - (0 : Nat))
  (List.drop (0 : Nat) s4)).length)
  (List.drop (0 : Nat)
  (nilT
  ((Cd.int IntKind.i64).pair
  ((Cd.int IntKind.i64).pair (Cd.str.pair Cd.unit))).den ++
  List.take (x1.toNat - (0 : Nat)) (List.drop (0 : Nat) s4))) ++
  List.take (m4 - (IntKind.i64.wrap (x1 + (1 : Int))).toNat)
  (List.drop ((0 : Nat) + (IntKind.i64.wrap (x1 + (1 : Int))).toNat)
  s4))),
  some
  (Blk.row false (some false)
  ((Cd.int IntKind.i64).pair ((Cd.int IntKind.i64).pair Cd.unit))
  (List.take m5 (List.drop (0 : Nat) s5) ++
  (s0, (↑m3 : Int), ()) ::
  nilT
  ((Cd.int IntKind.i64).pair
  ((Cd.int IntKind.i64).pair Cd.unit)).den))])))
  (Br.leaf
  (V.tup
  [V.agg
  [V.i IntKind.i64 s0, V.ref (0 : Nat) (0 : Nat) m1, V.i IntKind.i64 s2,
  V.ref (1 : Nat) (0 : Nat) m3,
  V.ref (4 : Nat) (0 : Nat)
  ((0 : Nat) +
  (List.take (x1.toNat - (0 : Nat))
  (List.drop (0 : Nat) s4)).length +
  (List.take (m4 - (IntKind.i64.wrap (x1 + (1 : Int))).toNat)
  (List.drop
  ((0 : Nat) + (IntKind.i64.wrap (x1 + (1 : Int))).toNat)
  s4)).length),
  V.ref (3 : Nat) (0 : Nat) m5],
  V.b true],
  [some (Blk.row false n1 Cd.str s1), some (Blk.row false n3 Cd.str s3),
  some
  (Blk.row false n4
  ((Cd.int IntKind.i64).pair
  ((Cd.int IntKind.i64).pair (Cd.str.pair Cd.unit)))
  s4),
  some
  (Blk.row false n5
  ((Cd.int IntKind.i64).pair ((Cd.int IntKind.i64).pair Cd.unit)) s5),
  some
  (Blk.row false (some false)
  ((Cd.int IntKind.i64).pair
  ((Cd.int IntKind.i64).pair (Cd.str.pair Cd.unit)))
  (List.take
  ((0 : Nat) +
  (List.take (x1.toNat - (0 : Nat)) (List.drop (0 : Nat) s4)).length)
  (List.drop (0 : Nat)
  (nilT
  ((Cd.int IntKind.i64).pair
  ((Cd.int IntKind.i64).pair (Cd.str.pair Cd.unit))).den ++
  List.take (x1.toNat - (0 : Nat)) (List.drop (0 : Nat) s4))) ++
  List.take (m4 - (IntKind.i64.wrap (x1 + (1 : Int))).toNat)
  (List.drop ((0 : Nat) + (IntKind.i64.wrap (x1 + (1 : Int))).toNat)
  s4)))])))))
  (Br.leaf
  (V.tup
  [V.agg
  [V.i IntKind.i64 s0, V.ref (0 : Nat) (0 : Nat) m1, V.i IntKind.i64 s2,
  V.ref (1 : Nat) (0 : Nat) m3,
  V.ref (4 : Nat) (0 : Nat)
  ((0 : Nat) +
  (List.take (x1.toNat - (0 : Nat)) (List.drop (0 : Nat) s4)).length +
  (List.take (m4 - (IntKind.i64.wrap (x1 + (1 : Int))).toNat)
  (List.drop ((0 : Nat) + (IntKind.i64.wrap (x1 + (1 : Int))).toNat)
  s4)).length),
  V.ref (3 : Nat) (0 : Nat) m5],
  V.b true],
  [some (Blk.row false n1 Cd.str s1), some (Blk.row false n3 Cd.str s3),
  some
  (Blk.row false n4
  ((Cd.int IntKind.i64).pair ((Cd.int IntKind.i64).pair (Cd.str.pair Cd.unit)))
  s4),
  some
  (Blk.row false n5 ((Cd.int IntKind.i64).pair ((Cd.int IntKind.i64).pair Cd.unit))
  s5),
  some
  (Blk.row false (some false)
  ((Cd.int IntKind.i64).pair ((Cd.int IntKind.i64).pair (Cd.str.pair Cd.unit)))
  (List.take
  ((0 : Nat) +
  (List.take (x1.toNat - (0 : Nat)) (List.drop (0 : Nat) s4)).length)
  (List.drop (0 : Nat)
  (nilT
  ((Cd.int IntKind.i64).pair
  ((Cd.int IntKind.i64).pair (Cd.str.pair Cd.unit))).den ++
  List.take (x1.toNat - (0 : Nat)) (List.drop (0 : Nat) s4))) ++
  List.take (m4 - (IntKind.i64.wrap (x1 + (1 : Int))).toNat)
  (List.drop ((0 : Nat) + (IntKind.i64.wrap (x1 + (1 : Int))).toNat)
  s4)))]))))))))))))))))
  | _, _ => .no
theorem oSend_fun (k : Int) (s0 : Int) (m1 : Nat) (s2 : Int) (m3 m4 m5 : Nat) (n1 : Option Bool) (s1 : List (List UInt8)) (n3 : Option Bool) (s3 : List (List UInt8)) (n4 : Option Bool) (s4 : List (Int × Int × List UInt8 × Unit)) (n5 : Option Bool) (s5 : List (Int × Int × Unit)) : funK Try.prog (look [(94, .rd1 withinG), (133, .rd1 oTopG)]) (look []) Try.f70 [.ptr 0 0, .i .i64 k] [.box [.i .i64 s0, .ref 1 0 m1, .i .i64 s2, .ref 2 0 m3, .ref 3 0 m4, .ref 4 0 m5], .row false n1 .str s1, .row false n3 .str s3, .row false n4 (.pair (.int .i64) (.pair (.int .i64) (.pair .str .unit))) s4, .row false n5 (.pair (.int .i64) (.pair (.int .i64) .unit)) s5] = (oSendG [.ptr 0 0, .i .i64 k] [.box [.i .i64 s0, .ref 1 0 m1, .i .i64 s2, .ref 2 0 m3, .ref 3 0 m4, .ref 4 0 m5], .row false n1 .str s1, .row false n3 .str s3, .row false n4 (.pair (.int .i64) (.pair (.int .i64) (.pair .str .unit))) s4, .row false n5 (.pair (.int .i64) (.pair (.int .i64) .unit)) s5]).run := by kernel_rfl
theorem oSend : Contract Try.prog 70 (Ent.own oSendG).F := by
  refine fun_contract' (KnowsL.cons (enters_fn Try.func94 (by kernel_rfl) (by kernel_rfl)) within (KnowsL.cons (enters_fn Try.func133 (by kernel_rfl) (by kernel_rfl)) oTop KnowsL.nil)).knows (Λ := look []) Try.func70 (c := Try.f70.body.getD .skip) (by kernel_rfl) fun vs bs r h hv hb => ?_
  unfold Ent.F oSendG at h
  dsimp only at h
  split at h
  · rename_i k s0 m1 s2 m3 m4 m5 n1 s1 n3 s3 n4 s4 n5 s5
    exact ⟨loopsOk_nil _, (oSend_fun k s0 m1 s2 m3 m4 m5 n1 s1 n3 s3 n4 s4 n5 s5).trans h⟩
  · cases h
theorem l15Step_fun (s0 : Int) (m1 : Nat) (s2 : Int) (m3 m4 m5 : Nat) (x0 x1 : Int) (x2 : List UInt8) (n1 : Option Bool) (s1 : List (List UInt8)) (n3 : Option Bool) (s3 : List (List UInt8)) (n4 : Option Bool) (s4 : List (Int × Int × List UInt8 × Unit)) (n5 : Option Bool) (s5 : List (Int × Int × Unit)) : funK Try.prog (look [(116, .rd1 l15TextG), (117, .rd1 l1InG), (125, .own l15ComeG)]) (look []) Try.f64 [.agg [.i .i64 s0, .ref 0 0 m1, .i .i64 s2, .ref 1 0 m3, .ref 2 0 m4, .ref 3 0 m5], .agg [.i .i64 x0, .i .i64 x1, .s x2]] [.row false n1 .str s1, .row false n3 .str s3, .row false n4 (.pair (.int .i64) (.pair (.int .i64) (.pair .str .unit))) s4, .row false n5 (.pair (.int .i64) (.pair (.int .i64) .unit)) s5] = (l15StepG [.agg [.i .i64 s0, .ref 0 0 m1, .i .i64 s2, .ref 1 0 m3, .ref 2 0 m4, .ref 3 0 m5], .agg [.i .i64 x0, .i .i64 x1, .s x2]] [.row false n1 .str s1, .row false n3 .str s3, .row false n4 (.pair (.int .i64) (.pair (.int .i64) (.pair .str .unit))) s4, .row false n5 (.pair (.int .i64) (.pair (.int .i64) .unit)) s5]).run := by kernel_rfl
theorem l15Step : Contract Try.prog 64 (Ent.own l15StepG).F := by
  refine fun_contract' (KnowsL.cons (enters_fn Try.func116 (by kernel_rfl) (by kernel_rfl)) l15Text (KnowsL.cons (enters_fn Try.func117 (by kernel_rfl) (by kernel_rfl)) l1In (KnowsL.cons (enters_fn Try.func125 (by kernel_rfl) (by kernel_rfl)) l15Come KnowsL.nil))).knows (Λ := look []) Try.func64 (c := Try.f64.body.getD .skip) (by kernel_rfl) fun vs bs r h hv hb => ?_
  unfold Ent.F l15StepG at h
  dsimp only at h
  split at h
  · rename_i s0 m1 s2 m3 m4 m5 x0 x1 x2 n1 s1 n3 s3 n4 s4 n5 s5
    exact ⟨loopsOk_nil _, (l15Step_fun s0 m1 s2 m3 m4 m5 x0 x1 x2 n1 s1 n3 s3 n4 s4 n5 s5).trans h⟩
  · cases h
end Go.Proofs.Ytjghbihlgfjebaa.Den
