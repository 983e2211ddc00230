/- What functions of the program do, by the machine: Step1. -/
import Derived.Test.YtjghbihlgfjebaaDDelete
import Derived.KernelRfl
import Derived.Test.YtjghbihlgfjebaaRows
namespace Go.Proofs.Ytjghbihlgfjebaa.Den
open Go.Proofs
set_option maxRecDepth 100000
def l15ComeG : List V → List Blk → Br (V × List (Option Blk))
  | [.agg [.i .i64 s0, .ref 0 0 m1, .i .i64 s2, .ref 1 0 m3, .ref 2 0 m4, .ref 3 0 m5], .agg [.i .i64 x0, .i .i64 x1, .s x2]], [.row false n1 .str s1, .row false n3 .str s3, .row false n4 (.pair (.int .i64) (.pair (.int .i64) (.pair .str .unit))) s4, .row false n5 (.pair (.int .i64) (.pair (.int .i64) .unit)) s5] => (Br.br (x0 != s0)
  (Br.leaf
  (V.agg
  [V.i IntKind.i64 s0, V.ref (0 : Nat) (0 : Nat) m1, V.i IntKind.i64 s2, V.ref (1 : Nat) (0 : Nat) m3,
  V.ref (2 : Nat) (0 : Nat) m4, V.ref (3 : Nat) (0 : Nat) m5],
  [some (Blk.row false n1 Cd.str s1), some (Blk.row false n3 Cd.str s3),
  some (Blk.row false n4 ((Cd.int IntKind.i64).pair ((Cd.int IntKind.i64).pair (Cd.str.pair Cd.unit))) s4),
  some (Blk.row false n5 ((Cd.int IntKind.i64).pair ((Cd.int IntKind.i64).pair Cd.unit)) s5)]))
  (Br.br (x1 == (↑m3 : Int))
  (Br.need (decide ((m3 + (1 : Nat)) * (16 : Nat) ≤ (140737488355328 : Nat)) && decide (m3 + (1 : Nat) ≤ maxI))
  (Br.br (decide ((↑m5 : Int) < (12 : Int)))
  (Br.need (decide ((m5 + (1 : Nat)) * (16 : Nat) ≤ (140737488355328 : Nat)) && decide (m5 + (1 : Nat) ≤ maxI))
  (Br.leaf
  (V.agg
  [V.i IntKind.i64 s0, V.ref (0 : Nat) (0 : Nat) m1, V.i IntKind.i64 s2,
  V.ref (4 : Nat) (0 : Nat) (m3 + (1 : Nat)), V.ref (2 : Nat) (0 : Nat) m4,
  V.ref (5 : Nat) (0 : Nat) (m5 + (1 : Nat))],
  [some (Blk.row false n1 Cd.str s1), none,
  some
  (Blk.row false n4 ((Cd.int IntKind.i64).pair ((Cd.int IntKind.i64).pair (Cd.str.pair Cd.unit))) s4),
  none,
  some
  (Blk.row false (some false) Cd.str (List.take m3 (List.drop (0 : Nat) s3) ++ x2 :: nilT Cd.str.den)),
  some
  (Blk.row false (some false) ((Cd.int IntKind.i64).pair ((Cd.int IntKind.i64).pair Cd.unit))
  (List.take m5 (List.drop (0 : Nat) s5) ++
  (s0, (↑(m3 + (1 : Nat)) : Int), ()) ::
  nilT ((Cd.int IntKind.i64).pair ((Cd.int IntKind.i64).pair Cd.unit)).den))])))
  (Br.leaf
  (V.agg
  [V.i IntKind.i64 s0, V.ref (0 : Nat) (0 : Nat) m1, V.i IntKind.i64 s2,
  V.ref (4 : Nat) (0 : Nat) (m3 + (1 : Nat)), V.ref (2 : Nat) (0 : Nat) m4, V.ref (3 : Nat) (0 : Nat) m5],
  [some (Blk.row false n1 Cd.str s1), none,
  some (Blk.row false n4 ((Cd.int IntKind.i64).pair ((Cd.int IntKind.i64).pair (Cd.str.pair Cd.unit))) s4),
  some (Blk.row false n5 ((Cd.int IntKind.i64).pair ((Cd.int IntKind.i64).pair Cd.unit)) s5),
  some
  (Blk.row false (some false) Cd.str
  (List.take m3 (List.drop (0 : Nat) s3) ++ x2 :: nilT Cd.str.den))]))))
  (Br.br (decide ((↑m5 : Int) < (12 : Int)))
  (Br.need (decide ((m5 + (1 : Nat)) * (16 : Nat) ≤ (140737488355328 : Nat)) && decide (m5 + (1 : Nat) ≤ maxI))
  (Br.leaf
  (V.agg
  [V.i IntKind.i64 s0, V.ref (0 : Nat) (0 : Nat) m1, V.i IntKind.i64 s2, V.ref (1 : Nat) (0 : Nat) m3,
  V.ref (2 : Nat) (0 : Nat) m4, V.ref (4 : Nat) (0 : Nat) (m5 + (1 : Nat))],
  [some (Blk.row false n1 Cd.str s1), some (Blk.row false n3 Cd.str s3),
  some (Blk.row false n4 ((Cd.int IntKind.i64).pair ((Cd.int IntKind.i64).pair (Cd.str.pair Cd.unit))) s4),
  none,
  some
  (Blk.row false (some false) ((Cd.int IntKind.i64).pair ((Cd.int IntKind.i64).pair Cd.unit))
  (List.take m5 (List.drop (0 : Nat) s5) ++
  (s0, (↑m3 : Int), ()) ::
  nilT ((Cd.int IntKind.i64).pair ((Cd.int IntKind.i64).pair Cd.unit)).den))])))
  (Br.leaf
  (V.agg
  [V.i IntKind.i64 s0, V.ref (0 : Nat) (0 : Nat) m1, V.i IntKind.i64 s2, V.ref (1 : Nat) (0 : Nat) m3,
  V.ref (2 : Nat) (0 : Nat) m4, V.ref (3 : Nat) (0 : Nat) m5],
  [some (Blk.row false n1 Cd.str s1), some (Blk.row false n3 Cd.str s3),
  some (Blk.row false n4 ((Cd.int IntKind.i64).pair ((Cd.int IntKind.i64).pair (Cd.str.pair Cd.unit))) s4),
  some (Blk.row false n5 ((Cd.int IntKind.i64).pair ((Cd.int IntKind.i64).pair Cd.unit)) s5)])))))
  | _, _ => .no
def l15OwnG : List V → List Blk → Br (V × List (Option Blk))
  | [.agg [.i .i64 s0, .sl .str s1, .i .i64 s2, .sl .str s3, .sl (.pair (.int .i64) (.pair (.int .i64) (.pair .str .unit))) s4, .sl (.pair (.int .i64) (.pair (.int .i64) .unit)) s5]], [] => (Br.need
  (decide (((0 : Nat) + s1.length) * (16 : Nat) ≤ (140737488355328 : Nat)) && decide ((0 : Nat) + s1.length ≤ maxI))
  (Br.need
  (decide (((0 : Nat) + s3.length) * (16 : Nat) ≤ (140737488355328 : Nat)) && decide ((0 : Nat) + s3.length ≤ maxI))
  (Br.need
  (decide (((0 : Nat) + s4.length) * (32 : Nat) ≤ (140737488355328 : Nat)) && decide ((0 : Nat) + s4.length ≤ maxI))
  (Br.need
  (decide (((0 : Nat) + s5.length) * (16 : Nat) ≤ (140737488355328 : Nat)) &&
  decide ((0 : Nat) + s5.length ≤ maxI))
  (Br.leaf
  (V.agg
  [V.i IntKind.i64 s0, V.ref (0 : Nat) (0 : Nat) ((0 : Nat) + s1.length), V.i IntKind.i64 s2,
  V.ref (1 : Nat) (0 : Nat) ((0 : Nat) + s3.length), V.ref (2 : Nat) (0 : Nat) ((0 : Nat) + s4.length),
  V.ref (3 : Nat) (0 : Nat) ((0 : Nat) + s5.length)],
  [some (Blk.row false (some false) Cd.str (nilT Cd.str.den ++ s1)),
  some (Blk.row false (some false) Cd.str (nilT Cd.str.den ++ s3)),
  some
  (Blk.row false (some false)
  ((Cd.int IntKind.i64).pair ((Cd.int IntKind.i64).pair (Cd.str.pair Cd.unit)))
  (nilT ((Cd.int IntKind.i64).pair ((Cd.int IntKind.i64).pair (Cd.str.pair Cd.unit))).den ++ s4)),
  some
  (Blk.row false (some false) ((Cd.int IntKind.i64).pair ((Cd.int IntKind.i64).pair Cd.unit))
  (nilT ((Cd.int IntKind.i64).pair ((Cd.int IntKind.i64).pair Cd.unit)).den ++ s5))]))))))
  | _, _ => .no
def cloneSessionG : List V → List Blk → Br (V × List (Option Blk))
  | [.agg [.i .i64 s0, .sl .str s1, .i .i64 s2, .sl .str s3, .sl (.pair (.int .i64) (.pair (.int .i64) (.pair .str .unit))) s4, .sl (.pair (.int .i64) (.pair (.int .i64) .unit)) s5]], [] => (Br.need (decide (s1.length ≤ (1000000000 : Nat)))
  (Br.need (decide (s3.length ≤ (1000000000 : Nat)))
  (Br.need (decide (s4.length ≤ (1000000000 : Nat)))
  (Br.need (decide (s5.length ≤ (1000000000 : Nat)))
  (Br.leaf
  (V.agg
  [V.i IntKind.i64 s0, V.ref (0 : Nat) (0 : Nat) s1.length, V.i IntKind.i64 s2,
  V.ref (1 : Nat) (0 : Nat) s3.length, V.ref (2 : Nat) (0 : Nat) s4.length,
  V.ref (3 : Nat) (0 : Nat) s5.length],
  [some (Blk.row false none Cd.str s1), some (Blk.row false none Cd.str s3),
  some
  (Blk.row false none ((Cd.int IntKind.i64).pair ((Cd.int IntKind.i64).pair (Cd.str.pair Cd.unit))) s4),
  some (Blk.row false none ((Cd.int IntKind.i64).pair ((Cd.int IntKind.i64).pair Cd.unit)) s5)]))))))
  | _, _ => .no
def oTopG : List V → List Blk → Br (V × List (Option Blk))
  | [.bx [.i .i64 s0, .sl .str s1, .i .i64 s2, .sl .str s3, .sl (.pair (.int .i64) (.pair (.int .i64) (.pair .str .unit))) s4, .sl (.pair (.int .i64) (.pair (.int .i64) .unit)) s5] 0], [] => (Br.leaf
  (V.i IntKind.i64
  (if (↑s1.length : Int) < IntKind.i64.wrap (s2 + (4 : Int)) then (↑s1.length : Int)
  else IntKind.i64.wrap (s2 + (4 : Int))),
  []))
  | _, _ => .no
def oTakeG : List V → List Blk → Br (V × List (Option Blk))
  | [.ptr 0 0, .i .i64 k], [.box [.i .i64 s0, .ref 1 0 m1, .i .i64 s2, .ref 2 0 m3, .ref 3 0 m4, .ref 4 0 m5], .row false n1 .str s1, .row false n3 .str s3, .row false n4 (.pair (.int .i64) (.pair (.int .i64) (.pair .str .unit))) s4, .row false n5 (.pair (.int .i64) (.pair (.int .i64) .unit)) s5] => (Br.need (decide ((0 : Int) ≤ k) && decide (k < (↑m4 : Int)))
  (Br.opt ((Cd.int IntKind.i64).pair ((Cd.int IntKind.i64).pair (Cd.str.pair Cd.unit))) s4[(0 : Nat) + k.toNat]?
  fun z =>
  Br.need
  (decide
  ((0 : Int) ≤ k ∧
  IntKind.i64.wrap (k + (1 : Int)) = k + (1 : Int) ∧
  IntKind.i64.wrap (k + (1 : Int)) ≤ (↑m4 : Int) ∧ (0 : Nat) + m4 ≤ s4.length ∧ m4 ≤ maxI))
  (Br.br (z.fst != s0)
  (Br.leaf
  (V.tup [],
  [some
  (Blk.box
  [V.i IntKind.i64 s0, V.ref (1 : Nat) (0 : Nat) m1, V.i IntKind.i64 s2, V.ref (2 : Nat) (0 : Nat) m3,
  V.ref (5 : Nat) (0 : Nat) (m4 - (1 : Nat)), V.ref (4 : Nat) (0 : Nat) m5]),
  some (Blk.row false n1 Cd.str s1), some (Blk.row false n3 Cd.str s3), none,
  some (Blk.row false n5 ((Cd.int IntKind.i64).pair ((Cd.int IntKind.i64).pair Cd.unit)) s5),
  some
  (Blk.row false none ((Cd.int IntKind.i64).pair ((Cd.int IntKind.i64).pair (Cd.str.pair Cd.unit)))
  ((List.take m4 (List.drop (0 : Nat) s4)).eraseIdx k.toNat))]))
  (Br.br (z.snd.fst == (↑m3 : Int))
  (Br.need (decide ((m3 + (1 : Nat)) * (16 : Nat) ≤ (140737488355328 : Nat)) && decide (m3 + (1 : Nat) ≤ maxI))
  (Br.br (decide ((↑m5 : Int) < (12 : Int)))
  (Br.need
  (decide ((m5 + (1 : Nat)) * (16 : Nat) ≤ (140737488355328 : Nat)) && decide (m5 + (1 : Nat) ≤ maxI))
  (Br.leaf
  (V.tup [],
  [some
  (Blk.box
  [V.i IntKind.i64 s0, V.ref (1 : Nat) (0 : Nat) m1, V.i IntKind.i64 s2,
  V.ref (5 : Nat) (0 : Nat) (m3 + (1 : Nat)), V.ref (6 : Nat) (0 : Nat) (m4 - (1 : Nat)),
  V.ref (7 : Nat) (0 : Nat) (m5 + (1 : Nat))]),
  some (Blk.row false n1 Cd.str s1), none, none, none,
  some
  (Blk.row false (some false) Cd.str
  (List.take m3 (List.drop (0 : Nat) s3) ++ z.snd.snd.fst :: nilT Cd.str.den)),
  some
  (Blk.row false none
  ((Cd.int IntKind.i64).pair ((Cd.int IntKind.i64).pair (Cd.str.pair Cd.unit)))
  ((List.take m4 (List.drop (0 : Nat) s4)).eraseIdx k.toNat)),
  some
  (Blk.row false (some false) ((Cd.int IntKind.i64).pair ((Cd.int IntKind.i64).pair Cd.unit))
  (List.take m5 (List.drop (0 : Nat) s5) ++
  (s0, (↑(m3 + (1 : Nat)) : Int), ()) ::
  nilT ((Cd.int IntKind.i64).pair ((Cd.int IntKind.i64).pair Cd.unit)).den))])))
  (Br.leaf
  (V.tup [],
  [some
  (Blk.box
  [V.i IntKind.i64 s0, V.ref (1 : Nat) (0 : Nat) m1, V.i IntKind.i64 s2,
  V.ref (5 : Nat) (0 : Nat) (m3 + (1 : Nat)), V.ref (6 : Nat) (0 : Nat) (m4 - (1 : Nat)),
  V.ref (4 : Nat) (0 : Nat) m5]),
  some (Blk.row false n1 Cd.str s1), none, none,
  some (Blk.row false n5 ((Cd.int IntKind.i64).pair ((Cd.int IntKind.i64).pair Cd.unit)) s5),
  some
  (Blk.row false (some false) Cd.str
  (List.take m3 (List.drop (0 : Nat) s3) ++ z.snd.snd.fst :: nilT Cd.str.den)),
  some
  (Blk.row false none ((Cd.int IntKind.i64).pair ((Cd.int IntKind.i64).pair (Cd.str.pair Cd.unit)))
  ((List.take m4 (List.drop (0 : Nat) s4)).eraseIdx k.toNat))]))))
  (Br.br (decide ((↑m5 : Int) < (12 : Int)))
  (Br.need
  (decide ((m5 + (1 : Nat)) * (16 : Nat) ≤ (140737488355328 : Nat)) && decide (m5 + (1 : Nat) ≤ maxI))
  (Br.leaf
  (V.tup [],
  [some
  (Blk.box
  [V.i IntKind.i64 s0, V.ref (1 : Nat) (0 : Nat) m1, V.i IntKind.i64 s2,
  V.ref (2 : Nat) (0 : Nat) m3, V.ref (5 : Nat) (0 : Nat) (m4 - (1 : Nat)),
  V.ref (6 : Nat) (0 : Nat) (m5 + (1 : Nat))]),
  some (Blk.row false n1 Cd.str s1), some (Blk.row false n3 Cd.str s3), none, none,
  some
  (Blk.row false none ((Cd.int IntKind.i64).pair ((Cd.int IntKind.i64).pair (Cd.str.pair Cd.unit)))
  ((List.take m4 (List.drop (0 : Nat) s4)).eraseIdx k.toNat)),
  some
  (Blk.row false (some false) ((Cd.int IntKind.i64).pair ((Cd.int IntKind.i64).pair Cd.unit))
  (List.take m5 (List.drop (0 : Nat) s5) ++
  (s0, (↑m3 : Int), ()) ::
  nilT ((Cd.int IntKind.i64).pair ((Cd.int IntKind.i64).pair Cd.unit)).den))])))
  (Br.leaf
  (V.tup [],
  [some
  (Blk.box
  [V.i IntKind.i64 s0, V.ref (1 : Nat) (0 : Nat) m1, V.i IntKind.i64 s2,
  V.ref (2 : Nat) (0 : Nat) m3, V.ref (5 : Nat) (0 : Nat) (m4 - (1 : Nat)),
  V.ref (4 : Nat) (0 : Nat) m5]),
  some (Blk.row false n1 Cd.str s1), some (Blk.row false n3 Cd.str s3), none,
  some (Blk.row false n5 ((Cd.int IntKind.i64).pair ((Cd.int IntKind.i64).pair Cd.unit)) s5),
  some
  (Blk.row false none ((Cd.int IntKind.i64).pair ((Cd.int IntKind.i64).pair (Cd.str.pair Cd.unit)))
  ((List.take m4 (List.drop (0 : Nat) s4)).eraseIdx k.toNat))])))))))
  | _, _ => .no
def oAckG : List V → List Blk → Br (V × List (Option Blk))
  | [.ptr 0 0, .i .i64 k], [.box [.i .i64 s0, .ref 1 0 m1, .i .i64 s2, .ref 2 0 m3, .ref 3 0 m4, .ref 4 0 m5], .row false n1 .str s1, .row false n3 .str s3, .row false n4 (.pair (.int .i64) (.pair (.int .i64) (.pair .str .unit))) s4, .row false n5 (.pair (.int .i64) (.pair (.int .i64) .unit)) s5] => (Br.need (decide ((0 : Int) ≤ k) && decide (k < (↑m5 : Int)))
  (Br.opt ((Cd.int IntKind.i64).pair ((Cd.int IntKind.i64).pair Cd.unit)) s5[(0 : Nat) + k.toNat]? fun z =>
  Br.need
  (decide
  ((0 : Int) ≤ k ∧
  IntKind.i64.wrap (k + (1 : Int)) = k + (1 : Int) ∧
  IntKind.i64.wrap (k + (1 : Int)) ≤ (↑m5 : Int) ∧ (0 : Nat) + m5 ≤ s5.length ∧ m5 ≤ maxI))
  (Br.br (z.fst == s0)
  (Br.leaf
  (V.tup [],
  [some
  (Blk.box
  [V.i IntKind.i64 s0, V.ref (1 : Nat) (0 : Nat) m1,
  V.i IntKind.i64 (if z.snd.fst > s2 then z.snd.fst else s2), V.ref (2 : Nat) (0 : Nat) m3,
  V.ref (3 : Nat) (0 : Nat) m4, V.ref (5 : Nat) (0 : Nat) (m5 - (1 : Nat))]),
  some (Blk.row false n1 Cd.str s1), some (Blk.row false n3 Cd.str s3),
  some (Blk.row false n4 ((Cd.int IntKind.i64).pair ((Cd.int IntKind.i64).pair (Cd.str.pair Cd.unit))) s4),
  none,
  some
  (Blk.row false none ((Cd.int IntKind.i64).pair ((Cd.int IntKind.i64).pair Cd.unit))
  ((List.take m5 (List.drop (0 : Nat) s5)).eraseIdx k.toNat))]))
  (Br.leaf
  (V.tup [],
  [some
  (Blk.box
  [V.i IntKind.i64 s0, V.ref (1 : Nat) (0 : Nat) m1, V.i IntKind.i64 s2, V.ref (2 : Nat) (0 : Nat) m3,
  V.ref (3 : Nat) (0 : Nat) m4, V.ref (5 : Nat) (0 : Nat) (m5 - (1 : Nat))]),
  some (Blk.row false n1 Cd.str s1), some (Blk.row false n3 Cd.str s3),
  some (Blk.row false n4 ((Cd.int IntKind.i64).pair ((Cd.int IntKind.i64).pair (Cd.str.pair Cd.unit))) s4),
  none,
  some
  (Blk.row false none ((Cd.int IntKind.i64).pair ((Cd.int IntKind.i64).pair Cd.unit))
  ((List.take m5 (List.drop (0 : Nat) s5)).eraseIdx k.toNat))])))))
  | _, _ => .no
theorem l15Come_fun (s0 : Int) (m1 : Nat) (s2 : Int) (m3 m4 m5 : Nat) (x0 x1 : Int) (x2 : List UInt8) (n1 : Option Bool) (s1 : List (List UInt8)) (n3 : Option Bool) (s3 : List (List UInt8)) (n4 : Option Bool) (s4 : List (Int × Int × List UInt8 × Unit)) (n5 : Option Bool) (s5 : List (Int × Int × Unit)) : funK Try.prog (look []) (look []) Try.f125 [.agg [.i .i64 s0, .ref 0 0 m1, .i .i64 s2, .ref 1 0 m3, .ref 2 0 m4, .ref 3 0 m5], .agg [.i .i64 x0, .i .i64 x1, .s x2]] [.row false n1 .str s1, .row false n3 .str s3, .row false n4 (.pair (.int .i64) (.pair (.int .i64) (.pair .str .unit))) s4, .row false n5 (.pair (.int .i64) (.pair (.int .i64) .unit)) s5] = (l15ComeG [.agg [.i .i64 s0, .ref 0 0 m1, .i .i64 s2, .ref 1 0 m3, .ref 2 0 m4, .ref 3 0 m5], .agg [.i .i64 x0, .i .i64 x1, .s x2]] [.row false n1 .str s1, .row false n3 .str s3, .row false n4 (.pair (.int .i64) (.pair (.int .i64) (.pair .str .unit))) s4, .row false n5 (.pair (.int .i64) (.pair (.int .i64) .unit)) s5]).run := by kernel_rfl
theorem l15Come : Contract Try.prog 125 (Ent.own l15ComeG).F := by
  refine fun_contract' KnowsL.nil.knows (Λ := look []) Try.func125 (c := Try.f125.body.getD .skip) (by kernel_rfl) fun vs bs r h hv hb => ?_
  unfold Ent.F l15ComeG at h
  dsimp only at h
  split at h
  · rename_i s0 m1 s2 m3 m4 m5 x0 x1 x2 n1 s1 n3 s3 n4 s4 n5 s5
    exact ⟨loopsOk_nil _, (l15Come_fun s0 m1 s2 m3 m4 m5 x0 x1 x2 n1 s1 n3 s3 n4 s4 n5 s5).trans h⟩
  · cases h
theorem l15Own_fun (s0 : Int) (s1 : List (List UInt8)) (s2 : Int) (s3 : List (List UInt8)) (s4 : List (Int × Int × List UInt8 × Unit)) (s5 : List (Int × Int × Unit)) : funK Try.prog (look []) (look []) Try.f63 [.agg [.i .i64 s0, .sl .str s1, .i .i64 s2, .sl .str s3, .sl (.pair (.int .i64) (.pair (.int .i64) (.pair .str .unit))) s4, .sl (.pair (.int .i64) (.pair (.int .i64) .unit)) s5]] [] = (l15OwnG [.agg [.i .i64 s0, .sl .str s1, .i .i64 s2, .sl .str s3, .sl (.pair (.int .i64) (.pair (.int .i64) (.pair .str .unit))) s4, .sl (.pair (.int .i64) (.pair (.int .i64) .unit)) s5]] []).run := by kernel_rfl
theorem l15Own : Contract Try.prog 63 (Ent.rd1 l15OwnG).F := by
  refine fun_contract' KnowsL.nil.knows (Λ := look []) Try.func63 (c := Try.f63.body.getD .skip) (by kernel_rfl) fun vs bs r h hv hb => ?_
  unfold Ent.F l15OwnG at h
  dsimp only at h
  split at h
  · rename_i s0 s1 s2 s3 s4 s5
    exact ⟨loopsOk_nil _, (l15Own_fun s0 s1 s2 s3 s4 s5).trans h⟩
  · cases h
theorem cloneSession_fun (s0 : Int) (s1 : List (List UInt8)) (s2 : Int) (s3 : List (List UInt8)) (s4 : List (Int × Int × List UInt8 × Unit)) (s5 : List (Int × Int × Unit)) : funK Try.prog (look [(102, .rd1 cloneStrG), (128, .rd1 clonePacketG), (129, .rd1 cloneAckG)]) (look []) Try.f68 [.agg [.i .i64 s0, .sl .str s1, .i .i64 s2, .sl .str s3, .sl (.pair (.int .i64) (.pair (.int .i64) (.pair .str .unit))) s4, .sl (.pair (.int .i64) (.pair (.int .i64) .unit)) s5]] [] = (cloneSessionG [.agg [.i .i64 s0, .sl .str s1, .i .i64 s2, .sl .str s3, .sl (.pair (.int .i64) (.pair (.int .i64) (.pair .str .unit))) s4, .sl (.pair (.int .i64) (.pair (.int .i64) .unit)) s5]] []).run := by kernel_rfl
theorem cloneSession : Contract Try.prog 68 (Ent.rd1 cloneSessionG).F := by
  refine fun_contract' (KnowsL.cons (enters_fn Try.func102 (by kernel_rfl) (by kernel_rfl)) cloneStr (KnowsL.cons (enters_fn Try.func128 (by kernel_rfl) (by kernel_rfl)) clonePacket (KnowsL.cons (enters_fn Try.func129 (by kernel_rfl) (by kernel_rfl)) cloneAck KnowsL.nil))).knows (Λ := look []) Try.func68 (c := Try.f68.body.getD .skip) (by kernel_rfl) fun vs bs r h hv hb => ?_
  unfold Ent.F cloneSessionG at h
  dsimp only at h
  split at h
  · rename_i s0 s1 s2 s3 s4 s5
    exact ⟨loopsOk_nil _, (cloneSession_fun s0 s1 s2 s3 s4 s5).trans h⟩
  · cases h
theorem oTop_fun (s0 : Int) (s1 : List (List UInt8)) (s2 : Int) (s3 : List (List UInt8)) (s4 : List (Int × Int × List UInt8 × Unit)) (s5 : List (Int × Int × Unit)) : funK Try.prog (look []) (look []) Try.f133 [.bx [.i .i64 s0, .sl .str s1, .i .i64 s2, .sl .str s3, .sl (.pair (.int .i64) (.pair (.int .i64) (.pair .str .unit))) s4, .sl (.pair (.int .i64) (.pair (.int .i64) .unit)) s5] 0] [] = (oTopG [.bx [.i .i64 s0, .sl .str s1, .i .i64 s2, .sl .str s3, .sl (.pair (.int .i64) (.pair (.int .i64) (.pair .str .unit))) s4, .sl (.pair (.int .i64) (.pair (.int .i64) .unit)) s5] 0] []).run := by kernel_rfl
theorem oTop : Contract Try.prog 133 (Ent.rd1 oTopG).F := by
  refine fun_contract' KnowsL.nil.knows (Λ := look []) Try.func133 (c := Try.f133.body.getD .skip) (by kernel_rfl) fun vs bs r h hv hb => ?_
  unfold Ent.F oTopG at h
  dsimp only at h
  split at h
  · rename_i s0 s1 s2 s3 s4 s5
    exact ⟨loopsOk_nil _, (oTop_fun s0 s1 s2 s3 s4 s5).trans h⟩
  · cases h
theorem oTake_fun (k : Int) (s0 : Int) (m1 : Nat) (s2 : Int) (m3 m4 m5 : Nat) (n1 : Option Bool) (s1 : List (List UInt8)) (n3 : Option Bool) (s3 : List (List UInt8)) (n4 : Option Bool) (s4 : List (Int × Int × List UInt8 × Unit)) (n5 : Option Bool) (s5 : List (Int × Int × Unit)) : funK Try.prog (look [(145, .own delPacketG)]) (look []) Try.f132 [.ptr 0 0, .i .i64 k] [.box [.i .i64 s0, .ref 1 0 m1, .i .i64 s2, .ref 2 0 m3, .ref 3 0 m4, .ref 4 0 m5], .row false n1 .str s1, .row false n3 .str s3, .row false n4 (.pair (.int .i64) (.pair (.int .i64) (.pair .str .unit))) s4, .row false n5 (.pair (.int .i64) (.pair (.int .i64) .unit)) s5] = (oTakeG [.ptr 0 0, .i .i64 k] [.box [.i .i64 s0, .ref 1 0 m1, .i .i64 s2, .ref 2 0 m3, .ref 3 0 m4, .ref 4 0 m5], .row false n1 .str s1, .row false n3 .str s3, .row false n4 (.pair (.int .i64) (.pair (.int .i64) (.pair .str .unit))) s4, .row false n5 (.pair (.int .i64) (.pair (.int .i64) .unit)) s5]).run := by kernel_rfl
theorem oTake : Contract Try.prog 132 (Ent.own oTakeG).F := by
  refine fun_contract' (KnowsL.cons (enters_fn Try.func145 (by kernel_rfl) (by kernel_rfl)) delPacket KnowsL.nil).knows (Λ := look []) Try.func132 (c := Try.f132.body.getD .skip) (by kernel_rfl) fun vs bs r h hv hb => ?_
  unfold Ent.F oTakeG at h
  dsimp only at h
  split at h
  · rename_i k s0 m1 s2 m3 m4 m5 n1 s1 n3 s3 n4 s4 n5 s5
    exact ⟨loopsOk_nil _, (oTake_fun k s0 m1 s2 m3 m4 m5 n1 s1 n3 s3 n4 s4 n5 s5).trans h⟩
  · cases h
theorem oAck_fun (k : Int) (s0 : Int) (m1 : Nat) (s2 : Int) (m3 m4 m5 : Nat) (n1 : Option Bool) (s1 : List (List UInt8)) (n3 : Option Bool) (s3 : List (List UInt8)) (n4 : Option Bool) (s4 : List (Int × Int × List UInt8 × Unit)) (n5 : Option Bool) (s5 : List (Int × Int × Unit)) : funK Try.prog (look [(157, .own delAckG)]) (look []) Try.f131 [.ptr 0 0, .i .i64 k] [.box [.i .i64 s0, .ref 1 0 m1, .i .i64 s2, .ref 2 0 m3, .ref 3 0 m4, .ref 4 0 m5], .row false n1 .str s1, .row false n3 .str s3, .row false n4 (.pair (.int .i64) (.pair (.int .i64) (.pair .str .unit))) s4, .row false n5 (.pair (.int .i64) (.pair (.int .i64) .unit)) s5] = (oAckG [.ptr 0 0, .i .i64 k] [.box [.i .i64 s0, .ref 1 0 m1, .i .i64 s2, .ref 2 0 m3, .ref 3 0 m4, .ref 4 0 m5], .row false n1 .str s1, .row false n3 .str s3, .row false n4 (.pair (.int .i64) (.pair (.int .i64) (.pair .str .unit))) s4, .row false n5 (.pair (.int .i64) (.pair (.int .i64) .unit)) s5]).run := by kernel_rfl
theorem oAck : Contract Try.prog 131 (Ent.own oAckG).F := by
  refine fun_contract' (KnowsL.cons (enters_fn Try.func157 (by kernel_rfl) (by kernel_rfl)) delAck KnowsL.nil).knows (Λ := look []) Try.func131 (c := Try.f131.body.getD .skip) (by kernel_rfl) fun vs bs r h hv hb => ?_
  unfold Ent.F oAckG at h
  dsimp only at h
  split at h
  · rename_i k s0 m1 s2 m3 m4 m5 n1 s1 n3 s3 n4 s4 n5 s5
    exact ⟨loopsOk_nil _, (oAck_fun k s0 m1 s2 m3 m4 m5 n1 s1 n3 s3 n4 s4 n5 s5).trans h⟩
  · cases h
end Go.Proofs.Ytjghbihlgfjebaa.Den
