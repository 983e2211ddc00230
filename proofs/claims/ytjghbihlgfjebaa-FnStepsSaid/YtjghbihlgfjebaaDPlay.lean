/- What functions of the program do, by the machine: Play. -/
import Derived.Test.YtjghbihlgfjebaaDPlayV
import Derived.KernelRfl
import Derived.Test.YtjghbihlgfjebaaRows
namespace Go.Proofs.Ytjghbihlgfjebaa.Den
open Go.Proofs
set_option maxRecDepth 100000
/-- A play's session. -/
def playS (f : List UInt8) (l : List (Int × Int × List UInt8 × Unit)) : Ses := if f.length ≤ 20 ∧ l.length ≤ 200 then (Ses.mk 1 [f] 0 [] [] []).play l else ⟨0, [], 0, [], [], []⟩
/-- What it tells. -/
def playT (f : List UInt8) (l : List (Int × Int × List UInt8 × Unit)) : List Bool := if f.length ≤ 20 ∧ l.length ≤ 200 then (Ses.mk 1 [f] 0 [] [] []).tell l else []
def ipE : LoopEnt := ⟨43, [4,7,9,28,29,30], [4,7,9], [], fun
  | ([.ptr 0 0, .ptr 1 0, .ref 2 0 m, .sl (.pair (.int .i64) (.pair (.int .i64) (.pair .str .unit))) l, .i .i64 k, .i .i64 n], [some (.box [.i .i64 0, .ref 3 0 0, .i .i64 0, .ref 4 0 0, .ref 5 0 0, .ref 6 0 0]), some (.box [.i .i64 s0, .ref 7 0 m1, .i .i64 s2, .ref 8 0 m3, .ref 9 0 m4, .ref 10 0 m5]), some (.row false none .bool d), some (.row false none .str []), some (.row false none .str []), some (.row false none (.pair (.int .i64) (.pair (.int .i64) (.pair .str .unit))) []), some (.row false none (.pair (.int .i64) (.pair (.int .i64) .unit)) []), some (.row false none .str s1), some (.row false none .str s3), some (.row false none (.pair (.int .i64) (.pair (.int .i64) (.pair .str .unit))) s4), some (.row false none (.pair (.int .i64) (.pair (.int .i64) .unit)) s5)]) =>
    .need (decide ((0 ≤ n ∧ n.toNat ≤ l.length ∧ k = l.length ∧ l.length ≤ 200) ∧ (m = d.length ∧ d.length = l.length) ∧ (m1 = s1.length ∧ m3 = s3.length ∧ m4 = s4.length ∧ m5 = s5.length) ∧ (Ses.mk s0 s1 s2 s3 s4 s5).inv (1 + n.toNat)))
      (.leaf (.exit 0, ([.ptr 0 0, .ptr 1 0, .ref 2 0 l.length], [some (.box [.i .i64 0, .ref 3 0 0, .i .i64 0, .ref 4 0 0, .ref 5 0 0, .ref 6 0 0]), some (.box [.i .i64 ((Ses.mk s0 s1 s2 s3 s4 s5).play (l.drop n.toNat)).e, .ref 7 0 ((Ses.mk s0 s1 s2 s3 s4 s5).play (l.drop n.toNat)).it.length, .i .i64 ((Ses.mk s0 s1 s2 s3 s4 s5).play (l.drop n.toNat)).b, .ref 8 0 ((Ses.mk s0 s1 s2 s3 s4 s5).play (l.drop n.toNat)).ha.length, .ref 9 0 ((Ses.mk s0 s1 s2 s3 s4 s5).play (l.drop n.toNat)).w.length, .ref 10 0 ((Ses.mk s0 s1 s2 s3 s4 s5).play (l.drop n.toNat)).a.length]), some (.row false none .bool (d.take n.toNat ++ ((Ses.mk s0 s1 s2 s3 s4 s5).tell (l.drop n.toNat)))), some (.row false none .str []), some (.row false none .str []), some (.row false none (.pair (.int .i64) (.pair (.int .i64) (.pair .str .unit))) []), some (.row false none (.pair (.int .i64) (.pair (.int .i64) .unit)) []), some (.row false none .str ((Ses.mk s0 s1 s2 s3 s4 s5).play (l.drop n.toNat)).it), some (.row false none .str ((Ses.mk s0 s1 s2 s3 s4 s5).play (l.drop n.toNat)).ha), some (.row false none (.pair (.int .i64) (.pair (.int .i64) (.pair .str .unit))) ((Ses.mk s0 s1 s2 s3 s4 s5).play (l.drop n.toNat)).w), some (.row false none (.pair (.int .i64) (.pair (.int .i64) .unit)) ((Ses.mk s0 s1 s2 s3 s4 s5).play (l.drop n.toNat)).a)])))
  | _ => .no⟩
def spE : LoopEnt := ⟨50, [4,7,9,27,28,29], [4,7,9], [], fun
  | ([.ptr 0 0, .ptr 1 0, .ref 2 0 m, .sl (.pair (.int .i64) (.pair (.int .i64) (.pair .str .unit))) l, .i .i64 k, .i .i64 n], [some (.box [.i .i64 0, .ref 3 0 0, .i .i64 0, .ref 4 0 0, .ref 5 0 0, .ref 6 0 0]), some (.box [.i .i64 s0, .ref 7 0 m1, .i .i64 s2, .ref 8 0 m3, .ref 9 0 m4, .ref 10 0 m5]), some (.row false none .bool d), some (.row false none .str []), some (.row false none .str []), some (.row false none (.pair (.int .i64) (.pair (.int .i64) (.pair .str .unit))) []), some (.row false none (.pair (.int .i64) (.pair (.int .i64) .unit)) []), some (.row false none .str s1), some (.row false none .str s3), some (.row false none (.pair (.int .i64) (.pair (.int .i64) (.pair .str .unit))) s4), some (.row false none (.pair (.int .i64) (.pair (.int .i64) .unit)) s5)]) =>
    .need (decide ((0 ≤ n ∧ n.toNat ≤ l.length ∧ k = l.length ∧ l.length ≤ 200) ∧ (m = d.length ∧ d.length = n.toNat) ∧ (m1 = s1.length ∧ m3 = s3.length ∧ m4 = s4.length ∧ m5 = s5.length) ∧ (Ses.mk s0 s1 s2 s3 s4 s5).inv (1 + n.toNat)))
      (.leaf (.exit 0, ([.ptr 0 0, .ptr 1 0, .ref 2 0 l.length], [some (.box [.i .i64 0, .ref 3 0 0, .i .i64 0, .ref 4 0 0, .ref 5 0 0, .ref 6 0 0]), some (.box [.i .i64 ((Ses.mk s0 s1 s2 s3 s4 s5).play (l.drop n.toNat)).e, .ref 7 0 ((Ses.mk s0 s1 s2 s3 s4 s5).play (l.drop n.toNat)).it.length, .i .i64 ((Ses.mk s0 s1 s2 s3 s4 s5).play (l.drop n.toNat)).b, .ref 8 0 ((Ses.mk s0 s1 s2 s3 s4 s5).play (l.drop n.toNat)).ha.length, .ref 9 0 ((Ses.mk s0 s1 s2 s3 s4 s5).play (l.drop n.toNat)).w.length, .ref 10 0 ((Ses.mk s0 s1 s2 s3 s4 s5).play (l.drop n.toNat)).a.length]), some (.row false none .bool (d.take n.toNat ++ ((Ses.mk s0 s1 s2 s3 s4 s5).tell (l.drop n.toNat)))), some (.row false none .str []), some (.row false none .str []), some (.row false none (.pair (.int .i64) (.pair (.int .i64) (.pair .str .unit))) []), some (.row false none (.pair (.int .i64) (.pair (.int .i64) .unit)) []), some (.row false none .str ((Ses.mk s0 s1 s2 s3 s4 s5).play (l.drop n.toNat)).it), some (.row false none .str ((Ses.mk s0 s1 s2 s3 s4 s5).play (l.drop n.toNat)).ha), some (.row false none (.pair (.int .i64) (.pair (.int .i64) (.pair .str .unit))) ((Ses.mk s0 s1 s2 s3 s4 s5).play (l.drop n.toNat)).w), some (.row false none (.pair (.int .i64) (.pair (.int .i64) .unit)) ((Ses.mk s0 s1 s2 s3 s4 s5).play (l.drop n.toNat)).a)])))
  | _ => .no⟩
/-- A play's state at the head of the loop. -/
def ipD (l : List (Int × Int × List UInt8 × Unit)) (s : Ses) (d : List Bool) (n : Nat) : Dt := ([.ptr 0 0, .ptr 1 0, .ref 2 0 d.length, .sl (.pair (.int .i64) (.pair (.int .i64) (.pair .str .unit))) l, .i .i64 (l.length : Int), .i .i64 (n : Int)], [some (.box [.i .i64 0, .ref 3 0 0, .i .i64 0, .ref 4 0 0, .ref 5 0 0, .ref 6 0 0]), some (.box [.i .i64 s.e, .ref 7 0 s.it.length, .i .i64 s.b, .ref 8 0 s.ha.length, .ref 9 0 s.w.length, .ref 10 0 s.a.length]), some (.row false none .bool d), some (.row false none .str []), some (.row false none .str []), some (.row false none (.pair (.int .i64) (.pair (.int .i64) (.pair .str .unit))) []), some (.row false none (.pair (.int .i64) (.pair (.int .i64) .unit)) []), some (.row false none .str s.it), some (.row false none .str s.ha), some (.row false none (.pair (.int .i64) (.pair (.int .i64) (.pair .str .unit))) s.w), some (.row false none (.pair (.int .i64) (.pair (.int .i64) .unit)) s.a)])
/-- A play's state at the head of the loop. -/
def spD (l : List (Int × Int × List UInt8 × Unit)) (s : Ses) (d : List Bool) (n : Nat) : Dt := ([.ptr 0 0, .ptr 1 0, .ref 2 0 d.length, .sl (.pair (.int .i64) (.pair (.int .i64) (.pair .str .unit))) l, .i .i64 (l.length : Int), .i .i64 (n : Int)], [some (.box [.i .i64 0, .ref 3 0 0, .i .i64 0, .ref 4 0 0, .ref 5 0 0, .ref 6 0 0]), some (.box [.i .i64 s.e, .ref 7 0 s.it.length, .i .i64 s.b, .ref 8 0 s.ha.length, .ref 9 0 s.w.length, .ref 10 0 s.a.length]), some (.row false none .bool d), some (.row false none .str []), some (.row false none .str []), some (.row false none (.pair (.int .i64) (.pair (.int .i64) (.pair .str .unit))) []), some (.row false none (.pair (.int .i64) (.pair (.int .i64) .unit)) []), some (.row false none .str s.it), some (.row false none .str s.ha), some (.row false none (.pair (.int .i64) (.pair (.int .i64) (.pair .str .unit))) s.w), some (.row false none (.pair (.int .i64) (.pair (.int .i64) .unit)) s.a)])
def playG : List V → List Blk → Br (V × List (Option Blk))
  | [.s f, .sl (.pair (.int .i64) (.pair (.int .i64) (.pair .str .unit))) l], [] => .leaf (.tup [.agg [.i .i64 (playS f l).e, .ref 0 0 (playS f l).it.length, .i .i64 (playS f l).b, .ref 1 0 (playS f l).ha.length, .ref 2 0 (playS f l).w.length, .ref 3 0 (playS f l).a.length], .ref 4 0 (playT f l).length, .b (decide (f.length ≤ 20 ∧ l.length ≤ 200))], [some (.row false none .str (playS f l).it), some (.row false none .str (playS f l).ha), some (.row false none (.pair (.int .i64) (.pair (.int .i64) (.pair .str .unit))) (playS f l).w), some (.row false none (.pair (.int .i64) (.pair (.int .i64) .unit)) (playS f l).a), some (.row false none .bool (playT f l))])
  | _, _ => .no
theorem ip_round (m : Nat) (l : List (Int × Int × List UInt8 × Unit)) (s0 : Int) (m1 : Nat) (s2 : Int) (m3 m4 m5 : Nat) (d : List Bool) (s1 s3 : List (List UInt8)) (s4 : List (Int × Int × List UInt8 × Unit)) (s5 : List (Int × Int × Unit)) (n : Nat) : roundK Try.prog (look [(46, .rd1 newSessionG), (93, .own oStepCG)]) (look [(6, ipE)]) 0 (body Try.f26 0) ipE ([.ptr 0 0, .ptr 1 0, .ref 2 0 m, .sl (.pair (.int .i64) (.pair (.int .i64) (.pair .str .unit))) l, .i .i64 (↑l.length : Int), .i .i64 n], [some (.box [.i .i64 0, .ref 3 0 0, .i .i64 0, .ref 4 0 0, .ref 5 0 0, .ref 6 0 0]), some (.box [.i .i64 s0, .ref 7 0 m1, .i .i64 s2, .ref 8 0 m3, .ref 9 0 m4, .ref 10 0 m5]), some (.row false none .bool d), some (.row false none .str []), some (.row false none .str []), some (.row false none (.pair (.int .i64) (.pair (.int .i64) (.pair .str .unit))) []), some (.row false none (.pair (.int .i64) (.pair (.int .i64) .unit)) []), some (.row false none .str s1), some (.row false none .str s3), some (.row false none (.pair (.int .i64) (.pair (.int .i64) (.pair .str .unit))) s4), some (.row false none (.pair (.int .i64) (.pair (.int .i64) .unit)) s5)]) =
    ((ifB (decide ((↑n : Int) < (↑l.length : Int)))
  (ifT (decide ((0 : Int) ≤ (↑n : Int)) && decide ((↑n : Int) < (↑l.length : Int)))
  (ifSome l[((↑n : Int)).toNat]? fun z =>
  ifT
  (decide
  (m1 = s1.length ∧
  m3 = s3.length ∧
  m4 = s4.length ∧
  m5 = s5.length ∧
  ((0 : Int) ≤ s2 ∧ s2 ≤ (1000000000 : Int)) ∧
  ((0 : Int) ≤ s0 ∧ s0 ≤ (1000000000 : Int)) ∧
  s1.length ≤ (1000000000 : Nat) ∧
  s3.length ≤ (1000000000 : Nat) ∧
  s4.length ≤ (1000000000 : Nat) ∧ s5.length ≤ (1000000000 : Nat)))
  (ifB ((Ses.mk s0 s1 s2 s3 s4 s5).ok z.fst z.snd.fst z.snd.snd.fst)
  (ifT (decide ((0 : Int) ≤ (↑n : Int)) && decide ((↑n : Int) < (↑m : Int)))
  (ifSome d[(0 : Nat) + ((↑n : Int)).toNat]? fun z_1 =>
  some
  (Ex.normal,
  [V.ptr (0 : Nat) (0 : Nat), V.ptr (1 : Nat) (0 : Nat), V.ref (2 : Nat) (0 : Nat) m,
  V.sl ((Cd.int IntKind.i64).pair ((Cd.int IntKind.i64).pair (Cd.str.pair Cd.unit))) l,
  V.i IntKind.i64 (↑l.length : Int), V.i IntKind.i64 (IntKind.i64.wrap ((↑n : Int) + (1 : Int)))],
  [some
  (Blk.box
  [V.i IntKind.i64 (0 : Int), V.ref (3 : Nat) (0 : Nat) (0 : Nat), V.i IntKind.i64 (0 : Int),
  V.ref (4 : Nat) (0 : Nat) (0 : Nat), V.ref (5 : Nat) (0 : Nat) (0 : Nat),
  V.ref (6 : Nat) (0 : Nat) (0 : Nat)]),
  some
  (Blk.box
  [V.i IntKind.i64 ((Ses.mk s0 s1 s2 s3 s4 s5).next z.fst z.snd.fst z.snd.snd.fst).e,
  V.ref (7 : Nat) (0 : Nat)
  ((Ses.mk s0 s1 s2 s3 s4 s5).next z.fst z.snd.fst z.snd.snd.fst).it.length,
  V.i IntKind.i64 ((Ses.mk s0 s1 s2 s3 s4 s5).next z.fst z.snd.fst z.snd.snd.fst).b,
  V.ref (8 : Nat) (0 : Nat)
  ((Ses.mk s0 s1 s2 s3 s4 s5).next z.fst z.snd.fst z.snd.snd.fst).ha.length,
  V.ref (9 : Nat) (0 : Nat)
  ((Ses.mk s0 s1 s2 s3 s4 s5).next z.fst z.snd.fst z.snd.snd.fst).w.length,
  V.ref (10 : Nat) (0 : Nat)
  ((Ses.mk s0 s1 s2 s3 s4 s5).next z.fst z.snd.fst z.snd.snd.fst).a.length]),
  some (Blk.row false none Cd.bool (d.set ((0 : Nat) + ((↑n : Int)).toNat) true)),
  some (Blk.row false none Cd.str (nilT Cd.str.den)),
  some (Blk.row false none Cd.str (nilT Cd.str.den)),
  some
  (Blk.row false none ((Cd.int IntKind.i64).pair ((Cd.int IntKind.i64).pair (Cd.str.pair Cd.unit)))
  (nilT ((Cd.int IntKind.i64).pair ((Cd.int IntKind.i64).pair (Cd.str.pair Cd.unit))).den)),
  some
  (Blk.row false none ((Cd.int IntKind.i64).pair ((Cd.int IntKind.i64).pair Cd.unit))
  (nilT ((Cd.int IntKind.i64).pair ((Cd.int IntKind.i64).pair Cd.unit)).den)),
  some (Blk.row false none Cd.str ((Ses.mk s0 s1 s2 s3 s4 s5).next z.fst z.snd.fst z.snd.snd.fst).it),
  some (Blk.row false none Cd.str ((Ses.mk s0 s1 s2 s3 s4 s5).next z.fst z.snd.fst z.snd.snd.fst).ha),
  some
  (Blk.row false none ((Cd.int IntKind.i64).pair ((Cd.int IntKind.i64).pair (Cd.str.pair Cd.unit)))
  ((Ses.mk s0 s1 s2 s3 s4 s5).next z.fst z.snd.fst z.snd.snd.fst).w),
  some
  (Blk.row false none ((Cd.int IntKind.i64).pair ((Cd.int IntKind.i64).pair Cd.unit))
  ((Ses.mk s0 s1 s2 s3 s4 s5).next z.fst z.snd.fst z.snd.snd.fst).a)])))
  (ifT (decide ((0 : Int) ≤ (↑n : Int)) && decide ((↑n : Int) < (↑m : Int)))
  (ifSome d[(0 : Nat) + ((↑n : Int)).toNat]? fun z =>
  some
  (Ex.normal,
  [V.ptr (0 : Nat) (0 : Nat), V.ptr (1 : Nat) (0 : Nat), V.ref (2 : Nat) (0 : Nat) m,
  V.sl ((Cd.int IntKind.i64).pair ((Cd.int IntKind.i64).pair (Cd.str.pair Cd.unit))) l,
  V.i IntKind.i64 (↑l.length : Int), V.i IntKind.i64 (IntKind.i64.wrap ((↑n : Int) + (1 : Int)))],
  [some
  (Blk.box
  [V.i IntKind.i64 (0 : Int), V.ref (3 : Nat) (0 : Nat) (0 : Nat), V.i IntKind.i64 (0 : Int),
  V.ref (4 : Nat) (0 : Nat) (0 : Nat), V.ref (5 : Nat) (0 : Nat) (0 : Nat),
  V.ref (6 : Nat) (0 : Nat) (0 : Nat)]),
  some
  (Blk.box
  [V.i IntKind.i64 (Ses.mk s0 s1 s2 s3 s4 s5).e,
  V.ref (7 : Nat) (0 : Nat) (Ses.mk s0 s1 s2 s3 s4 s5).it.length,
  V.i IntKind.i64 (Ses.mk s0 s1 s2 s3 s4 s5).b,
  V.ref (8 : Nat) (0 : Nat) (Ses.mk s0 s1 s2 s3 s4 s5).ha.length,
  V.ref (9 : Nat) (0 : Nat) (Ses.mk s0 s1 s2 s3 s4 s5).w.length,
  V.ref (10 : Nat) (0 : Nat) (Ses.mk s0 s1 s2 s3 s4 s5).a.length]),
  some (Blk.row false none Cd.bool (d.set ((0 : Nat) + ((↑n : Int)).toNat) false)),
  some (Blk.row false none Cd.str (nilT Cd.str.den)),
  some (Blk.row false none Cd.str (nilT Cd.str.den)),
  some
  (Blk.row false none ((Cd.int IntKind.i64).pair ((Cd.int IntKind.i64).pair (Cd.str.pair Cd.unit)))
  (nilT ((Cd.int IntKind.i64).pair ((Cd.int IntKind.i64).pair (Cd.str.pair Cd.unit))).den)),
  some
  (Blk.row false none ((Cd.int IntKind.i64).pair ((Cd.int IntKind.i64).pair Cd.unit))
  (nilT ((Cd.int IntKind.i64).pair ((Cd.int IntKind.i64).pair Cd.unit)).den)),
  some (Blk.row false none Cd.str (Ses.mk s0 s1 s2 s3 s4 s5).it),
  some (Blk.row false none Cd.str (Ses.mk s0 s1 s2 s3 s4 s5).ha),
  some
  (Blk.row false none ((Cd.int IntKind.i64).pair ((Cd.int IntKind.i64).pair (Cd.str.pair Cd.unit)))
  (Ses.mk s0 s1 s2 s3 s4 s5).w),
  some
  (Blk.row false none ((Cd.int IntKind.i64).pair ((Cd.int IntKind.i64).pair Cd.unit))
  (Ses.mk s0 s1 s2 s3 s4 s5).a)]))))))
  (some
  (Ex.exit (0 : Nat), [V.ptr (0 : Nat) (0 : Nat), V.ptr (1 : Nat) (0 : Nat), V.ref (2 : Nat) (0 : Nat) m],
  [some
  (Blk.box
  [V.i IntKind.i64 (0 : Int), V.ref (3 : Nat) (0 : Nat) (0 : Nat), V.i IntKind.i64 (0 : Int),
  V.ref (4 : Nat) (0 : Nat) (0 : Nat), V.ref (5 : Nat) (0 : Nat) (0 : Nat),
  V.ref (6 : Nat) (0 : Nat) (0 : Nat)]),
  some
  (Blk.box
  [V.i IntKind.i64 s0, V.ref (7 : Nat) (0 : Nat) m1, V.i IntKind.i64 s2, V.ref (8 : Nat) (0 : Nat) m3,
  V.ref (9 : Nat) (0 : Nat) m4, V.ref (10 : Nat) (0 : Nat) m5]),
  some (Blk.row false none Cd.bool d), some (Blk.row false none Cd.str (nilT Cd.str.den)),
  some (Blk.row false none Cd.str (nilT Cd.str.den)),
  some
  (Blk.row false none ((Cd.int IntKind.i64).pair ((Cd.int IntKind.i64).pair (Cd.str.pair Cd.unit)))
  (nilT ((Cd.int IntKind.i64).pair ((Cd.int IntKind.i64).pair (Cd.str.pair Cd.unit))).den)),
  some
  (Blk.row false none ((Cd.int IntKind.i64).pair ((Cd.int IntKind.i64).pair Cd.unit))
  (nilT ((Cd.int IntKind.i64).pair ((Cd.int IntKind.i64).pair Cd.unit)).den)),
  some (Blk.row false none Cd.str s1), some (Blk.row false none Cd.str s3),
  some (Blk.row false none ((Cd.int IntKind.i64).pair ((Cd.int IntKind.i64).pair (Cd.str.pair Cd.unit))) s4),
  some (Blk.row false none ((Cd.int IntKind.i64).pair ((Cd.int IntKind.i64).pair Cd.unit)) s5)]))) : _) := by kernel_rfl
theorem ip_fun0 (f : List UInt8) (l : List (Int × Int × List UInt8 × Unit)) : funN Try.prog (look [(46, .rd1 newSessionG), (93, .own oStepCG)]) (look [(6, ipE)]) Try.f26 [.s f, .sl (.pair (.int .i64) (.pair (.int .i64) (.pair .str .unit))) l] [] =
    ((ifB (decide (f.length ≤ (20 : Nat)))
  (ifB (decide ((↑l.length : Int) > (200 : Int)))
  (some
  (V.tup
  [V.agg
  [V.i IntKind.i64 (0 : Int), V.ref (0 : Nat) (0 : Nat) (0 : Nat), V.i IntKind.i64 (0 : Int),
  V.ref (1 : Nat) (0 : Nat) (0 : Nat), V.ref (2 : Nat) (0 : Nat) (0 : Nat),
  V.ref (3 : Nat) (0 : Nat) (0 : Nat)],
  V.ref (4 : Nat) (0 : Nat) (0 : Nat), V.b false],
  [some (Blk.row false none Cd.str (nilT Cd.str.den)), some (Blk.row false none Cd.str (nilT Cd.str.den)),
  some
  (Blk.row false none ((Cd.int IntKind.i64).pair ((Cd.int IntKind.i64).pair (Cd.str.pair Cd.unit)))
  (nilT ((Cd.int IntKind.i64).pair ((Cd.int IntKind.i64).pair (Cd.str.pair Cd.unit))).den)),
  some
  (Blk.row false none ((Cd.int IntKind.i64).pair ((Cd.int IntKind.i64).pair Cd.unit))
  (nilT ((Cd.int IntKind.i64).pair ((Cd.int IntKind.i64).pair Cd.unit)).den)),
  some (Blk.row false none Cd.bool (nilT Cd.bool.den))]))
  (ifT
  (decide ((0 : Int) ≤ (↑l.length : Int)) && decide ((↑l.length : Int) ≤ (↑l.length : Int)) &&
  decide ((↑l.length : Int) * (↑(1 : Nat) : Int) ≤ (140737488355328 : Int)) &&
  decide ((↑l.length : Int) ≤ (9223372036854775807 : Int)))
  (ifT
  (decide
  (((0 : Int) ≤ (0 : Int) ∧
  (0 : Nat) ≤ l.length ∧ (↑l.length : Int) = (↑l.length : Int) ∧ l.length ≤ (200 : Nat)) ∧
  ((↑l.length : Int).toNat = (List.replicate (↑l.length : Int).toNat false).length ∧
  (List.replicate (↑l.length : Int).toNat false).length = l.length) ∧
  ((1 : Nat) = (1 : Nat) ∧ (0 : Nat) = (0 : Nat) ∧ (0 : Nat) = (0 : Nat) ∧ (0 : Nat) = (0 : Nat)) ∧
  (Ses.mk (1 : Int) (f :: nilT Cd.str.den) (0 : Int) (nilT Cd.str.den)
  (nilT ((Cd.int IntKind.i64).pair ((Cd.int IntKind.i64).pair (Cd.str.pair Cd.unit))).den)
  (nilT ((Cd.int IntKind.i64).pair ((Cd.int IntKind.i64).pair Cd.unit)).den)).inv
  (1 : Nat)))
  (some
  (V.tup
  [V.agg
  [V.i IntKind.i64
  ((Ses.mk (1 : Int) (f :: nilT Cd.str.den) (0 : Int) (nilT Cd.str.den)
  (nilT ((Cd.int IntKind.i64).pair ((Cd.int IntKind.i64).pair (Cd.str.pair Cd.unit))).den)
  (nilT ((Cd.int IntKind.i64).pair ((Cd.int IntKind.i64).pair Cd.unit)).den)).play
  (List.drop (0 : Nat) l)).e,
  V.ref (0 : Nat) (0 : Nat)
  ((Ses.mk (1 : Int) (f :: nilT Cd.str.den) (0 : Int) (nilT Cd.str.den)
  (nilT ((Cd.int IntKind.i64).pair ((Cd.int IntKind.i64).pair (Cd.str.pair Cd.unit))).den)
  (nilT ((Cd.int IntKind.i64).pair ((Cd.int IntKind.i64).pair Cd.unit)).den)).play
  (List.drop (0 : Nat) l)).it.length,
  V.i IntKind.i64
  ((Ses.mk (1 : Int) (f :: nilT Cd.str.den) (0 : Int) (nilT Cd.str.den)
  (nilT ((Cd.int IntKind.i64).pair ((Cd.int IntKind.i64).pair (Cd.str.pair Cd.unit))).den)
  (nilT ((Cd.int IntKind.i64).pair ((Cd.int IntKind.i64).pair Cd.unit)).den)).play
  (List.drop (0 : Nat) l)).b,
  V.ref (1 : Nat) (0 : Nat)
  ((Ses.mk (1 : Int) (f :: nilT Cd.str.den) (0 : Int) (nilT Cd.str.den)
  (nilT ((Cd.int IntKind.i64).pair ((Cd.int IntKind.i64).pair (Cd.str.pair Cd.unit))).den)
  (nilT ((Cd.int IntKind.i64).pair ((Cd.int IntKind.i64).pair Cd.unit)).den)).play
  (List.drop (0 : Nat) l)).ha.length,
  V.ref (2 : Nat) (0 : Nat)
  ((Ses.mk (1 : Int) (f :: nilT Cd.str.den) (0 : Int) (nilT Cd.str.den)
  (nilT ((Cd.int IntKind.i64).pair ((Cd.int IntKind.i64).pair (Cd.str.pair Cd.unit))).den)
  (nilT ((Cd.int IntKind.i64).pair ((Cd.int IntKind.i64).pair Cd.unit)).den)).play
  (List.drop (0 : Nat) l)).w.length,
  V.ref (3 : Nat) (0 : Nat)
  ((Ses.mk (1 : Int) (f :: nilT Cd.str.den) (0 : Int) (nilT Cd.str.den)
  (nilT ((Cd.int IntKind.i64).pair ((Cd.int IntKind.i64).pair (Cd.str.pair Cd.unit))).den)
  (nilT ((Cd.int IntKind.i64).pair ((Cd.int IntKind.i64).pair Cd.unit)).den)).play
  (List.drop (0 : Nat) l)).a.length],
  V.ref (4 : Nat) (0 : Nat) l.length, V.b true],
  [some
  (Blk.row false none Cd.str
  ((Ses.mk (1 : Int) (f :: nilT Cd.str.den) (0 : Int) (nilT Cd.str.den)
  (nilT ((Cd.int IntKind.i64).pair ((Cd.int IntKind.i64).pair (Cd.str.pair Cd.unit))).den)
  (nilT ((Cd.int IntKind.i64).pair ((Cd.int IntKind.i64).pair Cd.unit)).den)).play
  (List.drop (0 : Nat) l)).it),
  some
  (Blk.row false none Cd.str
  ((Ses.mk (1 : Int) (f :: nilT Cd.str.den) (0 : Int) (nilT Cd.str.den)
  (nilT ((Cd.int IntKind.i64).pair ((Cd.int IntKind.i64).pair (Cd.str.pair Cd.unit))).den)
  (nilT ((Cd.int IntKind.i64).pair ((Cd.int IntKind.i64).pair Cd.unit)).den)).play
  (List.drop (0 : Nat) l)).ha),
  some
  (Blk.row false none ((Cd.int IntKind.i64).pair ((Cd.int IntKind.i64).pair (Cd.str.pair Cd.unit)))
  ((Ses.mk (1 : Int) (f :: nilT Cd.str.den) (0 : Int) (nilT Cd.str.den)
  (nilT ((Cd.int IntKind.i64).pair ((Cd.int IntKind.i64).pair (Cd.str.pair Cd.unit))).den)
  (nilT ((Cd.int IntKind.i64).pair ((Cd.int IntKind.i64).pair Cd.unit)).den)).play
  (List.drop (0 : Nat) l)).w),
  some
  (Blk.row false none ((Cd.int IntKind.i64).pair ((Cd.int IntKind.i64).pair Cd.unit))
  ((Ses.mk (1 : Int) (f :: nilT Cd.str.den) (0 : Int) (nilT Cd.str.den)
  (nilT ((Cd.int IntKind.i64).pair ((Cd.int IntKind.i64).pair (Cd.str.pair Cd.unit))).den)
  (nilT ((Cd.int IntKind.i64).pair ((Cd.int IntKind.i64).pair Cd.unit)).den)).play
  (List.drop (0 : Nat) l)).a),
  some
  (Blk.row false none Cd.bool
  (nilT Cd.bool.den ++
  (Ses.mk (1 : Int) (f :: nilT Cd.str.den) (0 : Int) (nilT Cd.str.den)
  (nilT ((Cd.int IntKind.i64).pair ((Cd.int IntKind.i64).pair (Cd.str.pair Cd.unit))).den)
  (nilT ((Cd.int IntKind.i64).pair ((Cd.int IntKind.i64).pair Cd.unit)).den)).tell
  (List.drop (0 : Nat) l)))])))))
  (some
  (V.tup
  [V.agg
  [V.i IntKind.i64 (0 : Int), V.ref (0 : Nat) (0 : Nat) (0 : Nat), V.i IntKind.i64 (0 : Int),
  V.ref (1 : Nat) (0 : Nat) (0 : Nat), V.ref (2 : Nat) (0 : Nat) (0 : Nat),
  V.ref (3 : Nat) (0 : Nat) (0 : Nat)],
  V.ref (4 : Nat) (0 : Nat) (0 : Nat), V.b false],
  [some (Blk.row false none Cd.str (nilT Cd.str.den)), some (Blk.row false none Cd.str (nilT Cd.str.den)),
  some
  (Blk.row false none ((Cd.int IntKind.i64).pair ((Cd.int IntKind.i64).pair (Cd.str.pair Cd.unit)))
  (nilT ((Cd.int IntKind.i64).pair ((Cd.int IntKind.i64).pair (Cd.str.pair Cd.unit))).den)),
  some
  (Blk.row false none ((Cd.int IntKind.i64).pair ((Cd.int IntKind.i64).pair Cd.unit))
  (nilT ((Cd.int IntKind.i64).pair ((Cd.int IntKind.i64).pair Cd.unit)).den)),
  some (Blk.row false none Cd.bool (nilT Cd.bool.den))]))) : _) := by kernel_rfl
theorem sp_round (m : Nat) (l : List (Int × Int × List UInt8 × Unit)) (s0 : Int) (m1 : Nat) (s2 : Int) (m3 m4 m5 : Nat) (d : List Bool) (s1 s3 : List (List UInt8)) (s4 : List (Int × Int × List UInt8 × Unit)) (s5 : List (Int × Int × Unit)) (n : Nat) : roundK Try.prog (look [(47, .rd1 newSessionG), (63, .rd1 l15OwnG), (64, .own l15StepCG)]) (look [(6, spE)]) 0 (body Try.f27 0) spE ([.ptr 0 0, .ptr 1 0, .ref 2 0 m, .sl (.pair (.int .i64) (.pair (.int .i64) (.pair .str .unit))) l, .i .i64 (↑l.length : Int), .i .i64 n], [some (.box [.i .i64 0, .ref 3 0 0, .i .i64 0, .ref 4 0 0, .ref 5 0 0, .ref 6 0 0]), some (.box [.i .i64 s0, .ref 7 0 m1, .i .i64 s2, .ref 8 0 m3, .ref 9 0 m4, .ref 10 0 m5]), some (.row false none .bool d), some (.row false none .str []), some (.row false none .str []), some (.row false none (.pair (.int .i64) (.pair (.int .i64) (.pair .str .unit))) []), some (.row false none (.pair (.int .i64) (.pair (.int .i64) .unit)) []), some (.row false none .str s1), some (.row false none .str s3), some (.row false none (.pair (.int .i64) (.pair (.int .i64) (.pair .str .unit))) s4), some (.row false none (.pair (.int .i64) (.pair (.int .i64) .unit)) s5)]) =
    ((ifB (decide ((↑n : Int) < (↑l.length : Int)))
  (ifT (decide ((0 : Int) ≤ (↑n : Int)) && decide ((↑n : Int) < (↑l.length : Int)))
  (ifSome l[((↑n : Int)).toNat]? fun z =>
  ifT
  (decide (((0 : Nat) + (List.take m1 (List.drop (0 : Nat) s1)).length) * (16 : Nat) ≤ (140737488355328 : Nat)) &&
  decide ((0 : Nat) + (List.take m1 (List.drop (0 : Nat) s1)).length ≤ maxI))
  (ifT
  (decide
  (((0 : Nat) + (List.take m3 (List.drop (0 : Nat) s3)).length) * (16 : Nat) ≤ (140737488355328 : Nat)) &&
  decide ((0 : Nat) + (List.take m3 (List.drop (0 : Nat) s3)).length ≤ maxI))
  (ifT
  (decide
  (((0 : Nat) + (List.take m4 (List.drop (0 : Nat) s4)).length) * (32 : Nat) ≤ (140737488355328 : Nat)) &&
  decide ((0 : Nat) + (List.take m4 (List.drop (0 : Nat) s4)).length ≤ maxI))
  (ifT
  (decide
  (((0 : Nat) + (List.take m5 (List.drop (0 : Nat) s5)).length) * (16 : Nat) ≤
  (140737488355328 : Nat)) &&
  decide ((0 : Nat) + (List.take m5 (List.drop (0 : Nat) s5)).length ≤ maxI))
  (ifT
  (decide
  ((0 : Nat) + (List.take m1 (List.drop (0 : Nat) s1)).length =
  (nilT Cd.str.den ++ List.take m1 (List.drop (0 : Nat) s1)).length ∧
  (0 : Nat) + (List.take m3 (List.drop (0 : Nat) s3)).length =
  (nilT Cd.str.den ++ List.take m3 (List.drop (0 : Nat) s3)).length ∧
  (0 : Nat) + (List.take m4 (List.drop (0 : Nat) s4)).length =
  (nilT ((Cd.int IntKind.i64).pair ((Cd.int IntKind.i64).pair (Cd.str.pair Cd.unit))).den ++
  List.take m4 (List.drop (0 : Nat) s4)).length ∧
  (0 : Nat) + (List.take m5 (List.drop (0 : Nat) s5)).length =
  (nilT ((Cd.int IntKind.i64).pair ((Cd.int IntKind.i64).pair Cd.unit)).den ++
  List.take m5 (List.drop (0 : Nat) s5)).length ∧
  ((0 : Int) ≤ s2 ∧ s2 ≤ (1000000000 : Int)) ∧
  ((0 : Int) ≤ s0 ∧ s0 ≤ (1000000000 : Int)) ∧
  (nilT Cd.str.den ++ List.take m1 (List.drop (0 : Nat) s1)).length ≤ (1000000000 : Nat) ∧
  (nilT Cd.str.den ++ List.take m3 (List.drop (0 : Nat) s3)).length ≤ (1000000000 : Nat) ∧
  (nilT
  ((Cd.int IntKind.i64).pair
  ((Cd.int IntKind.i64).pair (Cd.str.pair Cd.unit))).den ++
  List.take m4 (List.drop (0 : Nat) s4)).length ≤
  (1000000000 : Nat) ∧
  (nilT ((Cd.int IntKind.i64).pair ((Cd.int IntKind.i64).pair Cd.unit)).den ++
  List.take m5 (List.drop (0 : Nat) s5)).length ≤
  (1000000000 : Nat)))
  (ifB
  ((Ses.mk s0 (nilT Cd.str.den ++ List.take m1 (List.drop (0 : Nat) s1)) s2
  (nilT Cd.str.den ++ List.take m3 (List.drop (0 : Nat) s3))
  (nilT ((Cd.int IntKind.i64).pair ((Cd.int IntKind.i64).pair (Cd.str.pair Cd.unit))).den ++
  List.take m4 (List.drop (0 : Nat) s4))
  (nilT ((Cd.int IntKind.i64).pair ((Cd.int IntKind.i64).pair Cd.unit)).den ++
  List.take m5 (List.drop (0 : Nat) s5))).ok
  z.fst z.snd.fst z.snd.snd.fst)
  (ifT (decide ((m + (1 : Nat)) * (1 : Nat) ≤ (140737488355328 : Nat)) && decide (m + (1 : Nat) ≤ maxI))
  (some
  (Ex.normal,
  [V.ptr (0 : Nat) (0 : Nat), V.ptr (1 : Nat) (0 : Nat),
  V.ref (2 : Nat) (0 : Nat) (m + (1 : Nat)),
  V.sl ((Cd.int IntKind.i64).pair ((Cd.int IntKind.i64).pair (Cd.str.pair Cd.unit))) l,
  V.i IntKind.i64 (↑l.length : Int),
  V.i IntKind.i64 (IntKind.i64.wrap ((↑n : Int) + (1 : Int)))],
  [some
  (Blk.box
  [V.i IntKind.i64 (0 : Int), V.ref (3 : Nat) (0 : Nat) (0 : Nat),
  V.i IntKind.i64 (0 : Int), V.ref (4 : Nat) (0 : Nat) (0 : Nat),
  V.ref (5 : Nat) (0 : Nat) (0 : Nat), V.ref (6 : Nat) (0 : Nat) (0 : Nat)]),
  some
  (Blk.box
  [V.i IntKind.i64
  ((Ses.mk s0 (nilT Cd.str.den ++ List.take m1 (List.drop (0 : Nat) s1)) s2
  (nilT Cd.str.den ++ List.take m3 (List.drop (0 : Nat) s3))
  (nilT
  ((Cd.int IntKind.i64).pair
  ((Cd.int IntKind.i64).pair (Cd.str.pair Cd.unit))).den ++
  List.take m4 (List.drop (0 : Nat) s4))
  (nilT ((Cd.int IntKind.i64).pair ((Cd.int IntKind.i64).pair Cd.unit)).den ++
  List.take m5 (List.drop (0 : Nat) s5))).next
  z.fst z.snd.fst z.snd.snd.fst).e,
  V.ref (7 : Nat) (0 : Nat)
  ((Ses.mk s0 (nilT Cd.str.den ++ List.take m1 (List.drop (0 : Nat) s1)) s2
  (nilT Cd.str.den ++ List.take m3 (List.drop (0 : Nat) s3))
  (nilT
  ((Cd.int IntKind.i64).pair
  ((Cd.int IntKind.i64).pair (Cd.str.pair Cd.unit))).den ++
  List.take m4 (List.drop (0 : Nat) s4))
  (nilT ((Cd.int IntKind.i64).pair ((Cd.int IntKind.i64).pair Cd.unit)).den ++
  List.take m5 (List.drop (0 : Nat) s5))).next
  z.fst z.snd.fst z.snd.snd.fst).it.length,
  V.i IntKind.i64
  ((Ses.mk s0 (nilT Cd.str.den ++ List.take m1 (List.drop (0 : Nat) s1)) s2
  (nilT Cd.str.den ++ List.take m3 (List.drop (0 : Nat) s3))
  (nilT
  ((Cd.int IntKind.i64).pair
  ((Cd.int IntKind.i64).pair (Cd.str.pair Cd.unit))).den ++
  List.take m4 (List.drop (0 : Nat) s4))
  (nilT ((Cd.int IntKind.i64).pair ((Cd.int IntKind.i64).pair Cd.unit)).den ++
  List.take m5 (List.drop (0 : Nat) s5))).next
  z.fst z.snd.fst z.snd.snd.fst).b,
  V.ref (8 : Nat) (0 : Nat)
  ((Ses.mk s0 (nilT Cd.str.den ++ List.take m1 (List.drop (0 : Nat) s1)) s2
  (nilT Cd.str.den ++ List.take m3 (List.drop (0 : Nat) s3))
  (nilT
  ((Cd.int IntKind.i64).pair
  ((Cd.int IntKind.i64).pair (Cd.str.pair Cd.unit))).den ++
  List.take m4 (List.drop (0 : Nat) s4))
  (nilT ((Cd.int IntKind.i64).pair ((Cd.int IntKind.i64).pair Cd.unit)).den ++
  List.take m5 (List.drop (0 : Nat) s5))).next
  z.fst z.snd.fst z.snd.snd.fst).ha.length,
  V.ref (9 : Nat) (0 : Nat)
  ((Ses.mk s0 (nilT Cd.str.den ++ List.take m1 (List.drop (0 : Nat) s1)) s2
  (nilT Cd.str.den ++ List.take m3 (List.drop (0 : Nat) s3))
  (nilT
  ((Cd.int IntKind.i64).pair
  ((Cd.int IntKind.i64).pair (Cd.str.pair Cd.unit))).den ++
  List.take m4 (List.drop (0 : Nat) s4))
  (nilT ((Cd.int IntKind.i64).pair ((Cd.int IntKind.i64).pair Cd.unit)).den ++
  List.take m5 (List.drop (0 : Nat) s5))).next
  z.fst z.snd.fst z.snd.snd.fst).w.length,
  V.ref (10 : Nat) (0 : Nat)
  ((Ses.mk s0 (nilT Cd.str.den ++ List.take m1 (List.drop (0 : Nat) s1)) s2
  (nilT Cd.str.den ++ List.take m3 (List.drop (0 : Nat) s3))
  (nilT
  ((Cd.int IntKind.i64).pair
  ((Cd.int IntKind.i64).pair (Cd.str.pair Cd.unit))).den ++
  List.take m4 (List.drop (0 : Nat) s4))
  (nilT ((Cd.int IntKind.i64).pair ((Cd.int IntKind.i64).pair Cd.unit)).den ++
  List.take m5 (List.drop (0 : Nat) s5))).next
  z.fst z.snd.fst z.snd.snd.fst).a.length]),
  some
  (Blk.row false none Cd.bool
  (List.take m (List.drop (0 : Nat) d) ++ true :: nilT Cd.bool.den)),
  some (Blk.row false none Cd.str (nilT Cd.str.den)),
  some (Blk.row false none Cd.str (nilT Cd.str.den)),
  some
  (Blk.row false none
  ((Cd.int IntKind.i64).pair ((Cd.int IntKind.i64).pair (Cd.str.pair Cd.unit)))
  (nilT ((Cd.int IntKind.i64).pair ((Cd.int IntKind.i64).pair (Cd.str.pair Cd.unit))).den)),
  some
  (Blk.row false none ((Cd.int IntKind.i64).pair ((Cd.int IntKind.i64).pair Cd.unit))
  (nilT ((Cd.int IntKind.i64).pair ((Cd.int IntKind.i64).pair Cd.unit)).den)),
  some
  (Blk.row false none Cd.str
  ((Ses.mk s0 (nilT Cd.str.den ++ List.take m1 (List.drop (0 : Nat) s1)) s2
  (nilT Cd.str.den ++ List.take m3 (List.drop (0 : Nat) s3))
  (nilT
  ((Cd.int IntKind.i64).pair
  ((Cd.int IntKind.i64).pair (Cd.str.pair Cd.unit))).den ++
  List.take m4 (List.drop (0 : Nat) s4))
  (nilT ((Cd.int IntKind.i64).pair ((Cd.int IntKind.i64).pair Cd.unit)).den ++
  List.take m5 (List.drop (0 : Nat) s5))).next
  z.fst z.snd.fst z.snd.snd.fst).it),
  some
  (Blk.row false none Cd.str
  ((Ses.mk s0 (nilT Cd.str.den ++ List.take m1 (List.drop (0 : Nat) s1)) s2
  (nilT Cd.str.den ++ List.take m3 (List.drop (0 : Nat) s3))
  (nilT
  ((Cd.int IntKind.i64).pair
  ((Cd.int IntKind.i64).pair (Cd.str.pair Cd.unit))).den ++
  List.take m4 (List.drop (0 : Nat) s4))
  (nilT ((Cd.int IntKind.i64).pair ((Cd.int IntKind.i64).pair Cd.unit)).den ++
  List.take m5 (List.drop (0 : Nat) s5))).next
  z.fst z.snd.fst z.snd.snd.fst).ha),
  some
  (Blk.row false none
  ((Cd.int IntKind.i64).pair ((Cd.int IntKind.i64).pair (Cd.str.pair Cd.unit)))
  ((Ses.mk s0 (nilT Cd.str.den ++ List.take m1 (List.drop (0 : Nat) s1)) s2
  (nilT Cd.str.den ++ List.take m3 (List.drop (0 : Nat) s3))
  (nilT
  ((Cd.int IntKind.i64).pair
  ((Cd.int IntKind.i64).pair (Cd.str.pair Cd.unit))).den ++
  List.take m4 (List.drop (0 : Nat) s4))
  (nilT ((Cd.int IntKind.i64).pair ((Cd.int IntKind.i64).pair Cd.unit)).den ++
  List.take m5 (List.drop (0 : Nat) s5))).next
  z.fst z.snd.fst z.snd.snd.fst).w),
  some
  (Blk.row false none ((Cd.int IntKind.i64).pair ((Cd.int IntKind.i64).pair Cd.unit))
  ((Ses.mk s0 (nilT Cd.str.den ++ List.take m1 (List.drop (0 : Nat) s1)) s2
  (nilT Cd.str.den ++ List.take m3 (List.drop (0 : Nat) s3))
  (nilT
  ((Cd.int IntKind.i64).pair
  ((Cd.int IntKind.i64).pair (Cd.str.pair Cd.unit))).den ++
  List.take m4 (List.drop (0 : Nat) s4))
  (nilT ((Cd.int IntKind.i64).pair ((Cd.int IntKind.i64).pair Cd.unit)).den ++
  List.take m5 (List.drop (0 : Nat) s5))).next
  z.fst z.snd.fst z.snd.snd.fst).a)])))
  (ifT (decide ((m + (1 : Nat)) * (1 : Nat) ≤ (140737488355328 : Nat)) && decide (m + (1 : Nat) ≤ maxI))
  (some
  (Ex.normal,
  [V.ptr (0 : Nat) (0 : Nat), V.ptr (1 : Nat) (0 : Nat),
  V.ref (2 : Nat) (0 : Nat) (m + (1 : Nat)),
  V.sl ((Cd.int IntKind.i64).pair ((Cd.int IntKind.i64).pair (Cd.str.pair Cd.unit))) l,
  V.i IntKind.i64 (↑l.length : Int),
  V.i IntKind.i64 (IntKind.i64.wrap ((↑n : Int) + (1 : Int)))],
  [some
  (Blk.box
  [V.i IntKind.i64 (0 : Int), V.ref (3 : Nat) (0 : Nat) (0 : Nat),
  V.i IntKind.i64 (0 : Int), V.ref (4 : Nat) (0 : Nat) (0 : Nat),
  V.ref (5 : Nat) (0 : Nat) (0 : Nat), V.ref (6 : Nat) (0 : Nat) (0 : Nat)]),
  some
  (Blk.box
  [V.i IntKind.i64 s0, V.ref (7 : Nat) (0 : Nat) m1, V.i IntKind.i64 s2,
  V.ref (8 : Nat) (0 : Nat) m3, V.ref (9 : Nat) (0 : Nat) m4,
  V.ref (10 : Nat) (0 : Nat) m5]),
  some
  (Blk.row false none Cd.bool
  (List.take m (List.drop (0 : Nat) d) ++ false :: nilT Cd.bool.den)),
  some (Blk.row false none Cd.str (nilT Cd.str.den)),
  some (Blk.row false none Cd.str (nilT Cd.str.den)),
  some
  (Blk.row false none
  ((Cd.int IntKind.i64).pair ((Cd.int IntKind.i64).pair (Cd.str.pair Cd.unit)))
  (nilT ((Cd.int IntKind.i64).pair ((Cd.int IntKind.i64).pair (Cd.str.pair Cd.unit))).den)),
  some
  (Blk.row false none ((Cd.int IntKind.i64).pair ((Cd.int IntKind.i64).pair Cd.unit))
  (nilT ((Cd.int IntKind.i64).pair ((Cd.int IntKind.i64).pair Cd.unit)).den)),
  some (Blk.row false none Cd.str s1), some (Blk.row false none Cd.str s3),
  some
  (Blk.row false none
  ((Cd.int IntKind.i64).pair ((Cd.int IntKind.i64).pair (Cd.str.pair Cd.unit))) s4),
  some
  (Blk.row false none ((Cd.int IntKind.i64).pair ((Cd.int IntKind.i64).pair Cd.unit))
  s5)]))))))))))
  (some
  (Ex.exit (0 : Nat), [V.ptr (0 : Nat) (0 : Nat), V.ptr (1 : Nat) (0 : Nat), V.ref (2 : Nat) (0 : Nat) m],
  [some
  (Blk.box
  [V.i IntKind.i64 (0 : Int), V.ref (3 : Nat) (0 : Nat) (0 : Nat), V.i IntKind.i64 (0 : Int),
  V.ref (4 : Nat) (0 : Nat) (0 : Nat), V.ref (5 : Nat) (0 : Nat) (0 : Nat),
  V.ref (6 : Nat) (0 : Nat) (0 : Nat)]),
  some
  (Blk.box
  [V.i IntKind.i64 s0, V.ref (7 : Nat) (0 : Nat) m1, V.i IntKind.i64 s2, V.ref (8 : Nat) (0 : Nat) m3,
  V.ref (9 : Nat) (0 : Nat) m4, V.ref (10 : Nat) (0 : Nat) m5]),
  some (Blk.row false none Cd.bool d), some (Blk.row false none Cd.str (nilT Cd.str.den)),
  some (Blk.row false none Cd.str (nilT Cd.str.den)),
  some
  (Blk.row false none ((Cd.int IntKind.i64).pair ((Cd.int IntKind.i64).pair (Cd.str.pair Cd.unit)))
  (nilT ((Cd.int IntKind.i64).pair ((Cd.int IntKind.i64).pair (Cd.str.pair Cd.unit))).den)),
  some
  (Blk.row false none ((Cd.int IntKind.i64).pair ((Cd.int IntKind.i64).pair Cd.unit))
  (nilT ((Cd.int IntKind.i64).pair ((Cd.int IntKind.i64).pair Cd.unit)).den)),
  some (Blk.row false none Cd.str s1), some (Blk.row false none Cd.str s3),
  some (Blk.row false none ((Cd.int IntKind.i64).pair ((Cd.int IntKind.i64).pair (Cd.str.pair Cd.unit))) s4),
  some (Blk.row false none ((Cd.int IntKind.i64).pair ((Cd.int IntKind.i64).pair Cd.unit)) s5)]))) : _) := by kernel_rfl
theorem sp_fun0 (f : List UInt8) (l : List (Int × Int × List UInt8 × Unit)) : funN Try.prog (look [(47, .rd1 newSessionG), (63, .rd1 l15OwnG), (64, .own l15StepCG)]) (look [(6, spE)]) Try.f27 [.s f, .sl (.pair (.int .i64) (.pair (.int .i64) (.pair .str .unit))) l] [] =
    ((ifB (decide (f.length ≤ (20 : Nat)))
  (ifB (decide ((↑l.length : Int) > (200 : Int)))
  (some
  (V.tup
  [V.agg
  [V.i IntKind.i64 (0 : Int), V.ref (0 : Nat) (0 : Nat) (0 : Nat), V.i IntKind.i64 (0 : Int),
  V.ref (1 : Nat) (0 : Nat) (0 : Nat), V.ref (2 : Nat) (0 : Nat) (0 : Nat),
  V.ref (3 : Nat) (0 : Nat) (0 : Nat)],
  V.ref (4 : Nat) (0 : Nat) (0 : Nat), V.b false],
  [some (Blk.row false none Cd.str (nilT Cd.str.den)), some (Blk.row false none Cd.str (nilT Cd.str.den)),
  some
  (Blk.row false none ((Cd.int IntKind.i64).pair ((Cd.int IntKind.i64).pair (Cd.str.pair Cd.unit)))
  (nilT ((Cd.int IntKind.i64).pair ((Cd.int IntKind.i64).pair (Cd.str.pair Cd.unit))).den)),
  some
  (Blk.row false none ((Cd.int IntKind.i64).pair ((Cd.int IntKind.i64).pair Cd.unit))
  (nilT ((Cd.int IntKind.i64).pair ((Cd.int IntKind.i64).pair Cd.unit)).den)),
  some (Blk.row false none Cd.bool (nilT Cd.bool.den))]))
  (ifT
  (decide
  (((0 : Int) ≤ (0 : Int) ∧
  (0 : Nat) ≤ l.length ∧ (↑l.length : Int) = (↑l.length : Int) ∧ l.length ≤ (200 : Nat)) ∧
  ((0 : Nat) = (0 : Nat) ∧ (0 : Nat) = (0 : Nat)) ∧
  ((1 : Nat) = (1 : Nat) ∧ (0 : Nat) = (0 : Nat) ∧ (0 : Nat) = (0 : Nat) ∧ (0 : Nat) = (0 : Nat)) ∧
  (Ses.mk (1 : Int) (f :: nilT Cd.str.den) (0 : Int) (nilT Cd.str.den)
  (nilT ((Cd.int IntKind.i64).pair ((Cd.int IntKind.i64).pair (Cd.str.pair Cd.unit))).den)
  (nilT ((Cd.int IntKind.i64).pair ((Cd.int IntKind.i64).pair Cd.unit)).den)).inv
  (1 : Nat)))
  (ifT
  (decide
  (((0 : Nat) +
  (List.take
  ((Ses.mk (1 : Int) (f :: nilT Cd.str.den) (0 : Int) (nilT Cd.str.den)
  (nilT ((Cd.int IntKind.i64).pair ((Cd.int IntKind.i64).pair (Cd.str.pair Cd.unit))).den)
  (nilT ((Cd.int IntKind.i64).pair ((Cd.int IntKind.i64).pair Cd.unit)).den)).play
  (List.drop (0 : Nat) l)).it.length
  (List.drop (0 : Nat)
  ((Ses.mk (1 : Int) (f :: nilT Cd.str.den) (0 : Int) (nilT Cd.str.den)
  (nilT ((Cd.int IntKind.i64).pair ((Cd.int IntKind.i64).pair (Cd.str.pair Cd.unit))).den)
  (nilT ((Cd.int IntKind.i64).pair ((Cd.int IntKind.i64).pair Cd.unit)).den)).play
  (List.drop (0 : Nat) l)).it)).length) *
  (16 : Nat) ≤
  (140737488355328 : Nat)) &&
  decide
  ((0 : Nat) +
  (List.take
  ((Ses.mk (1 : Int) (f :: nilT Cd.str.den) (0 : Int) (nilT Cd.str.den)
  (nilT ((Cd.int IntKind.i64).pair ((Cd.int IntKind.i64).pair (Cd.str.pair Cd.unit))).den)
  (nilT ((Cd.int IntKind.i64).pair ((Cd.int IntKind.i64).pair Cd.unit)).den)).play
  (List.drop (0 : Nat) l)).it.length
  (List.drop (0 : Nat)
  ((Ses.mk (1 : Int) (f :: nilT Cd.str.den) (0 : Int) (nilT Cd.str.den)
  (nilT ((Cd.int IntKind.i64).pair ((Cd.int IntKind.i64).pair (Cd.str.pair Cd.unit))).den)
  (nilT ((Cd.int IntKind.i64).pair ((Cd.int IntKind.i64).pair Cd.unit)).den)).play
  (List.drop (0 : Nat) l)).it)).length ≤
  maxI))
  (ifT
  (decide
  (((0 : Nat) +
  (List.take
  ((Ses.mk (1 : Int) (f :: nilT Cd.str.den) (0 : Int) (nilT Cd.str.den)
  (nilT
  ((Cd.int IntKind.i64).pair ((Cd.int IntKind.i64).pair (Cd.str.pair Cd.unit))).den)
  (nilT ((Cd.int IntKind.i64).pair ((Cd.int IntKind.i64).pair Cd.unit)).den)).play
  (List.drop (0 : Nat) l)).ha.length
  (List.drop (0 : Nat)
  ((Ses.mk (1 : Int) (f :: nilT Cd.str.den) (0 : Int) (nilT Cd.str.den)
  (nilT
  ((Cd.int IntKind.i64).pair ((Cd.int IntKind.i64).pair (Cd.str.pair Cd.unit))).den)
  (nilT ((Cd.int IntKind.i64).pair ((Cd.int IntKind.i64).pair Cd.unit)).den)).play
  (List.drop (0 : Nat) l)).ha)).length) *
  (16 : Nat) ≤
  (140737488355328 : Nat)) &&
  decide
  ((0 : Nat) +
  (List.take
  ((Ses.mk (1 : Int) (f :: nilT Cd.str.den) (0 : Int) (nilT Cd.str.den)
  (nilT ((Cd.int IntKind.i64).pair ((Cd.int IntKind.i64).pair (Cd.str.pair Cd.unit))).den)
  (nilT ((Cd.int IntKind.i64).pair ((Cd.int IntKind.i64).pair Cd.unit)).den)).play
  (List.drop (0 : Nat) l)).ha.length
  (List.drop (0 : Nat)
  ((Ses.mk (1 : Int) (f :: nilT Cd.str.den) (0 : Int) (nilT Cd.str.den)
  (nilT ((Cd.int IntKind.i64).pair ((Cd.int IntKind.i64).pair (Cd.str.pair Cd.unit))).den)
  (nilT ((Cd.int IntKind.i64).pair ((Cd.int IntKind.i64).pair Cd.unit)).den)).play
  (List.drop (0 : Nat) l)).ha)).length ≤
  maxI))
  (ifT
  (decide
  (((0 : Nat) +
  (List.take
  ((Ses.mk (1 : Int) (f :: nilT Cd.str.den) (0 : Int) (nilT Cd.str.den)
  (nilT
  ((Cd.int IntKind.i64).pair ((Cd.int IntKind.i64).pair (Cd.str.pair Cd.unit))).den)
  (nilT ((Cd.int IntKind.i64).pair ((Cd.int IntKind.i64).pair Cd.unit)).den)).play
  (List.drop (0 : Nat) l)).w.length
  (List.drop (0 : Nat)
  ((Ses.mk (1 : Int) (f :: nilT Cd.str.den) (0 : Int) (nilT Cd.str.den)
  (nilT
  ((Cd.int IntKind.i64).pair ((Cd.int IntKind.i64).pair (Cd.str.pair Cd.unit))).den)
  (nilT ((Cd.int IntKind.i64).pair ((Cd.int IntKind.i64).pair Cd.unit)).den)).play
  (List.drop (0 : Nat) l)).w)).length) *
  (32 : Nat) ≤
  (140737488355328 : Nat)) &&
  decide
  ((0 : Nat) +
  (List.take
  ((Ses.mk (1 : Int) (f :: nilT Cd.str.den) (0 : Int) (nilT Cd.str.den)
  (nilT
  ((Cd.int IntKind.i64).pair ((Cd.int IntKind.i64).pair (Cd.str.pair Cd.unit))).den)
  (nilT ((Cd.int IntKind.i64).pair ((Cd.int IntKind.i64).pair Cd.unit)).den)).play
  (List.drop (0 : Nat) l)).w.length
  (List.drop (0 : Nat)
  ((Ses.mk (1 : Int) (f :: nilT Cd.str.den) (0 : Int) (nilT Cd.str.den)
  (nilT
  ((Cd.int IntKind.i64).pair ((Cd.int IntKind.i64).pair (Cd.str.pair Cd.unit))).den)
  (nilT ((Cd.int IntKind.i64).pair ((Cd.int IntKind.i64).pair Cd.unit)).den)).play
  (List.drop (0 : Nat) l)).w)).length ≤
  maxI))
  (ifT
  (decide
  (((0 : Nat) +
  (List.take
  ((Ses.mk (1 : Int) (f :: nilT Cd.str.den) (0 : Int) (nilT Cd.str.den)
  (nilT
  ((Cd.int IntKind.i64).pair
  ((Cd.int IntKind.i64).pair (Cd.str.pair Cd.unit))).den)
  (nilT ((Cd.int IntKind.i64).pair ((Cd.int IntKind.i64).pair Cd.unit)).den)).play
  (List.drop (0 : Nat) l)).a.length
  (List.drop (0 : Nat)
  ((Ses.mk (1 : Int) (f :: nilT Cd.str.den) (0 : Int) (nilT Cd.str.den)
  (nilT
  ((Cd.int IntKind.i64).pair
  ((Cd.int IntKind.i64).pair (Cd.str.pair Cd.unit))).den)
  (nilT ((Cd.int IntKind.i64).pair ((Cd.int IntKind.i64).pair Cd.unit)).den)).play
  (List.drop (0 : Nat) l)).a)).length) *
  (16 : Nat) ≤
  (140737488355328 : Nat)) &&
  decide
  ((0 : Nat) +
  (List.take
  ((Ses.mk (1 : Int) (f :: nilT Cd.str.den) (0 : Int) (nilT Cd.str.den)
  (nilT
  ((Cd.int IntKind.i64).pair ((Cd.int IntKind.i64).pair (Cd.str.pair Cd.unit))).den)
  (nilT ((Cd.int IntKind.i64).pair ((Cd.int IntKind.i64).pair Cd.unit)).den)).play
  (List.drop (0 : Nat) l)).a.length
  (List.drop (0 : Nat)
  ((Ses.mk (1 : Int) (f :: nilT Cd.str.den) (0 : Int) (nilT Cd.str.den)
  (nilT
  ((Cd.int IntKind.i64).pair ((Cd.int IntKind.i64).pair (Cd.str.pair Cd.unit))).den)
  (nilT ((Cd.int IntKind.i64).pair ((Cd.int IntKind.i64).pair Cd.unit)).den)).play
  (List.drop (0 : Nat) l)).a)).length ≤
  maxI))
  (some
  (V.tup
  [V.agg
  [V.i IntKind.i64
  ((Ses.mk (1 : Int) (f :: nilT Cd.str.den) (0 : Int) (nilT Cd.str.den)
  (nilT
  ((Cd.int IntKind.i64).pair ((Cd.int IntKind.i64).pair (Cd.str.pair Cd.unit))).den)
  (nilT ((Cd.int IntKind.i64).pair ((Cd.int IntKind.i64).pair Cd.unit)).den)).play
  (List.drop (0 : Nat) l)).e,
  V.ref (0 : Nat) (0 : Nat)
  ((0 : Nat) +
  (List.take
  ((Ses.mk (1 : Int) (f :: nilT Cd.str.den) (0 : Int) (nilT Cd.str.den)
  (nilT
  ((Cd.int IntKind.i64).pair
  ((Cd.int IntKind.i64).pair (Cd.str.pair Cd.unit))).den)
  (nilT
  ((Cd.int IntKind.i64).pair ((Cd.int IntKind.i64).pair Cd.unit)).den)).play
  (List.drop (0 : Nat) l)).it.length
  (List.drop (0 : Nat)
  ((Ses.mk (1 : Int) (f :: nilT Cd.str.den) (0 : Int) (nilT Cd.str.den)
  (nilT
  ((Cd.int IntKind.i64).pair
  ((Cd.int IntKind.i64).pair (Cd.str.pair Cd.unit))).den)
  (nilT
  ((Cd.int IntKind.i64).pair ((Cd.int IntKind.i64).pair Cd.unit)).den)).play
  (List.drop (0 : Nat) l)).it)).length),
  V.i IntKind.i64
  ((Ses.mk (1 : Int) (f :: nilT Cd.str.den) (0 : Int) (nilT Cd.str.den)
  (nilT
  ((Cd.int IntKind.i64).pair ((Cd.int IntKind.i64).pair (Cd.str.pair Cd.unit))).den)
  (nilT ((Cd.int IntKind.i64).pair ((Cd.int IntKind.i64).pair Cd.unit)).den)).play
  (List.drop (0 : Nat) l)).b,
  V.ref (1 : Nat) (0 : Nat)
  ((0 : Nat) +
  (List.take
  ((Ses.mk (1 : Int) (f :: nilT Cd.str.den) (0 : Int) (nilT Cd.str.den)
  (nilT
  ((Cd.int IntKind.i64).pair
  ((Cd.int IntKind.i64).pair (Cd.str.pair Cd.unit))).den)
  (nilT
  ((Cd.int IntKind.i64).pair ((Cd.int IntKind.i64).pair Cd.unit)).den)).play
  (List.drop (0 : Nat) l)).ha.length
  (List.drop (0 : Nat)
  ((Ses.mk (1 : Int) (f :: nilT Cd.str.den) (0 : Int) (nilT Cd.str.den)
  (nilT
  ((Cd.int IntKind.i64).pair
  ((Cd.int IntKind.i64).pair (Cd.str.pair Cd.unit))).den)
  (nilT
  ((Cd.int IntKind.i64).pair ((Cd.int IntKind.i64).pair Cd.unit)).den)).play
  (List.drop (0 : Nat) l)).ha)).length),
  V.ref (2 : Nat) (0 : Nat)
  ((0 : Nat) +
  (List.take
  ((Ses.mk (1 : Int) (f :: nilT Cd.str.den) (0 : Int) (nilT Cd.str.den)
  (nilT
  ((Cd.int IntKind.i64).pair
  ((Cd.int IntKind.i64).pair (Cd.str.pair Cd.unit))).den)
  (nilT
  ((Cd.int IntKind.i64).pair ((Cd.int IntKind.i64).pair Cd.unit)).den)).play
  (List.drop (0 : Nat) l)).w.length
  (List.drop (0 : Nat)
  ((Ses.mk (1 : Int) (f :: nilT Cd.str.den) (0 : Int) (nilT Cd.str.den)
  (nilT
  ((Cd.int IntKind.i64).pair
  ((Cd.int IntKind.i64).pair (Cd.str.pair Cd.unit))).den)
  (nilT
  ((Cd.int IntKind.i64).pair ((Cd.int IntKind.i64).pair Cd.unit)).den)).play
  (List.drop (0 : Nat) l)).w)).length),
  V.ref (3 : Nat) (0 : Nat)
  ((0 : Nat) +
  (List.take
  ((Ses.mk (1 : Int) (f :: nilT Cd.str.den) (0 : Int) (nilT Cd.str.den)
  (nilT
  ((Cd.int IntKind.i64).pair
  ((Cd.int IntKind.i64).pair (Cd.str.pair Cd.unit))).den)
  (nilT
  ((Cd.int IntKind.i64).pair ((Cd.int IntKind.i64).pair Cd.unit)).den)).play
  (List.drop (0 : Nat) l)).a.length
  (List.drop (0 : Nat)
  ((Ses.mk (1 : Int) (f :: nilT Cd.str.den) (0 : Int) (nilT Cd.str.den)
  (nilT
  ((Cd.int IntKind.i64).pair
  ((Cd.int IntKind.i64).pair (Cd.str.pair Cd.unit))).den)
  (nilT
  ((Cd.int IntKind.i64).pair ((Cd.int IntKind.i64).pair Cd.unit)).den)).play
  (List.drop (0 : Nat) l)).a)).length)],
  V.ref (4 : Nat) (0 : Nat) l.length, V.b true],
  [some
  (Blk.row false none Cd.str
  (nilT Cd.str.den ++
  List.take
  ((Ses.mk (1 : Int) (f :: nilT Cd.str.den) (0 : Int) (nilT Cd.str.den)
  (nilT
  ((Cd.int IntKind.i64).pair
  ((Cd.int IntKind.i64).pair (Cd.str.pair Cd.unit))).den)
  (nilT ((Cd.int IntKind.i64).pair ((Cd.int IntKind.i64).pair Cd.unit)).den)).play
  (List.drop (0 : Nat) l)).it.length
  (List.drop (0 : Nat)
  ((Ses.mk (1 : Int) (f :: nilT Cd.str.den) (0 : Int) (nilT Cd.str.den)
  (nilT
  ((Cd.int IntKind.i64).pair
  ((Cd.int IntKind.i64).pair (Cd.str.pair Cd.unit))).den)
  (nilT ((Cd.int IntKind.i64).pair ((Cd.int IntKind.i64).pair Cd.unit)).den)).play
  (List.drop (0 : Nat) l)).it))),
  some
  (Blk.row false none Cd.str
  (nilT Cd.str.den ++
  List.take
  ((Ses.mk (1 : Int) (f :: nilT Cd.str.den) (0 : Int) (nilT Cd.str.den)
  (nilT
  ((Cd.int IntKind.i64).pair
  ((Cd.int IntKind.i64).pair (Cd.str.pair Cd.unit))).den)
  (nilT ((Cd.int IntKind.i64).pair ((Cd.int IntKind.i64).pair Cd.unit)).den)).play
  (List.drop (0 : Nat) l)).ha.length
  (List.drop (0 : Nat)
  ((Ses.mk (1 : Int) (f :: nilT Cd.str.den) (0 : Int) (nilT Cd.str.den)
  (nilT
  ((Cd.int IntKind.i64).pair
  ((Cd.int IntKind.i64).pair (Cd.str.pair Cd.unit))).den)
  (nilT ((Cd.int IntKind.i64).pair ((Cd.int IntKind.i64).pair Cd.unit)).den)).play
  (List.drop (0 : Nat) l)).ha))),
  some
  (Blk.row false none ((Cd.int IntKind.i64).pair ((Cd.int IntKind.i64).pair (Cd.str.pair Cd.unit)))
  (nilT ((Cd.int IntKind.i64).pair ((Cd.int IntKind.i64).pair (Cd.str.pair Cd.unit))).den ++
  List.take
  ((Ses.mk (1 : Int) (f :: nilT Cd.str.den) (0 : Int) (nilT Cd.str.den)
  (nilT
  ((Cd.int IntKind.i64).pair
  ((Cd.int IntKind.i64).pair (Cd.str.pair Cd.unit))).den)
  (nilT ((Cd.int IntKind.i64).pair ((Cd.int IntKind.i64).pair Cd.unit)).den)).play
  (List.drop (0 : Nat) l)).w.length
  (List.drop (0 : Nat)
  ((Ses.mk (1 : Int) (f :: nilT Cd.str.den) (0 : Int) (nilT Cd.str.den)
  (nilT
  ((Cd.int IntKind.i64).pair
  ((Cd.int IntKind.i64).pair (Cd.str.pair Cd.unit))).den)
  (nilT ((Cd.int IntKind.i64).pair ((Cd.int IntKind.i64).pair Cd.unit)).den)).play
  (List.drop (0 : Nat) l)).w))),
  some
  (Blk.row false none ((Cd.int IntKind.i64).pair ((Cd.int IntKind.i64).pair Cd.unit))
  (nilT ((Cd.int IntKind.i64).pair ((Cd.int IntKind.i64).pair Cd.unit)).den ++
  List.take
  ((Ses.mk (1 : Int) (f :: nilT Cd.str.den) (0 : Int) (nilT Cd.str.den)
  (nilT
  ((Cd.int IntKind.i64).pair
  ((Cd.int IntKind.i64).pair (Cd.str.pair Cd.unit))).den)
  (nilT ((Cd.int IntKind.i64).pair ((Cd.int IntKind.i64).pair Cd.unit)).den)).play
  (List.drop (0 : Nat) l)).a.length
  (List.drop (0 : Nat)
  ((Ses.mk (1 : Int) (f :: nilT Cd.str.den) (0 : Int) (nilT Cd.str.den)
  (nilT
  ((Cd.int IntKind.i64).pair
  ((Cd.int IntKind.i64).pair (Cd.str.pair Cd.unit))).den)
  (nilT ((Cd.int IntKind.i64).pair ((Cd.int IntKind.i64).pair Cd.unit)).den)).play
  (List.drop (0 : Nat) l)).a))),
  some
  (Blk.row false none Cd.bool
  (nilT Cd.bool.den ++
  (Ses.mk (1 : Int) (f :: nilT Cd.str.den) (0 : Int) (nilT Cd.str.den)
  (nilT ((Cd.int IntKind.i64).pair ((Cd.int IntKind.i64).pair (Cd.str.pair Cd.unit))).den)
  (nilT ((Cd.int IntKind.i64).pair ((Cd.int IntKind.i64).pair Cd.unit)).den)).tell
  (List.drop (0 : Nat) l)))]))))))))
  (some
  (V.tup
  [V.agg
  [V.i IntKind.i64 (0 : Int), V.ref (0 : Nat) (0 : Nat) (0 : Nat), V.i IntKind.i64 (0 : Int),
  V.ref (1 : Nat) (0 : Nat) (0 : Nat), V.ref (2 : Nat) (0 : Nat) (0 : Nat),
  V.ref (3 : Nat) (0 : Nat) (0 : Nat)],
  V.ref (4 : Nat) (0 : Nat) (0 : Nat), V.b false],
  [some (Blk.row false none Cd.str (nilT Cd.str.den)), some (Blk.row false none Cd.str (nilT Cd.str.den)),
  some
  (Blk.row false none ((Cd.int IntKind.i64).pair ((Cd.int IntKind.i64).pair (Cd.str.pair Cd.unit)))
  (nilT ((Cd.int IntKind.i64).pair ((Cd.int IntKind.i64).pair (Cd.str.pair Cd.unit))).den)),
  some
  (Blk.row false none ((Cd.int IntKind.i64).pair ((Cd.int IntKind.i64).pair Cd.unit))
  (nilT ((Cd.int IntKind.i64).pair ((Cd.int IntKind.i64).pair Cd.unit)).den)),
  some (Blk.row false none Cd.bool (nilT Cd.bool.den))]))) : _) := by kernel_rfl
theorem ip_step {l : List (Int × Int × List UInt8 × Unit)} (hl : l.length ≤ 200) {s : Ses} {d : List Bool} {n : Nat} (h1 : n < l.length) (hd : d.length = l.length) (hi : s.inv (1 + n)) :
    roundK Try.prog (look [(46, .rd1 newSessionG), (93, .own oStepCG)]) (look [(6, ipE)]) 0 (body Try.f26 0) ipE (ipD l s d n) = some (.normal, ipD l (s.one l[n]) (d.set n (s.ok l[n].1 l[n].2.1 l[n].2.2.1)) (n + 1)) := by
  have hr := ip_round d.length l s.e s.it.length s.b s.ha.length s.w.length s.a.length d s.it s.ha s.w s.a n
  obtain ⟨i1, i2, -, i4, i5, i6, i7⟩ := hi
  have hM : maxI = 9223372036854775807 := rfl
  simp only [Int.toNat_natCast, List.getElem?_eq_getElem h1, wrap_succ (n := n) (by omega), Nat.zero_add, List.drop_zero, List.take_length, nilT_eq, List.take_nil, List.nil_append, List.drop_nil, List.take_zero] at hr
  rw [ifB_true (decide_eq_true (by omega)), ifT_true (by simp only [Bool.and_eq_true, decide_eq_true_eq]; omega), ifSome_s] at hr
  rw [ifT_true (by simp only [true_and, decide_eq_true_eq]; omega)] at hr
  refine hr.trans ?_
  clear hr
  generalize l[n] = z
  have hone : s.one z = bif s.ok z.1 z.2.1 z.2.2.1 then s.next z.1 z.2.1 z.2.2.1 else s := rfl
  rw [hone]
  cases hk : s.ok z.1 z.2.1 z.2.2.1 with
  | true =>
    rw [ifB_t, ifT_true (by simp only [Bool.and_eq_true, decide_eq_true_eq]; omega), List.getElem?_eq_getElem (show n < d.length by omega), ifSome_s]
    unfold ipD
    rw [List.length_set]
    rfl
  | false =>
    rw [ifB_f, ifT_true (by simp only [Bool.and_eq_true, decide_eq_true_eq]; omega), List.getElem?_eq_getElem (show n < d.length by omega), ifSome_s]
    unfold ipD
    rw [List.length_set]
    rfl
theorem ip_loop {l : List (Int × Int × List UInt8 × Unit)} (hl : l.length ≤ 200) : ∀ (j n : Nat) (s : Ses) (d : List Bool), n + j = l.length → d.length = l.length → s.inv (1 + n) →
    Runs Try.prog (look [(46, .rd1 newSessionG), (93, .own oStepCG)]) (look [(6, ipE)]) 0 (body Try.f26 0) ipE (ipD l s d n) (.exit 0) ([.ptr 0 0, .ptr 1 0, .ref 2 0 l.length], [some (.box [.i .i64 0, .ref 3 0 0, .i .i64 0, .ref 4 0 0, .ref 5 0 0, .ref 6 0 0]), some (.box [.i .i64 (s.play (l.drop n)).e, .ref 7 0 (s.play (l.drop n)).it.length, .i .i64 (s.play (l.drop n)).b, .ref 8 0 (s.play (l.drop n)).ha.length, .ref 9 0 (s.play (l.drop n)).w.length, .ref 10 0 (s.play (l.drop n)).a.length]), some (.row false none .bool (d.take n ++ s.tell (l.drop n))), some (.row false none .str []), some (.row false none .str []), some (.row false none (.pair (.int .i64) (.pair (.int .i64) (.pair .str .unit))) []), some (.row false none (.pair (.int .i64) (.pair (.int .i64) .unit)) []), some (.row false none .str (s.play (l.drop n)).it), some (.row false none .str (s.play (l.drop n)).ha), some (.row false none (.pair (.int .i64) (.pair (.int .i64) (.pair .str .unit))) (s.play (l.drop n)).w), some (.row false none (.pair (.int .i64) (.pair (.int .i64) .unit)) (s.play (l.drop n)).a)])
  | 0, n, s, d, hn, hd, hi => by
    have e1 : l.drop n = [] := List.drop_eq_nil_of_le (by omega)
    have e2 : d.take n = d := List.take_of_length_le (by omega)
    rw [e1, e2, Ses.play, Ses.tell, List.append_nil, show l.length = d.length by omega]
    refine .stop _ _ _ ((ip_round d.length l s.e s.it.length s.b s.ha.length s.w.length s.a.length d s.it s.ha s.w s.a n).trans ?_) (by simp)
    rw [ifB_false (decide_eq_false (by omega))]
  | j + 1, n, s, d, hn, hd, hi => by
    have h1 : n < l.length := by omega
    have ih := ip_loop hl j (n + 1) (s.one l[n]) (d.set n (s.ok l[n].1 l[n].2.1 l[n].2.2.1)) (by omega) (by simp; omega) (by rw [show 1 + (n + 1) = 1 + n + 1 by omega]; exact Ses.one_inv hi _)
    rw [List.drop_eq_getElem_cons h1, Ses.play, Ses.tell]
    have e3 : (d.set n (s.ok l[n].1 l[n].2.1 l[n].2.2.1)).take (n + 1) = d.take n ++ [s.ok l[n].1 l[n].2.1 l[n].2.2.1] := set_take (by omega)
    rw [e3, List.append_assoc] at ih
    exact .step _ _ _ _ (ip_step hl h1 hd hi) ih
theorem ip_ok : LoopsOk Try.prog (look [(46, .rd1 newSessionG), (93, .own oStepCG)]) (look [(6, ipE)]) 0 (Try.f26.body.getD .skip) := by
  refine loopsOk_one (a := body Try.f26 0) (by kernel_rfl) fun d e d' h => ?_
  unfold ipE at h
  dsimp only at h
  split at h
  · obtain ⟨hc, h'⟩ := need_some h
    obtain ⟨⟨h0, h1, rfl, h2⟩, ⟨rfl, h3⟩, ⟨rfl, rfl, rfl, rfl⟩, h4⟩ := of_decide_eq_true hc
    obtain ⟨n, rfl⟩ := Int.eq_ofNat_of_zero_le h0
    have h5 := leaf_some h'
    obtain ⟨rfl, rfl⟩ := Prod.mk.inj h5
    exact ip_loop h2 _ n _ _ (Nat.add_sub_of_le h1) h3 h4
  · cases h
theorem sp_step {l : List (Int × Int × List UInt8 × Unit)} (hl : l.length ≤ 200) {s : Ses} {d : List Bool} {n : Nat} (h1 : n < l.length) (hd : d.length = n) (hi : s.inv (1 + n)) :
    roundK Try.prog (look [(47, .rd1 newSessionG), (63, .rd1 l15OwnG), (64, .own l15StepCG)]) (look [(6, spE)]) 0 (body Try.f27 0) spE (spD l s d n) = some (.normal, spD l (s.one l[n]) (d ++ [s.ok l[n].1 l[n].2.1 l[n].2.2.1]) (n + 1)) := by
  have hr := sp_round d.length l s.e s.it.length s.b s.ha.length s.w.length s.a.length d s.it s.ha s.w s.a n
  obtain ⟨i1, i2, -, i4, i5, i6, i7⟩ := hi
  have hM : maxI = 9223372036854775807 := rfl
  simp only [Int.toNat_natCast, List.getElem?_eq_getElem h1, wrap_succ (n := n) (by omega), Nat.zero_add, List.drop_zero, List.take_length, nilT_eq, List.take_nil, List.nil_append, List.drop_nil, List.take_zero] at hr
  rw [ifB_true (decide_eq_true (by omega)), ifT_true (by simp only [Bool.and_eq_true, decide_eq_true_eq]; omega), ifSome_s] at hr
  rw [ifT_true (by simp only [Bool.and_eq_true, decide_eq_true_eq]; omega), ifT_true (by simp only [Bool.and_eq_true, decide_eq_true_eq]; omega), ifT_true (by simp only [Bool.and_eq_true, decide_eq_true_eq]; omega), ifT_true (by simp only [Bool.and_eq_true, decide_eq_true_eq]; omega), ifT_true (by simp only [true_and, decide_eq_true_eq]; omega)] at hr
  refine hr.trans ?_
  clear hr
  generalize l[n] = z
  have hone : s.one z = bif s.ok z.1 z.2.1 z.2.2.1 then s.next z.1 z.2.1 z.2.2.1 else s := rfl
  rw [hone]
  cases hk : s.ok z.1 z.2.1 z.2.2.1 with
  | true =>
    rw [ifB_t, ifT_true (by simp only [Bool.and_eq_true, decide_eq_true_eq]; omega)]
    unfold spD
    rw [List.length_append]
    rfl
  | false =>
    rw [ifB_f, ifT_true (by simp only [Bool.and_eq_true, decide_eq_true_eq]; omega)]
    unfold spD
    rw [List.length_append]
    rfl
theorem sp_loop {l : List (Int × Int × List UInt8 × Unit)} (hl : l.length ≤ 200) : ∀ (j n : Nat) (s : Ses) (d : List Bool), n + j = l.length → d.length = n → s.inv (1 + n) →
    Runs Try.prog (look [(47, .rd1 newSessionG), (63, .rd1 l15OwnG), (64, .own l15StepCG)]) (look [(6, spE)]) 0 (body Try.f27 0) spE (spD l s d n) (.exit 0) ([.ptr 0 0, .ptr 1 0, .ref 2 0 l.length], [some (.box [.i .i64 0, .ref 3 0 0, .i .i64 0, .ref 4 0 0, .ref 5 0 0, .ref 6 0 0]), some (.box [.i .i64 (s.play (l.drop n)).e, .ref 7 0 (s.play (l.drop n)).it.length, .i .i64 (s.play (l.drop n)).b, .ref 8 0 (s.play (l.drop n)).ha.length, .ref 9 0 (s.play (l.drop n)).w.length, .ref 10 0 (s.play (l.drop n)).a.length]), some (.row false none .bool (d.take n ++ s.tell (l.drop n))), some (.row false none .str []), some (.row false none .str []), some (.row false none (.pair (.int .i64) (.pair (.int .i64) (.pair .str .unit))) []), some (.row false none (.pair (.int .i64) (.pair (.int .i64) .unit)) []), some (.row false none .str (s.play (l.drop n)).it), some (.row false none .str (s.play (l.drop n)).ha), some (.row false none (.pair (.int .i64) (.pair (.int .i64) (.pair .str .unit))) (s.play (l.drop n)).w), some (.row false none (.pair (.int .i64) (.pair (.int .i64) .unit)) (s.play (l.drop n)).a)])
  | 0, n, s, d, hn, hd, hi => by
    have e1 : l.drop n = [] := List.drop_eq_nil_of_le (by omega)
    have e2 : d.take n = d := List.take_of_length_le (by omega)
    rw [e1, e2, Ses.play, Ses.tell, List.append_nil, show l.length = d.length by omega]
    refine .stop _ _ _ ((sp_round d.length l s.e s.it.length s.b s.ha.length s.w.length s.a.length d s.it s.ha s.w s.a n).trans ?_) (by simp)
    rw [ifB_false (decide_eq_false (by omega))]
  | j + 1, n, s, d, hn, hd, hi => by
    have h1 : n < l.length := by omega
    have ih := sp_loop hl j (n + 1) (s.one l[n]) (d ++ [s.ok l[n].1 l[n].2.1 l[n].2.2.1]) (by omega) (by simp; omega) (by rw [show 1 + (n + 1) = 1 + n + 1 by omega]; exact Ses.one_inv hi _)
    rw [List.drop_eq_getElem_cons h1, Ses.play, Ses.tell]
    have e3 : (d ++ [s.ok l[n].1 l[n].2.1 l[n].2.2.1]).take (n + 1) = d.take n ++ [s.ok l[n].1 l[n].2.1 l[n].2.2.1] := by rw [List.take_of_length_le (by simp; omega), List.take_of_length_le (by omega)]
    rw [e3, List.append_assoc] at ih
    exact .step _ _ _ _ (sp_step hl h1 hd hi) ih
theorem sp_ok : LoopsOk Try.prog (look [(47, .rd1 newSessionG), (63, .rd1 l15OwnG), (64, .own l15StepCG)]) (look [(6, spE)]) 0 (Try.f27.body.getD .skip) := by
  refine loopsOk_one (a := body Try.f27 0) (by kernel_rfl) fun d e d' h => ?_
  unfold spE at h
  dsimp only at h
  split at h
  · obtain ⟨hc, h'⟩ := need_some h
    obtain ⟨⟨h0, h1, rfl, h2⟩, ⟨rfl, h3⟩, ⟨rfl, rfl, rfl, rfl⟩, h4⟩ := of_decide_eq_true hc
    obtain ⟨n, rfl⟩ := Int.eq_ofNat_of_zero_le h0
    have h5 := leaf_some h'
    obtain ⟨rfl, rfl⟩ := Prod.mk.inj h5
    exact sp_loop h2 _ n _ _ (Nat.add_sub_of_le h1) h3 h4
  · cases h
theorem implPlay_fun (f : List UInt8) (l : List (Int × Int × List UInt8 × Unit)) : funN Try.prog (look [(46, .rd1 newSessionG), (93, .own oStepCG)]) (look [(6, ipE)]) Try.f26 [.s f, .sl (.pair (.int .i64) (.pair (.int .i64) (.pair .str .unit))) l] [] = (.leaf (.tup [.agg [.i .i64 (playS f l).e, .ref 0 0 (playS f l).it.length, .i .i64 (playS f l).b, .ref 1 0 (playS f l).ha.length, .ref 2 0 (playS f l).w.length, .ref 3 0 (playS f l).a.length], .ref 4 0 (playT f l).length, .b (decide (f.length ≤ 20 ∧ l.length ≤ 200))], [some (.row false none .str (playS f l).it), some (.row false none .str (playS f l).ha), some (.row false none (.pair (.int .i64) (.pair (.int .i64) (.pair .str .unit))) (playS f l).w), some (.row false none (.pair (.int .i64) (.pair (.int .i64) .unit)) (playS f l).a), some (.row false none .bool (playT f l))]) : Br (V × List (Option Blk))).run := by
  rw [ip_fun0]
  by_cases hc : f.length ≤ 20 ∧ l.length ≤ 200
  · have eS : playS f l = (Ses.mk 1 [f] 0 [] [] []).play l := by unfold playS; rw [if_pos hc]
    have eT : playT f l = (Ses.mk 1 [f] 0 [] [] []).tell l := by unfold playT; rw [if_pos hc]
    rw [eS, eT, decide_eq_true hc, ifB_true (decide_eq_true hc.1), ifB_false (decide_eq_false (by omega))]
    have hi : (Ses.mk 1 [f] 0 [] [] []).inv 1 := ⟨by simp, by simp, by simp, by simp, by simp, by simp, by simp⟩
    have hp := Ses.play_inv l hi
    have ht := Ses.tell_len l (Ses.mk 1 [f] 0 [] [] [])
    have hM : maxI = 9223372036854775807 := rfl
    simp only [nilT_eq, List.drop_zero, List.take_zero, List.take_nil, List.nil_append, Nat.zero_add, List.take_length, List.length_replicate, Int.toNat_natCast, Nat.add_zero, ht]
    rw [ifT_true (by simp only [Bool.and_eq_true, decide_eq_true_eq]; omega), ifT_true (decide_eq_true ⟨⟨by omega, by omega, trivial, hc.2⟩, ⟨trivial, trivial⟩, by simp, hi⟩)]
    generalize (Ses.mk 1 [f] 0 [] [] []).tell l = bs at ht ⊢
    generalize (Ses.mk 1 [f] 0 [] [] []).play l = t at hp ⊢
    obtain ⟨i1, i2, -, i4, i5, i6, i7⟩ := hp
    rfl
  · have eS : playS f l = ⟨0, [], 0, [], [], []⟩ := by unfold playS; rw [if_neg hc]
    have eT : playT f l = [] := by unfold playT; rw [if_neg hc]
    rw [eS, eT, decide_eq_false hc]
    by_cases hf : f.length ≤ 20
    · rw [ifB_true (decide_eq_true hf), ifB_true (decide_eq_true (by omega))]; rfl
    · rw [ifB_false (decide_eq_false hf)]; rfl
theorem implPlay : Contract Try.prog 26 (Ent.rd1 playG).F := by
  refine fun_contractN' (KnowsL.cons (enters_fn Try.func46 (by kernel_rfl) (by kernel_rfl)) implNewSession (KnowsL.cons (enters_fn Try.func93 (by kernel_rfl) (by kernel_rfl)) oStepC KnowsL.nil)).knows (Λ := (look [(6, ipE)])) Try.func26 (c := Try.f26.body.getD .skip) (by kernel_rfl) fun vs bs r h hv hb => ?_
  unfold Ent.F playG at h
  dsimp only at h
  split at h
  · rename_i f l
    exact ⟨ip_ok, (implPlay_fun f l).trans h⟩
  · cases h
theorem specPlay_fun (f : List UInt8) (l : List (Int × Int × List UInt8 × Unit)) : funN Try.prog (look [(47, .rd1 newSessionG), (63, .rd1 l15OwnG), (64, .own l15StepCG)]) (look [(6, spE)]) Try.f27 [.s f, .sl (.pair (.int .i64) (.pair (.int .i64) (.pair .str .unit))) l] [] = (.leaf (.tup [.agg [.i .i64 (playS f l).e, .ref 0 0 (playS f l).it.length, .i .i64 (playS f l).b, .ref 1 0 (playS f l).ha.length, .ref 2 0 (playS f l).w.length, .ref 3 0 (playS f l).a.length], .ref 4 0 (playT f l).length, .b (decide (f.length ≤ 20 ∧ l.length ≤ 200))], [some (.row false none .str (playS f l).it), some (.row false none .str (playS f l).ha), some (.row false none (.pair (.int .i64) (.pair (.int .i64) (.pair .str .unit))) (playS f l).w), some (.row false none (.pair (.int .i64) (.pair (.int .i64) .unit)) (playS f l).a), some (.row false none .bool (playT f l))]) : Br (V × List (Option Blk))).run := by
  rw [sp_fun0]
  by_cases hc : f.length ≤ 20 ∧ l.length ≤ 200
  · have eS : playS f l = (Ses.mk 1 [f] 0 [] [] []).play l := by unfold playS; rw [if_pos hc]
    have eT : playT f l = (Ses.mk 1 [f] 0 [] [] []).tell l := by unfold playT; rw [if_pos hc]
    rw [eS, eT, decide_eq_true hc, ifB_true (decide_eq_true hc.1), ifB_false (decide_eq_false (by omega))]
    have hi : (Ses.mk 1 [f] 0 [] [] []).inv 1 := ⟨by simp, by simp, by simp, by simp, by simp, by simp, by simp⟩
    have hp := Ses.play_inv l hi
    have ht := Ses.tell_len l (Ses.mk 1 [f] 0 [] [] [])
    have hM : maxI = 9223372036854775807 := rfl
    simp only [nilT_eq, List.drop_zero, List.take_zero, List.take_nil, List.nil_append, Nat.zero_add, List.take_length, List.length_replicate, Int.toNat_natCast, Nat.add_zero, ht]
    rw [ifT_true (decide_eq_true ⟨⟨by omega, by omega, trivial, hc.2⟩, by simp, by simp, hi⟩)]
    generalize (Ses.mk 1 [f] 0 [] [] []).tell l = bs at ht ⊢
    generalize (Ses.mk 1 [f] 0 [] [] []).play l = t at hp ⊢
    obtain ⟨i1, i2, -, i4, i5, i6, i7⟩ := hp
    rw [ifT_true (by simp only [Bool.and_eq_true, decide_eq_true_eq]; omega), ifT_true (by simp only [Bool.and_eq_true, decide_eq_true_eq]; omega), ifT_true (by simp only [Bool.and_eq_true, decide_eq_true_eq]; omega), ifT_true (by simp only [Bool.and_eq_true, decide_eq_true_eq]; omega)]
    rfl
  · have eS : playS f l = ⟨0, [], 0, [], [], []⟩ := by unfold playS; rw [if_neg hc]
    have eT : playT f l = [] := by unfold playT; rw [if_neg hc]
    rw [eS, eT, decide_eq_false hc]
    by_cases hf : f.length ≤ 20
    · rw [ifB_true (decide_eq_true hf), ifB_true (decide_eq_true (by omega))]; rfl
    · rw [ifB_false (decide_eq_false hf)]; rfl
theorem specPlay : Contract Try.prog 27 (Ent.rd1 playG).F := by
  refine fun_contractN' (KnowsL.cons (enters_fn Try.func47 (by kernel_rfl) (by kernel_rfl)) specNewSession (KnowsL.cons (enters_fn Try.func63 (by kernel_rfl) (by kernel_rfl)) l15Own (KnowsL.cons (enters_fn Try.func64 (by kernel_rfl) (by kernel_rfl)) l15StepC KnowsL.nil))).knows (Λ := (look [(6, spE)])) Try.func27 (c := Try.f27.body.getD .skip) (by kernel_rfl) fun vs bs r h hv hb => ?_
  unfold Ent.F playG at h
  dsimp only at h
  split at h
  · rename_i f l
    exact ⟨sp_ok, (specPlay_fun f l).trans h⟩
  · cases h
end Go.Proofs.Ytjghbihlgfjebaa.Den
