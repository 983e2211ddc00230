/- What functions of the program do, by the machine: Que9. -/
import Derived.Test.YtjghbihlgfjebaaDQue7
import Derived.KernelRfl
import Derived.Test.YtjghbihlgfjebaaRows
namespace Go.Proofs.Ytjghbihlgfjebaa.Den
open Go.Proofs
set_option maxRecDepth 100000
/-- One offer or hand; -2 where nothing was done. -/
def Que.one (q : Que) (b : Bool) : Que × Int := match b with
  | true => if q.n = 100 then (q, -2) else q.off
  | false => if q.w.length = 0 then (q, -2) else q.hnd
def Que.play (q : Que) : List Bool → Que × List Int
  | [] => (q, [])
  | b :: l => (((q.one b).1.play l).1, (q.one b).2 :: ((q.one b).1.play l).2)
/-- A queue whose waiting ones lie in a row from a place on. -/
def Que.view (s : Que × Nat) : Que := ⟨s.1.c, s.1.r, s.1.n, s.1.w.drop s.2, s.1.h, s.1.d⟩
def Que.oneR (s : Que × Nat) (b : Bool) : (Que × Nat) × Int := match b with
  | true => if s.1.n = 100 then (s, -2) else ((⟨(Que.view s).off.1.c, (Que.view s).off.1.r, (Que.view s).off.1.n, (Que.view s).offR s.1.w, (Que.view s).off.1.h, (Que.view s).off.1.d⟩, (Que.view s).offP s.2), (Que.view s).off.2)
  | false => if (Que.view s).w.length = 0 then (s, -2) else ((⟨(Que.view s).hnd.1.c, (Que.view s).hnd.1.r, (Que.view s).hnd.1.n, s.1.w, (Que.view s).hnd.1.h, (Que.view s).hnd.1.d⟩, s.2 + 1), (Que.view s).hnd.2)
def Que.playR (s : Que × Nat) : List Bool → (Que × Nat) × List Int
  | [] => (s, [])
  | b :: l => ((Que.playR (Que.oneR s b).1 l).1, (Que.oneR s b).2 :: (Que.playR (Que.oneR s b).1 l).2)
def splayE : LoopEnt := ⟨67, [6, 9, 11, 31, 32, 33], [6, 9, 11], [], fun
  | ([.ptr 0 0, .ptr 1 0, .ref 2 0 k, .sl .bool l, .i .i64 m, .i .i64 i], [some (.box [.i .i64 0, .i .i64 0, .i .i64 0, .ref 3 0 0, .ref 4 0 0, .ref 5 0 0]), some (.box [.i .i64 c, .i .i64 r, .i .i64 n, .ref 6 0 a, .ref 7 0 b, .ref 8 0 e]), some (.row false none (.int .i64) o), some (.row false none (.int .i64) []), some (.row false none (.int .i64) []), some (.row false none (.int .i64) []), some (.row false none (.int .i64) w), some (.row false none (.int .i64) h), some (.row false none (.int .i64) d)]) =>
    .need (decide (0 ≤ i ∧ i.toNat ≤ l.length ∧ m = l.length ∧ l.length ≤ 200 ∧ k = o.length ∧ (k : Int) = i ∧ a = w.length ∧ b = h.length ∧ e = d.length) && goodQ c r n w h d) (.leaf (.exit 0, ([.ptr 0 0, .ptr 1 0, .ref 2 0 (o ++ ((Que.mk c r n w h d).play (l.drop i.toNat)).2).length], [some (.box [.i .i64 0, .i .i64 0, .i .i64 0, .ref 3 0 0, .ref 4 0 0, .ref 5 0 0]), some (.box [.i .i64 ((Que.mk c r n w h d).play (l.drop i.toNat)).1.c, .i .i64 ((Que.mk c r n w h d).play (l.drop i.toNat)).1.r, .i .i64 ((Que.mk c r n w h d).play (l.drop i.toNat)).1.n, .ref 6 0 ((Que.mk c r n w h d).play (l.drop i.toNat)).1.w.length, .ref 7 0 ((Que.mk c r n w h d).play (l.drop i.toNat)).1.h.length, .ref 8 0 ((Que.mk c r n w h d).play (l.drop i.toNat)).1.d.length]), some (.row false none (.int .i64) (o ++ ((Que.mk c r n w h d).play (l.drop i.toNat)).2)), some (.row false none (.int .i64) []), some (.row false none (.int .i64) []), some (.row false none (.int .i64) []), some (.row false none (.int .i64) ((Que.mk c r n w h d).play (l.drop i.toNat)).1.w), some (.row false none (.int .i64) ((Que.mk c r n w h d).play (l.drop i.toNat)).1.h), some (.row false none (.int .i64) ((Que.mk c r n w h d).play (l.drop i.toNat)).1.d)])))
  | _ => .no⟩
def iplayE : LoopEnt := ⟨56, [6, 9, 11, 34, 35, 36], [6, 9, 11], [], fun
  | ([.ptr 0 0, .ptr 1 0, .ref 2 0 k, .sl .bool l, .i .i64 m, .i .i64 i], [some (.box [.i .i64 0, .i .i64 0, .i .i64 0, .ref 3 0 0, .ref 4 0 0, .ref 5 0 0]), some (.box [.i .i64 c, .i .i64 r, .i .i64 n, .ref 6 p a, .ref 7 0 b, .ref 8 0 e]), some (.row false none (.int .i64) o), some (.row false none (.int .i64) []), some (.row false none (.int .i64) []), some (.row false none (.int .i64) []), some (.row false none (.int .i64) w), some (.row false none (.int .i64) h), some (.row false none (.int .i64) d)]) =>
    .need (decide (0 ≤ i ∧ i.toNat ≤ l.length ∧ m = l.length ∧ l.length ≤ 200 ∧ k = o.length ∧ o.length = l.length ∧ p + a = w.length ∧ b = h.length ∧ e = d.length) && goodQ c r n (w.drop p) h d) (.leaf (.exit 0, ([.ptr 0 0, .ptr 1 0, .ref 2 0 k], [some (.box [.i .i64 0, .i .i64 0, .i .i64 0, .ref 3 0 0, .ref 4 0 0, .ref 5 0 0]), some (.box [.i .i64 (Que.playR ((Que.mk c r n w h d), p) (l.drop i.toNat)).1.1.c, .i .i64 (Que.playR ((Que.mk c r n w h d), p) (l.drop i.toNat)).1.1.r, .i .i64 (Que.playR ((Que.mk c r n w h d), p) (l.drop i.toNat)).1.1.n, .ref 6 (Que.playR ((Que.mk c r n w h d), p) (l.drop i.toNat)).1.2 (Que.view (Que.playR ((Que.mk c r n w h d), p) (l.drop i.toNat)).1).w.length, .ref 7 0 (Que.playR ((Que.mk c r n w h d), p) (l.drop i.toNat)).1.1.h.length, .ref 8 0 (Que.playR ((Que.mk c r n w h d), p) (l.drop i.toNat)).1.1.d.length]), some (.row false none (.int .i64) (o.take i.toNat ++ (Que.playR ((Que.mk c r n w h d), p) (l.drop i.toNat)).2)), some (.row false none (.int .i64) []), some (.row false none (.int .i64) []), some (.row false none (.int .i64) []), some (.row false none (.int .i64) (Que.playR ((Que.mk c r n w h d), p) (l.drop i.toNat)).1.1.w), some (.row false none (.int .i64) (Que.playR ((Que.mk c r n w h d), p) (l.drop i.toNat)).1.1.h), some (.row false none (.int .i64) (Que.playR ((Que.mk c r n w h d), p) (l.drop i.toNat)).1.1.d)])))
  | _ => .no⟩
/-- What a play answers. -/
def playO (c r : Int) (l : List Bool) : Que × List Int × Bool := if ((1 ≤ c ∧ c ≤ 10) ∧ 1 ≤ r ∧ r ≤ 3) ∧ l.length ≤ 200 then (((Que.mk c r 0 [] [] []).play l).1, ((Que.mk c r 0 [] [] []).play l).2, true) else (Que.zero, [], false)
def playP (c r : Int) (l : List Bool) : (Que × Nat) × List Int × Bool := if ((1 ≤ c ∧ c ≤ 10) ∧ 1 ≤ r ∧ r ≤ 3) ∧ l.length ≤ 200 then ((Que.playR (Que.mk c r 0 [] [] [], 0) l).1, (Que.playR (Que.mk c r 0 [] [] [], 0) l).2, true) else ((Que.zero, 0), [], false)
def splayG : List V → List Blk → Br (V × List (Option Blk))
  | [.i .i64 c, .i .i64 r, .sl .bool l], [] => .leaf (.tup [.agg [.i .i64 (playO c r l).1.c, .i .i64 (playO c r l).1.r, .i .i64 (playO c r l).1.n, .ref 0 0 (playO c r l).1.w.length, .ref 1 0 (playO c r l).1.h.length, .ref 2 0 (playO c r l).1.d.length], .ref 3 0 (playO c r l).2.1.length, .b (playO c r l).2.2], [some (.row false none (.int .i64) (playO c r l).1.w), some (.row false none (.int .i64) (playO c r l).1.h), some (.row false none (.int .i64) (playO c r l).1.d), some (.row false none (.int .i64) (playO c r l).2.1)])
  | _, _ => .no
def iplayG : List V → List Blk → Br (V × List (Option Blk))
  | [.i .i64 c, .i .i64 r, .sl .bool l], [] => .leaf (.tup [.agg [.i .i64 (playP c r l).1.1.c, .i .i64 (playP c r l).1.1.r, .i .i64 (playP c r l).1.1.n, .ref 0 (playP c r l).1.2 (Que.view (playP c r l).1).w.length, .ref 1 0 (playP c r l).1.1.h.length, .ref 2 0 (playP c r l).1.1.d.length], .ref 3 0 (playP c r l).2.1.length, .b (playP c r l).2.2], [some (.row false none (.int .i64) (playP c r l).1.1.w), some (.row false none (.int .i64) (playP c r l).1.1.h), some (.row false none (.int .i64) (playP c r l).1.1.d), some (.row false none (.int .i64) (playP c r l).2.1)])
  | _, _ => .no
theorem splay_round (k : Nat) (l : List Bool) (m i c r n : Int) (a b e : Nat) (o w h d : List Int) : roundK Try.prog (look [(109, .rd1 newQG), (111, .rd1 ownQG), (110, .own l16OfferG), (112, .own l16HandG)]) (look [(6, splayE)]) 0 (body Try.f34 0) splayE ([.ptr 0 0, .ptr 1 0, .ref 2 0 k, .sl .bool l, .i .i64 m, .i .i64 i], [some (.box [.i .i64 0, .i .i64 0, .i .i64 0, .ref 3 0 0, .ref 4 0 0, .ref 5 0 0]), some (.box [.i .i64 c, .i .i64 r, .i .i64 n, .ref 6 0 a, .ref 7 0 b, .ref 8 0 e]), some (.row false none (.int .i64) o), some (.row false none (.int .i64) []), some (.row false none (.int .i64) []), some (.row false none (.int .i64) []), some (.row false none (.int .i64) w), some (.row false none (.int .i64) h), some (.row false none (.int .i64) d)]) =
  ((ifB (decide (i < m))
  (ifT (decide ((0 : Int) ≤ i) && decide (i < (↑l.length : Int)))
  (ifSome l[i.toNat]? fun z =>
  ifB z
  (ifT
  (decide
  ((List.take a (List.drop (0 : Nat) w)).length ≤ (1000000000 : Nat) ∧
  (List.take b (List.drop (0 : Nat) h)).length ≤ (1000000000 : Nat) ∧
  (List.take e (List.drop (0 : Nat) d)).length ≤ (1000000000 : Nat)))
  (ifT
  (decide
  ((Que.mk c r n (List.take a (List.drop (0 : Nat) w)) (List.take b (List.drop (0 : Nat) h))
  (List.take e (List.drop (0 : Nat) d))).w.length =
  (Que.mk c r n (List.take a (List.drop (0 : Nat) w)) (List.take b (List.drop (0 : Nat) h))
  (List.take e (List.drop (0 : Nat) d))).w.length ∧
  (Que.mk c r n (List.take a (List.drop (0 : Nat) w)) (List.take b (List.drop (0 : Nat) h))
  (List.take e (List.drop (0 : Nat) d))).h.length =
  (Que.mk c r n (List.take a (List.drop (0 : Nat) w)) (List.take b (List.drop (0 : Nat) h))
  (List.take e (List.drop (0 : Nat) d))).h.length ∧
  (Que.mk c r n (List.take a (List.drop (0 : Nat) w)) (List.take b (List.drop (0 : Nat) h))
  (List.take e (List.drop (0 : Nat) d))).d.length =
  (Que.mk c r n (List.take a (List.drop (0 : Nat) w)) (List.take b (List.drop (0 : Nat) h))
  (List.take e (List.drop (0 : Nat) d))).d.length) &&
  goodQ
  (Que.mk c r n (List.take a (List.drop (0 : Nat) w)) (List.take b (List.drop (0 : Nat) h))
  (List.take e (List.drop (0 : Nat) d))).c
  (Que.mk c r n (List.take a (List.drop (0 : Nat) w)) (List.take b (List.drop (0 : Nat) h))
  (List.take e (List.drop (0 : Nat) d))).r
  (Que.mk c r n (List.take a (List.drop (0 : Nat) w)) (List.take b (List.drop (0 : Nat) h))
  (List.take e (List.drop (0 : Nat) d))).n
  (Que.mk c r n (List.take a (List.drop (0 : Nat) w)) (List.take b (List.drop (0 : Nat) h))
  (List.take e (List.drop (0 : Nat) d))).w
  (Que.mk c r n (List.take a (List.drop (0 : Nat) w)) (List.take b (List.drop (0 : Nat) h))
  (List.take e (List.drop (0 : Nat) d))).h
  (Que.mk c r n (List.take a (List.drop (0 : Nat) w)) (List.take b (List.drop (0 : Nat) h))
  (List.take e (List.drop (0 : Nat) d))).d)
  (ifB
  (decide
  ((Que.mk c r n (List.take a (List.drop (0 : Nat) w)) (List.take b (List.drop (0 : Nat) h))
  (List.take e (List.drop (0 : Nat) d))).n =
  (100 : Int)))
  (ifT (decide ((k + (1 : Nat)) * (8 : Nat) ≤ (140737488355328 : Nat)) && decide (k + (1 : Nat) ≤ maxI))
  (some
  (Ex.normal,
  [V.ptr (0 : Nat) (0 : Nat), V.ptr (1 : Nat) (0 : Nat), V.ref (2 : Nat) (0 : Nat) (k + (1 : Nat)),
  V.sl Cd.bool l, V.i IntKind.i64 m, V.i IntKind.i64 (IntKind.i64.wrap (i + (1 : Int)))],
  [some
  (Blk.box
  [V.i IntKind.i64 (0 : Int), V.i IntKind.i64 (0 : Int), V.i IntKind.i64 (0 : Int),
  V.ref (3 : Nat) (0 : Nat) (0 : Nat), V.ref (4 : Nat) (0 : Nat) (0 : Nat),
  V.ref (5 : Nat) (0 : Nat) (0 : Nat)]),
  some
  (Blk.box
  [V.i IntKind.i64 c, V.i IntKind.i64 r, V.i IntKind.i64 n, V.ref (6 : Nat) (0 : Nat) a,
  V.ref (7 : Nat) (0 : Nat) b, V.ref (8 : Nat) (0 : Nat) e]),
  some
  (Blk.row false none (Cd.int IntKind.i64)
  (List.take k (List.drop (0 : Nat) o) ++ (-2 : Int) :: nilT (Cd.int IntKind.i64).den)),
  some (Blk.row false none (Cd.int IntKind.i64) (nilT (Cd.int IntKind.i64).den)),
  some (Blk.row false none (Cd.int IntKind.i64) (nilT (Cd.int IntKind.i64).den)),
  some (Blk.row false none (Cd.int IntKind.i64) (nilT (Cd.int IntKind.i64).den)),
  some (Blk.row false none (Cd.int IntKind.i64) w),
  some (Blk.row false none (Cd.int IntKind.i64) h),
  some (Blk.row false none (Cd.int IntKind.i64) d)])))
  (ifT (decide ((k + (1 : Nat)) * (8 : Nat) ≤ (140737488355328 : Nat)) && decide (k + (1 : Nat) ≤ maxI))
  (some
  (Ex.normal,
  [V.ptr (0 : Nat) (0 : Nat), V.ptr (1 : Nat) (0 : Nat), V.ref (2 : Nat) (0 : Nat) (k + (1 : Nat)),
  V.sl Cd.bool l, V.i IntKind.i64 m, V.i IntKind.i64 (IntKind.i64.wrap (i + (1 : Int)))],
  [some
  (Blk.box
  [V.i IntKind.i64 (0 : Int), V.i IntKind.i64 (0 : Int), V.i IntKind.i64 (0 : Int),
  V.ref (3 : Nat) (0 : Nat) (0 : Nat), V.ref (4 : Nat) (0 : Nat) (0 : Nat),
  V.ref (5 : Nat) (0 : Nat) (0 : Nat)]),
  some
  (Blk.box
  [V.i IntKind.i64
  (Que.mk c r n (List.take a (List.drop (0 : Nat) w)) (List.take b (List.drop (0 : Nat) h))
  (List.take e (List.drop (0 : Nat) d))).off.fst.c,
  V.i IntKind.i64
  (Que.mk c r n (List.take a (List.drop (0 : Nat) w)) (List.take b (List.drop (0 : Nat) h))
  (List.take e (List.drop (0 : Nat) d))).off.fst.r,
  V.i IntKind.i64
  (Que.mk c r n (List.take a (List.drop (0 : Nat) w)) (List.take b (List.drop (0 : Nat) h))
  (List.take e (List.drop (0 : Nat) d))).off.fst.n,
  V.ref (6 : Nat) (0 : Nat)
  (Que.mk c r n (List.take a (List.drop (0 : Nat) w)) (List.take b (List.drop (0 : Nat) h))
  (List.take e (List.drop (0 : Nat) d))).off.fst.w.length,
  V.ref (7 : Nat) (0 : Nat)
  (Que.mk c r n (List.take a (List.drop (0 : Nat) w)) (List.take b (List.drop (0 : Nat) h))
  (List.take e (List.drop (0 : Nat) d))).off.fst.h.length,
  V.ref (8 : Nat) (0 : Nat)
  (Que.mk c r n (List.take a (List.drop (0 : Nat) w)) (List.take b (List.drop (0 : Nat) h))
  (List.take e (List.drop (0 : Nat) d))).off.fst.d.length]),
  some
  (Blk.row false none (Cd.int IntKind.i64)
  (List.take k (List.drop (0 : Nat) o) ++
  (Que.mk c r n (List.take a (List.drop (0 : Nat) w)) (List.take b (List.drop (0 : Nat) h))
  (List.take e (List.drop (0 : Nat) d))).off.snd ::
  nilT (Cd.int IntKind.i64).den)),
  some (Blk.row false none (Cd.int IntKind.i64) (nilT (Cd.int IntKind.i64).den)),
  some (Blk.row false none (Cd.int IntKind.i64) (nilT (Cd.int IntKind.i64).den)),
  some (Blk.row false none (Cd.int IntKind.i64) (nilT (Cd.int IntKind.i64).den)),
  some
  (Blk.row false none (Cd.int IntKind.i64)
  (Que.mk c r n (List.take a (List.drop (0 : Nat) w)) (List.take b (List.drop (0 : Nat) h))
  (List.take e (List.drop (0 : Nat) d))).off.fst.w),
  some
  (Blk.row false none (Cd.int IntKind.i64)
  (Que.mk c r n (List.take a (List.drop (0 : Nat) w)) (List.take b (List.drop (0 : Nat) h))
  (List.take e (List.drop (0 : Nat) d))).off.fst.h),
  some
  (Blk.row false none (Cd.int IntKind.i64)
  (Que.mk c r n (List.take a (List.drop (0 : Nat) w)) (List.take b (List.drop (0 : Nat) h))
  (List.take e (List.drop (0 : Nat) d))).off.fst.d)]))))))
  (ifT
  (decide
  ((List.take a (List.drop (0 : Nat) w)).length ≤ (1000000000 : Nat) ∧
  (List.take b (List.drop (0 : Nat) h)).length ≤ (1000000000 : Nat) ∧
  (List.take e (List.drop (0 : Nat) d)).length ≤ (1000000000 : Nat)))
  (ifT
  (decide
  ((Que.mk c r n (List.take a (List.drop (0 : Nat) w)) (List.take b (List.drop (0 : Nat) h))
  (List.take e (List.drop (0 : Nat) d))).w.length =
  (Que.mk c r n (List.take a (List.drop (0 : Nat) w)) (List.take b (List.drop (0 : Nat) h))
  (List.take e (List.drop (0 : Nat) d))).w.length ∧
  (Que.mk c r n (List.take a (List.drop (0 : Nat) w)) (List.take b (List.drop (0 : Nat) h))
  (List.take e (List.drop (0 : Nat) d))).h.length =
  (Que.mk c r n (List.take a (List.drop (0 : Nat) w)) (List.take b (List.drop (0 : Nat) h))
  (List.take e (List.drop (0 : Nat) d))).h.length ∧
  (Que.mk c r n (List.take a (List.drop (0 : Nat) w)) (List.take b (List.drop (0 : Nat) h))
  (List.take e (List.drop (0 : Nat) d))).d.length =
  (Que.mk c r n (List.take a (List.drop (0 : Nat) w)) (List.take b (List.drop (0 : Nat) h))
  (List.take e (List.drop (0 : Nat) d))).d.length) &&
  goodQ
  (Que.mk c r n (List.take a (List.drop (0 : Nat) w)) (List.take b (List.drop (0 : Nat) h))
  (List.take e (List.drop (0 : Nat) d))).c
  (Que.mk c r n (List.take a (List.drop (0 : Nat) w)) (List.take b (List.drop (0 : Nat) h))
  (List.take e (List.drop (0 : Nat) d))).r
  (Que.mk c r n (List.take a (List.drop (0 : Nat) w)) (List.take b (List.drop (0 : Nat) h))
  (List.take e (List.drop (0 : Nat) d))).n
  (Que.mk c r n (List.take a (List.drop (0 : Nat) w)) (List.take b (List.drop (0 : Nat) h))
  (List.take e (List.drop (0 : Nat) d))).w
  (Que.mk c r n (List.take a (List.drop (0 : Nat) w)) (List.take b (List.drop (0 : Nat) h))
  (List.take e (List.drop (0 : Nat) d))).h
  (Que.mk c r n (List.take a (List.drop (0 : Nat) w)) (List.take b (List.drop (0 : Nat) h))
  (List.take e (List.drop (0 : Nat) d))).d)
  (ifB
  (decide
  ((Que.mk c r n (List.take a (List.drop (0 : Nat) w)) (List.take b (List.drop (0 : Nat) h))
  (List.take e (List.drop (0 : Nat) d))).w.length =
  (0 : Nat)))
  (ifT (decide ((k + (1 : Nat)) * (8 : Nat) ≤ (140737488355328 : Nat)) && decide (k + (1 : Nat) ≤ maxI))
  (some
  (Ex.normal,
  [V.ptr (0 : Nat) (0 : Nat), V.ptr (1 : Nat) (0 : Nat), V.ref (2 : Nat) (0 : Nat) (k + (1 : Nat)),
  V.sl Cd.bool l, V.i IntKind.i64 m, V.i IntKind.i64 (IntKind.i64.wrap (i + (1 : Int)))],
  [some
  (Blk.box
  [V.i IntKind.i64 (0 : Int), V.i IntKind.i64 (0 : Int), V.i IntKind.i64 (0 : Int),
  V.ref (3 : Nat) (0 : Nat) (0 : Nat), V.ref (4 : Nat) (0 : Nat) (0 : Nat),
  V.ref (5 : Nat) (0 : Nat) (0 : Nat)]),
  some
  (Blk.box
  [V.i IntKind.i64 c, V.i IntKind.i64 r, V.i IntKind.i64 n, V.ref (6 : Nat) (0 : Nat) a,
  V.ref (7 : Nat) (0 : Nat) b, V.ref (8 : Nat) (0 : Nat) e]),
  some
  (Blk.row false none (Cd.int IntKind.i64)
  (List.take k (List.drop (0 : Nat) o) ++ (-2 : Int) :: nilT (Cd.int IntKind.i64).den)),
  some (Blk.row false none (Cd.int IntKind.i64) (nilT (Cd.int IntKind.i64).den)),
  some (Blk.row false none (Cd.int IntKind.i64) (nilT (Cd.int IntKind.i64).den)),
  some (Blk.row false none (Cd.int IntKind.i64) (nilT (Cd.int IntKind.i64).den)),
  some (Blk.row false none (Cd.int IntKind.i64) w),
  some (Blk.row false none (Cd.int IntKind.i64) h),
  some (Blk.row false none (Cd.int IntKind.i64) d)])))
  (ifT (decide ((k + (1 : Nat)) * (8 : Nat) ≤ (140737488355328 : Nat)) && decide (k + (1 : Nat) ≤ maxI))
  (some
  (Ex.normal,
  [V.ptr (0 : Nat) (0 : Nat), V.ptr (1 : Nat) (0 : Nat), V.ref (2 : Nat) (0 : Nat) (k + (1 : Nat)),
  V.sl Cd.bool l, V.i IntKind.i64 m, V.i IntKind.i64 (IntKind.i64.wrap (i + (1 : Int)))],
  [some
  (Blk.box
  [V.i IntKind.i64 (0 : Int), V.i IntKind.i64 (0 : Int), V.i IntKind.i64 (0 : Int),
  V.ref (3 : Nat) (0 : Nat) (0 : Nat), V.ref (4 : Nat) (0 : Nat) (0 : Nat),
  V.ref (5 : Nat) (0 : Nat) (0 : Nat)]),
  some
  (Blk.box
  [V.i IntKind.i64
  (Que.mk c r n (List.take a (List.drop (0 : Nat) w)) (List.take b (List.drop (0 : Nat) h))
  (List.take e (List.drop (0 : Nat) d))).hnd.fst.c,
  V.i IntKind.i64
  (Que.mk c r n (List.take a (List.drop (0 : Nat) w)) (List.take b (List.drop (0 : Nat) h))
  (List.take e (List.drop (0 : Nat) d))).hnd.fst.r,
  V.i IntKind.i64
  (Que.mk c r n (List.take a (List.drop (0 : Nat) w)) (List.take b (List.drop (0 : Nat) h))
  (List.take e (List.drop (0 : Nat) d))).hnd.fst.n,
  V.ref (6 : Nat) (0 : Nat)
  (Que.mk c r n (List.take a (List.drop (0 : Nat) w)) (List.take b (List.drop (0 : Nat) h))
  (List.take e (List.drop (0 : Nat) d))).hnd.fst.w.length,
  V.ref (7 : Nat) (0 : Nat)
  (Que.mk c r n (List.take a (List.drop (0 : Nat) w)) (List.take b (List.drop (0 : Nat) h))
  (List.take e (List.drop (0 : Nat) d))).hnd.fst.h.length,
  V.ref (8 : Nat) (0 : Nat)
  (Que.mk c r n (List.take a (List.drop (0 : Nat) w)) (List.take b (List.drop (0 : Nat) h))
  (List.take e (List.drop (0 : Nat) d))).hnd.fst.d.length]),
  some
  (Blk.row false none (Cd.int IntKind.i64)
  (List.take k (List.drop (0 : Nat) o) ++
  (Que.mk c r n (List.take a (List.drop (0 : Nat) w)) (List.take b (List.drop (0 : Nat) h))
  (List.take e (List.drop (0 : Nat) d))).hnd.snd ::
  nilT (Cd.int IntKind.i64).den)),
  some (Blk.row false none (Cd.int IntKind.i64) (nilT (Cd.int IntKind.i64).den)),
  some (Blk.row false none (Cd.int IntKind.i64) (nilT (Cd.int IntKind.i64).den)),
  some (Blk.row false none (Cd.int IntKind.i64) (nilT (Cd.int IntKind.i64).den)),
  some
  (Blk.row false none (Cd.int IntKind.i64)
  (Que.mk c r n (List.take a (List.drop (0 : Nat) w)) (List.take b (List.drop (0 : Nat) h))
  (List.take e (List.drop (0 : Nat) d))).hnd.fst.w),
  some
  (Blk.row false none (Cd.int IntKind.i64)
  (Que.mk c r n (List.take a (List.drop (0 : Nat) w)) (List.take b (List.drop (0 : Nat) h))
  (List.take e (List.drop (0 : Nat) d))).hnd.fst.h),
  some
  (Blk.row false none (Cd.int IntKind.i64)
  (Que.mk c r n (List.take a (List.drop (0 : Nat) w)) (List.take b (List.drop (0 : Nat) h))
  (List.take e (List.drop (0 : Nat) d))).hnd.fst.d)]))))))))
  (some
  (Ex.exit (0 : Nat), [V.ptr (0 : Nat) (0 : Nat), V.ptr (1 : Nat) (0 : Nat), V.ref (2 : Nat) (0 : Nat) k],
  [some
  (Blk.box
  [V.i IntKind.i64 (0 : Int), V.i IntKind.i64 (0 : Int), V.i IntKind.i64 (0 : Int),
  V.ref (3 : Nat) (0 : Nat) (0 : Nat), V.ref (4 : Nat) (0 : Nat) (0 : Nat),
  V.ref (5 : Nat) (0 : Nat) (0 : Nat)]),
  some
  (Blk.box
  [V.i IntKind.i64 c, V.i IntKind.i64 r, V.i IntKind.i64 n, V.ref (6 : Nat) (0 : Nat) a,
  V.ref (7 : Nat) (0 : Nat) b, V.ref (8 : Nat) (0 : Nat) e]),
  some (Blk.row false none (Cd.int IntKind.i64) o),
  some (Blk.row false none (Cd.int IntKind.i64) (nilT (Cd.int IntKind.i64).den)),
  some (Blk.row false none (Cd.int IntKind.i64) (nilT (Cd.int IntKind.i64).den)),
  some (Blk.row false none (Cd.int IntKind.i64) (nilT (Cd.int IntKind.i64).den)),
  some (Blk.row false none (Cd.int IntKind.i64) w), some (Blk.row false none (Cd.int IntKind.i64) h),
  some (Blk.row false none (Cd.int IntKind.i64) d)]))) : _) := by kernel_rfl
theorem iplay_round (k : Nat) (l : List Bool) (m i c r n : Int) (p a b e : Nat) (o w h d : List Int) : roundK Try.prog (look [(106, .rd1 newQG), (108, .own qofferG), (107, .own qhandG)]) (look [(6, iplayE)]) 0 (body Try.f33 0) iplayE ([.ptr 0 0, .ptr 1 0, .ref 2 0 k, .sl .bool l, .i .i64 m, .i .i64 i], [some (.box [.i .i64 0, .i .i64 0, .i .i64 0, .ref 3 0 0, .ref 4 0 0, .ref 5 0 0]), some (.box [.i .i64 c, .i .i64 r, .i .i64 n, .ref 6 p a, .ref 7 0 b, .ref 8 0 e]), some (.row false none (.int .i64) o), some (.row false none (.int .i64) []), some (.row false none (.int .i64) []), some (.row false none (.int .i64) []), some (.row false none (.int .i64) w), some (.row false none (.int .i64) h), some (.row false none (.int .i64) d)]) =
  ((ifB (decide (i < m))
  (ifT (decide ((0 : Int) ≤ i) && decide (i < (↑l.length : Int)))
  (ifSome l[i.toNat]? fun z =>
  ifB z
  (ifT (decide (p + a = w.length ∧ b = h.length ∧ e = d.length) && goodQ c r n (List.drop p w) h d)
  (ifB (decide (n = (100 : Int)))
  (ifT (decide ((0 : Int) ≤ i) && decide (i < (↑k : Int)))
  (ifSome o[(0 : Nat) + i.toNat]? fun z =>
  some
  (Ex.normal,
  [V.ptr (0 : Nat) (0 : Nat), V.ptr (1 : Nat) (0 : Nat), V.ref (2 : Nat) (0 : Nat) k, V.sl Cd.bool l,
  V.i IntKind.i64 m, V.i IntKind.i64 (IntKind.i64.wrap (i + (1 : Int)))],
  [some
  (Blk.box
  [V.i IntKind.i64 (0 : Int), V.i IntKind.i64 (0 : Int), V.i IntKind.i64 (0 : Int),
  V.ref (3 : Nat) (0 : Nat) (0 : Nat), V.ref (4 : Nat) (0 : Nat) (0 : Nat),
  V.ref (5 : Nat) (0 : Nat) (0 : Nat)]),
  some
  (Blk.box
  [V.i IntKind.i64 c, V.i IntKind.i64 r, V.i IntKind.i64 n, V.ref (6 : Nat) p a,
  V.ref (7 : Nat) (0 : Nat) b, V.ref (8 : Nat) (0 : Nat) e]),
  some (Blk.row false none (Cd.int IntKind.i64) (o.set ((0 : Nat) + i.toNat) (-2 : Int))),
  some (Blk.row false none (Cd.int IntKind.i64) (nilT (Cd.int IntKind.i64).den)),
  some (Blk.row false none (Cd.int IntKind.i64) (nilT (Cd.int IntKind.i64).den)),
  some (Blk.row false none (Cd.int IntKind.i64) (nilT (Cd.int IntKind.i64).den)),
  some (Blk.row false none (Cd.int IntKind.i64) w),
  some (Blk.row false none (Cd.int IntKind.i64) h),
  some (Blk.row false none (Cd.int IntKind.i64) d)])))
  (ifT (decide ((0 : Int) ≤ i) && decide (i < (↑k : Int)))
  (ifSome o[(0 : Nat) + i.toNat]? fun z =>
  some
  (Ex.normal,
  [V.ptr (0 : Nat) (0 : Nat), V.ptr (1 : Nat) (0 : Nat), V.ref (2 : Nat) (0 : Nat) k, V.sl Cd.bool l,
  V.i IntKind.i64 m, V.i IntKind.i64 (IntKind.i64.wrap (i + (1 : Int)))],
  [some
  (Blk.box
  [V.i IntKind.i64 (0 : Int), V.i IntKind.i64 (0 : Int), V.i IntKind.i64 (0 : Int),
  V.ref (3 : Nat) (0 : Nat) (0 : Nat), V.ref (4 : Nat) (0 : Nat) (0 : Nat),
  V.ref (5 : Nat) (0 : Nat) (0 : Nat)]),
  some
  (Blk.box
  [V.i IntKind.i64 (Que.mk c r n (List.drop p w) h d).off.fst.c,
  V.i IntKind.i64 (Que.mk c r n (List.drop p w) h d).off.fst.r,
  V.i IntKind.i64 (Que.mk c r n (List.drop p w) h d).off.fst.n,
  V.ref (6 : Nat) ((Que.mk c r n (List.drop p w) h d).offP p)
  (Que.mk c r n (List.drop p w) h d).off.fst.w.length,
  V.ref (7 : Nat) (0 : Nat) (Que.mk c r n (List.drop p w) h d).off.fst.h.length,
  V.ref (8 : Nat) (0 : Nat) (Que.mk c r n (List.drop p w) h d).off.fst.d.length]),
  some
  (Blk.row false none (Cd.int IntKind.i64)
  (o.set ((0 : Nat) + i.toNat) (Que.mk c r n (List.drop p w) h d).off.snd)),
  some (Blk.row false none (Cd.int IntKind.i64) (nilT (Cd.int IntKind.i64).den)),
  some (Blk.row false none (Cd.int IntKind.i64) (nilT (Cd.int IntKind.i64).den)),
  some (Blk.row false none (Cd.int IntKind.i64) (nilT (Cd.int IntKind.i64).den)),
  some (Blk.row false none (Cd.int IntKind.i64) ((Que.mk c r n (List.drop p w) h d).offR w)),
  some (Blk.row false none (Cd.int IntKind.i64) (Que.mk c r n (List.drop p w) h d).off.fst.h),
  some (Blk.row false none (Cd.int IntKind.i64) (Que.mk c r n (List.drop p w) h d).off.fst.d)])))))
  (ifT (decide (p + a = w.length ∧ b = h.length ∧ e = d.length) && goodQ c r n (List.drop p w) h d)
  (ifB (decide (a = (0 : Nat)))
  (ifT (decide ((0 : Int) ≤ i) && decide (i < (↑k : Int)))
  (ifSome o[(0 : Nat) + i.toNat]? fun z =>
  some
  (Ex.normal,
  [V.ptr (0 : Nat) (0 : Nat), V.ptr (1 : Nat) (0 : Nat), V.ref (2 : Nat) (0 : Nat) k, V.sl Cd.bool l,
  V.i IntKind.i64 m, V.i IntKind.i64 (IntKind.i64.wrap (i + (1 : Int)))],
  [some
  (Blk.box
  [V.i IntKind.i64 (0 : Int), V.i IntKind.i64 (0 : Int), V.i IntKind.i64 (0 : Int),
  V.ref (3 : Nat) (0 : Nat) (0 : Nat), V.ref (4 : Nat) (0 : Nat) (0 : Nat),
  V.ref (5 : Nat) (0 : Nat) (0 : Nat)]),
  some
  (Blk.box
  [V.i IntKind.i64 c, V.i IntKind.i64 r, V.i IntKind.i64 n, V.ref (6 : Nat) p a,
  V.ref (7 : Nat) (0 : Nat) b, V.ref (8 : Nat) (0 : Nat) e]),
  some (Blk.row false none (Cd.int IntKind.i64) (o.set ((0 : Nat) + i.toNat) (-2 : Int))),
  some (Blk.row false none (Cd.int IntKind.i64) (nilT (Cd.int IntKind.i64).den)),
  some (Blk.row false none (Cd.int IntKind.i64) (nilT (Cd.int IntKind.i64).den)),
  some (Blk.row false none (Cd.int IntKind.i64) (nilT (Cd.int IntKind.i64).den)),
  some (Blk.row false none (Cd.int IntKind.i64) w),
  some (Blk.row false none (Cd.int IntKind.i64) h),
  some (Blk.row false none (Cd.int IntKind.i64) d)])))
  (ifT (decide ((0 : Int) ≤ i) && decide (i < (↑k : Int)))
  (ifSome o[(0 : Nat) + i.toNat]? fun z =>
  some
  (Ex.normal,
  [V.ptr (0 : Nat) (0 : Nat), V.ptr (1 : Nat) (0 : Nat), V.ref (2 : Nat) (0 : Nat) k, V.sl Cd.bool l,
  V.i IntKind.i64 m, V.i IntKind.i64 (IntKind.i64.wrap (i + (1 : Int)))],
  [some
  (Blk.box
  [V.i IntKind.i64 (0 : Int), V.i IntKind.i64 (0 : Int), V.i IntKind.i64 (0 : Int),
  V.ref (3 : Nat) (0 : Nat) (0 : Nat), V.ref (4 : Nat) (0 : Nat) (0 : Nat),
  V.ref (5 : Nat) (0 : Nat) (0 : Nat)]),
  some
  (Blk.box
  [V.i IntKind.i64 (Que.mk c r n (List.drop p w) h d).hnd.fst.c,
  V.i IntKind.i64 (Que.mk c r n (List.drop p w) h d).hnd.fst.r,
  V.i IntKind.i64 (Que.mk c r n (List.drop p w) h d).hnd.fst.n,
  V.ref (6 : Nat) (p + (1 : Nat)) (Que.mk c r n (List.drop p w) h d).hnd.fst.w.length,
  V.ref (7 : Nat) (0 : Nat) (Que.mk c r n (List.drop p w) h d).hnd.fst.h.length,
  V.ref (8 : Nat) (0 : Nat) (Que.mk c r n (List.drop p w) h d).hnd.fst.d.length]),
  some
  (Blk.row false none (Cd.int IntKind.i64)
  (o.set ((0 : Nat) + i.toNat) (Que.mk c r n (List.drop p w) h d).hnd.snd)),
  some (Blk.row false none (Cd.int IntKind.i64) (nilT (Cd.int IntKind.i64).den)),
  some (Blk.row false none (Cd.int IntKind.i64) (nilT (Cd.int IntKind.i64).den)),
  some (Blk.row false none (Cd.int IntKind.i64) (nilT (Cd.int IntKind.i64).den)),
  some (Blk.row false none (Cd.int IntKind.i64) w),
  some (Blk.row false none (Cd.int IntKind.i64) (Que.mk c r n (List.drop p w) h d).hnd.fst.h),
  some
  (Blk.row false none (Cd.int IntKind.i64) (Que.mk c r n (List.drop p w) h d).hnd.fst.d)])))))))
  (some
  (Ex.exit (0 : Nat), [V.ptr (0 : Nat) (0 : Nat), V.ptr (1 : Nat) (0 : Nat), V.ref (2 : Nat) (0 : Nat) k],
  [some
  (Blk.box
  [V.i IntKind.i64 (0 : Int), V.i IntKind.i64 (0 : Int), V.i IntKind.i64 (0 : Int),
  V.ref (3 : Nat) (0 : Nat) (0 : Nat), V.ref (4 : Nat) (0 : Nat) (0 : Nat),
  V.ref (5 : Nat) (0 : Nat) (0 : Nat)]),
  some
  (Blk.box
  [V.i IntKind.i64 c, V.i IntKind.i64 r, V.i IntKind.i64 n, V.ref (6 : Nat) p a, V.ref (7 : Nat) (0 : Nat) b,
  V.ref (8 : Nat) (0 : Nat) e]),
  some (Blk.row false none (Cd.int IntKind.i64) o),
  some (Blk.row false none (Cd.int IntKind.i64) (nilT (Cd.int IntKind.i64).den)),
  some (Blk.row false none (Cd.int IntKind.i64) (nilT (Cd.int IntKind.i64).den)),
  some (Blk.row false none (Cd.int IntKind.i64) (nilT (Cd.int IntKind.i64).den)),
  some (Blk.row false none (Cd.int IntKind.i64) w), some (Blk.row false none (Cd.int IntKind.i64) h),
  some (Blk.row false none (Cd.int IntKind.i64) d)]))) : _) := by kernel_rfl
theorem Que.one_good {q : Que} (h : q.good = true) (b : Bool) : (q.one b).1.good = true := by
  unfold Que.one
  cases b with
  | true =>
    dsimp only
    split
    · exact h
    · rename_i h1; exact (Que.off_fine (Que.fine h) h1).good
  | false =>
    dsimp only
    split
    · exact h
    · rename_i h1; exact (Que.hnd_fine (Que.fine h) (fun e => h1 (by rw [e]; rfl))).good
theorem Que.play_len (q : Que) : ∀ (l : List Bool), ∀ q : Que, (q.play l).2.length = l.length
  | [], q => rfl
  | b :: l, q => by simp [Que.play, Que.play_len q l]
theorem Que.play_good : ∀ (l : List Bool) {q : Que}, q.good = true → (q.play l).1.good = true
  | [], q, h => h
  | b :: l, q, h => Que.play_good l (Que.one_good h b)
theorem Que.view_one (s : Que × Nat) (b : Bool) (h : s.2 ≤ s.1.w.length) : Que.view (Que.oneR s b).1 = ((Que.view s).one b).1 ∧ (Que.oneR s b).2 = ((Que.view s).one b).2 ∧ (Que.oneR s b).1.2 ≤ (Que.oneR s b).1.1.w.length := by
  have hn : (Que.view s).n = s.1.n := rfl
  unfold Que.oneR Que.one
  cases b with
  | true =>
    simp only [hn]
    by_cases h1 : s.1.n = 100
    · simp only [if_pos h1]; exact ⟨trivial, trivial, h⟩
    · simp only [if_neg h1]
      generalize hv : Que.view s = q
      have hw : q.w = s.1.w.drop s.2 := by rw [← hv]; rfl
      have key : (q.offR s.1.w).drop (q.offP s.2) = q.off.1.w ∧ q.offP s.2 ≤ (q.offR s.1.w).length := by
        unfold Que.offR Que.offP
        by_cases h2 : (q.w.length : Int) < q.c
        · simp [h2]
        · by_cases h3 : q.r = 3
          · simp only [if_neg h2, if_pos h3]
            refine ⟨?_, h⟩
            unfold Que.off; simp only [if_neg h2, if_pos h3]; exact hw.symm
          · simp [h2, h3]
      refine ⟨?_, trivial, key.2⟩
      unfold Que.view
      dsimp only
      rw [key.1]
  | false =>
    dsimp only
    by_cases h1 : (Que.view s).w.length = 0
    · simp only [if_pos h1]; exact ⟨trivial, trivial, h⟩
    · simp only [if_neg h1]
      have hw : (Que.view s).w.length = s.1.w.length - s.2 := by unfold Que.view; simp
      refine ⟨?_, trivial, by omega⟩
      unfold Que.hnd Que.view
      dsimp only
      rw [List.drop_drop]
theorem Que.view_play : ∀ (l : List Bool) (s : Que × Nat), s.2 ≤ s.1.w.length → Que.view (Que.playR s l).1 = ((Que.view s).play l).1 ∧ (Que.playR s l).2 = ((Que.view s).play l).2 ∧ (Que.playR s l).1.2 ≤ (Que.playR s l).1.1.w.length
  | [], s, h => ⟨rfl, rfl, h⟩
  | b :: l, s, h => by
    obtain ⟨h1, h2, h3⟩ := Que.view_one s b h
    obtain ⟨h4, h5, h6⟩ := Que.view_play l _ h3
    unfold Que.playR Que.play
    dsimp only
    rw [h4, h5, h1, h2]
    exact ⟨rfl, rfl, h6⟩
theorem splay_loop {l : List Bool} (hl : l.length ≤ 200) : ∀ (j i : Nat) (q : Que) (o : List Int), i + j = l.length → o.length = i → q.good = true →
    Runs Try.prog (look [(109, .rd1 newQG), (111, .rd1 ownQG), (110, .own l16OfferG), (112, .own l16HandG)]) (look [(6, splayE)]) 0 (body Try.f34 0) splayE ([.ptr 0 0, .ptr 1 0, .ref 2 0 o.length, .sl .bool l, .i .i64 (↑l.length : Int), .i .i64 i], [some (.box [.i .i64 0, .i .i64 0, .i .i64 0, .ref 3 0 0, .ref 4 0 0, .ref 5 0 0]), some (.box [.i .i64 q.c, .i .i64 q.r, .i .i64 q.n, .ref 6 0 q.w.length, .ref 7 0 q.h.length, .ref 8 0 q.d.length]), some (.row false none (.int .i64) o), some (.row false none (.int .i64) []), some (.row false none (.int .i64) []), some (.row false none (.int .i64) []), some (.row false none (.int .i64) q.w), some (.row false none (.int .i64) q.h), some (.row false none (.int .i64) q.d)]) (.exit 0) ([.ptr 0 0, .ptr 1 0, .ref 2 0 (o ++ (q.play (l.drop i)).2).length], [some (.box [.i .i64 0, .i .i64 0, .i .i64 0, .ref 3 0 0, .ref 4 0 0, .ref 5 0 0]), some (.box [.i .i64 (q.play (l.drop i)).1.c, .i .i64 (q.play (l.drop i)).1.r, .i .i64 (q.play (l.drop i)).1.n, .ref 6 0 (q.play (l.drop i)).1.w.length, .ref 7 0 (q.play (l.drop i)).1.h.length, .ref 8 0 (q.play (l.drop i)).1.d.length]), some (.row false none (.int .i64) (o ++ (q.play (l.drop i)).2)), some (.row false none (.int .i64) []), some (.row false none (.int .i64) []), some (.row false none (.int .i64) []), some (.row false none (.int .i64) (q.play (l.drop i)).1.w), some (.row false none (.int .i64) (q.play (l.drop i)).1.h), some (.row false none (.int .i64) (q.play (l.drop i)).1.d)])
  | 0, i, q, o, hi, ho, hg => by
    have hr := splay_round o.length l l.length i q.c q.r q.n q.w.length q.h.length q.d.length o q.w q.h q.d
    rw [ifB_false (decide_eq_false (by omega))] at hr
    have e1 : l.drop i = [] := List.drop_eq_nil_of_le (by omega)
    rw [e1]
    simp only [Que.play, List.append_nil]
    exact .stop _ _ _ hr (by simp)
  | j + 1, i, q, o, hi, ho, hg => by
    have h1 : i < l.length := by omega
    have hM : maxI = 9223372036854775807 := rfl
    have hr := splay_round o.length l l.length i q.c q.r q.n q.w.length q.h.length q.d.length o q.w q.h q.d
    rw [ifB_true (decide_eq_true (by omega)), ifT_true (by simp only [Bool.and_eq_true, decide_eq_true_eq]; omega)] at hr
    have hgq : goodQ q.c q.r q.n q.w q.h q.d = true := hg
    have hgl := goodQ_len hgq
    simp only [List.drop_zero, List.take_length, Int.toNat_natCast, List.getElem?_eq_getElem h1, ifSome_s, wrap_succ (n := i) (by omega), nilT_eq] at hr
    have ih := splay_loop hl j (i + 1) (q.one l[i]).1 (o ++ [(q.one l[i]).2]) (by omega) (by simp; omega) (Que.one_good hg _)
    rw [List.drop_eq_getElem_cons h1]
    unfold Que.play
    dsimp only
    rw [show o ++ (q.one l[i]).2 :: ((q.one l[i]).1.play (l.drop (i + 1))).2 = o ++ [(q.one l[i]).2] ++ ((q.one l[i]).1.play (l.drop (i + 1))).2 by simp]
    refine .step _ _ _ _ (hr.trans ?_) ih
    clear ih hr
    generalize l[i] = b
    have fit : (decide ((o.length + 1) * 8 ≤ 140737488355328) && decide (o.length + 1 ≤ maxI)) = true := by simp only [Bool.and_eq_true, decide_eq_true_eq]; omega
    have e2 : ∀ x : Int, o.length + 1 = (o ++ [x]).length := fun x => by simp
    unfold Que.one
    cases b with
    | true =>
      rw [ifB_true rfl, ifT_true (decide_eq_true hgl), ifT_true (by simp [hgq])]
      dsimp only
      by_cases h2 : q.n = 100
      · rw [ifB_true (decide_eq_true h2), ifT_true fit]; simp only [if_pos h2]; rw [e2 ((-2))]
      · rw [ifB_false (decide_eq_false h2), ifT_true fit]; simp only [if_neg h2]; rw [e2 (q.off.2)]
    | false =>
      rw [ifB_false rfl, ifT_true (decide_eq_true hgl), ifT_true (by simp [hgq])]
      dsimp only
      by_cases h2 : q.w.length = 0
      · rw [ifB_true (decide_eq_true h2), ifT_true fit]; simp only [if_pos h2]; rw [e2 ((-2))]
      · rw [ifB_false (decide_eq_false h2), ifT_true fit]; simp only [if_neg h2]; rw [e2 (q.hnd.2)]
theorem iplay_loop {l : List Bool} (hl : l.length ≤ 200) : ∀ (j i : Nat) (s : Que × Nat) (o : List Int), i + j = l.length → o.length = l.length → (Que.view s).good = true → s.2 ≤ s.1.w.length →
    Runs Try.prog (look [(106, .rd1 newQG), (108, .own qofferG), (107, .own qhandG)]) (look [(6, iplayE)]) 0 (body Try.f33 0) iplayE ([.ptr 0 0, .ptr 1 0, .ref 2 0 l.length, .sl .bool l, .i .i64 (↑l.length : Int), .i .i64 i], [some (.box [.i .i64 0, .i .i64 0, .i .i64 0, .ref 3 0 0, .ref 4 0 0, .ref 5 0 0]), some (.box [.i .i64 s.1.c, .i .i64 s.1.r, .i .i64 s.1.n, .ref 6 s.2 (Que.view s).w.length, .ref 7 0 s.1.h.length, .ref 8 0 s.1.d.length]), some (.row false none (.int .i64) o), some (.row false none (.int .i64) []), some (.row false none (.int .i64) []), some (.row false none (.int .i64) []), some (.row false none (.int .i64) s.1.w), some (.row false none (.int .i64) s.1.h), some (.row false none (.int .i64) s.1.d)]) (.exit 0) ([.ptr 0 0, .ptr 1 0, .ref 2 0 l.length], [some (.box [.i .i64 0, .i .i64 0, .i .i64 0, .ref 3 0 0, .ref 4 0 0, .ref 5 0 0]), some (.box [.i .i64 (Que.playR s (l.drop i)).1.1.c, .i .i64 (Que.playR s (l.drop i)).1.1.r, .i .i64 (Que.playR s (l.drop i)).1.1.n, .ref 6 (Que.playR s (l.drop i)).1.2 (Que.view (Que.playR s (l.drop i)).1).w.length, .ref 7 0 (Que.playR s (l.drop i)).1.1.h.length, .ref 8 0 (Que.playR s (l.drop i)).1.1.d.length]), some (.row false none (.int .i64) (o.take i ++ (Que.playR s (l.drop i)).2)), some (.row false none (.int .i64) []), some (.row false none (.int .i64) []), some (.row false none (.int .i64) []), some (.row false none (.int .i64) (Que.playR s (l.drop i)).1.1.w), some (.row false none (.int .i64) (Que.playR s (l.drop i)).1.1.h), some (.row false none (.int .i64) (Que.playR s (l.drop i)).1.1.d)])
  | 0, i, s, o, hi, ho, hg, hp => by
    have hr := iplay_round l.length l l.length i s.1.c s.1.r s.1.n s.2 (Que.view s).w.length s.1.h.length s.1.d.length o s.1.w s.1.h s.1.d
    rw [ifB_false (decide_eq_false (by omega))] at hr
    have e1 : l.drop i = [] := List.drop_eq_nil_of_le (by omega)
    rw [e1]
    simp only [Que.playR, List.append_nil]
    rw [List.take_of_length_le (by omega)]
    exact .stop _ _ _ hr (by simp)
  | j + 1, i, s, o, hi, ho, hg, hp => by
    have h1 : i < l.length := by omega
    have hio : i < o.length := by omega
    have hM : maxI = 9223372036854775807 := rfl
    have hr := iplay_round l.length l l.length i s.1.c s.1.r s.1.n s.2 (Que.view s).w.length s.1.h.length s.1.d.length o s.1.w s.1.h s.1.d
    rw [ifB_true (decide_eq_true (by omega)), ifT_true (by simp only [Bool.and_eq_true, decide_eq_true_eq]; omega)] at hr
    have hgq : goodQ s.1.c s.1.r s.1.n (s.1.w.drop s.2) s.1.h s.1.d = true := hg
    have hvl : s.2 + (Que.view s).w.length = s.1.w.length := by unfold Que.view; simp; omega
    simp only [List.drop_zero, Int.toNat_natCast, List.getElem?_eq_getElem h1, ifSome_s, wrap_succ (n := i) (by omega), nilT_eq, Nat.zero_add, List.getElem?_eq_getElem hio] at hr
    obtain ⟨v1, v2, v3⟩ := Que.view_one s l[i] hp
    have ih := fun x => iplay_loop hl j (i + 1) (Que.oneR s l[i]).1 (o.set i x) (by omega) (by rw [List.length_set]; exact ho) (by rw [v1]; exact Que.one_good hg _) v3
    have et : ∀ (x : Int) (r : List Int), (o.set i x).take (i + 1) ++ r = o.take i ++ x :: r := fun x r => by
      rw [List.take_succ_eq_append_getElem (by rw [List.length_set]; exact hio), List.getElem_set_self, List.take_set_of_le (Nat.le_refl i), List.append_assoc]; rfl
    have ih := ih (Que.oneR s l[i]).2
    rw [et] at ih
    rw [List.drop_eq_getElem_cons h1]
    unfold Que.playR
    dsimp only
    refine .step _ _ _ _ (hr.trans ?_) ih
    clear ih hr v1 v2 v3
    generalize l[i] = b
    have fit : (decide ((0 : Int) ≤ (i : Int)) && decide ((i : Int) < (l.length : Int))) = true := by simp only [Bool.and_eq_true, decide_eq_true_eq]; omega
    unfold Que.oneR
    cases b with
    | true =>
      rw [ifB_true rfl, ifT_true (by rw [hgq, Bool.and_true]; exact decide_eq_true ⟨hvl, by trivial, by trivial⟩)]
      dsimp only
      by_cases h2 : s.1.n = 100
      · rw [ifB_true (decide_eq_true h2), ifT_true fit]; simp only [if_pos h2]
      · rw [ifB_false (decide_eq_false h2), ifT_true fit]; simp only [if_neg h2]
        have hv : (Que.mk s.1.c s.1.r s.1.n (s.1.w.drop s.2) s.1.h s.1.d) = Que.view s := rfl
        have e3 : (Que.view ((⟨(Que.view s).off.1.c, (Que.view s).off.1.r, (Que.view s).off.1.n, (Que.view s).offR s.1.w, (Que.view s).off.1.h, (Que.view s).off.1.d⟩, (Que.view s).offP s.2) : Que × Nat)).w = (Que.view s).off.1.w := by
          have := (Que.view_one s true hp).1
          unfold Que.oneR Que.one at this
          dsimp only at this
          have hn : ¬ (Que.view s).n = 100 := h2
          rw [if_neg h2, if_neg hn] at this
          rw [this]
        rw [e3]
        rfl
    | false =>
      rw [ifB_false rfl, ifT_true (by rw [hgq, Bool.and_true]; exact decide_eq_true ⟨hvl, by trivial, by trivial⟩)]
      dsimp only
      by_cases h2 : (Que.view s).w.length = 0
      · rw [ifB_true (decide_eq_true h2), ifT_true fit]; simp only [if_pos h2]
      · rw [ifB_false (decide_eq_false h2), ifT_true fit]; simp only [if_neg h2]
        have e3 : (Que.view ((⟨(Que.view s).hnd.1.c, (Que.view s).hnd.1.r, (Que.view s).hnd.1.n, s.1.w, (Que.view s).hnd.1.h, (Que.view s).hnd.1.d⟩, s.2 + 1) : Que × Nat)).w = (Que.view s).hnd.1.w := by
          have := (Que.view_one s false hp).1
          unfold Que.oneR Que.one at this
          dsimp only at this
          rw [if_neg h2, if_neg h2] at this
          rw [this]
        rw [e3]
        rfl
theorem splay_ok : LoopsOk Try.prog (look [(109, .rd1 newQG), (111, .rd1 ownQG), (110, .own l16OfferG), (112, .own l16HandG)]) (look [(6, splayE)]) 0 (Try.f34.body.getD .skip) := by
  refine loopsOk_one (a := body Try.f34 0) (by kernel_rfl) fun q e q' hq => ?_
  unfold splayE at hq
  dsimp only at hq
  split at hq
  · rename_i k l m i c r n a b e o w h d
    obtain ⟨hc, hx⟩ := need_some hq
    clear hq
    rw [Bool.and_eq_true] at hc
    obtain ⟨hc, hg⟩ := hc
    obtain ⟨h0, h1, h2, h3, h4, h5, h6, h7, h8⟩ := of_decide_eq_true hc
    subst h2 h4 h6 h7 h8
    obtain ⟨i, rfl⟩ := Int.eq_ofNat_of_zero_le h0
    cases leaf_some hx
    exact splay_loop h3 (l.length - i) i (Que.mk c r n w h d) o (by rw [Int.toNat_natCast] at h1; omega) (by omega) hg
  · cases hq
theorem iplay_ok : LoopsOk Try.prog (look [(106, .rd1 newQG), (108, .own qofferG), (107, .own qhandG)]) (look [(6, iplayE)]) 0 (Try.f33.body.getD .skip) := by
  refine loopsOk_one (a := body Try.f33 0) (by kernel_rfl) fun q e q' hq => ?_
  unfold iplayE at hq
  dsimp only at hq
  split at hq
  · rename_i k l m i c r n p a b e o w h d
    obtain ⟨hc, hx⟩ := need_some hq
    clear hq
    rw [Bool.and_eq_true] at hc
    obtain ⟨hc, hg⟩ := hc
    obtain ⟨h0, h1, h2, h3, h4, h5, h6, h7, h8⟩ := of_decide_eq_true hc
    have ha : a = (Que.view (Que.mk c r n w h d, p)).w.length := by show a = (w.drop p).length; rw [List.length_drop]; omega
    subst h2 h4 h7 h8 ha
    obtain ⟨i, rfl⟩ := Int.eq_ofNat_of_zero_le h0
    cases leaf_some hx
    have := iplay_loop h3 (l.length - i) i (Que.mk c r n w h d, p) o (by rw [Int.toNat_natCast] at h1; omega) h5 hg (by dsimp only; omega)
    rw [h5]
    exact this
  · cases hq
theorem Que.new_good {c r : Int} (h : (1 ≤ c ∧ c ≤ 10) ∧ 1 ≤ r ∧ r ≤ 3) : goodQ c r 0 [] [] [] = true := by
  refine goodQ_all (s := []) ⟨h.1, h.2, by omega, by simp; omega, by simp⟩ rfl
theorem splay_fun (c r : Int) (l : List Bool) : funN Try.prog (look [(109, .rd1 newQG), (111, .rd1 ownQG), (110, .own l16OfferG), (112, .own l16HandG)]) (look [(6, splayE)]) Try.f34 [.i .i64 c, .i .i64 r, .sl .bool l] [] = (.leaf (.tup [.agg [.i .i64 (playO c r l).1.c, .i .i64 (playO c r l).1.r, .i .i64 (playO c r l).1.n, .ref 0 0 (playO c r l).1.w.length, .ref 1 0 (playO c r l).1.h.length, .ref 2 0 (playO c r l).1.d.length], .ref 3 0 (playO c r l).2.1.length, .b (playO c r l).2.2], [some (.row false none (.int .i64) (playO c r l).1.w), some (.row false none (.int .i64) (playO c r l).1.h), some (.row false none (.int .i64) (playO c r l).1.d), some (.row false none (.int .i64) (playO c r l).2.1)]) : Br (V × List (Option Blk))).run := by
  have e : funN Try.prog (look [(109, .rd1 newQG), (111, .rd1 ownQG), (110, .own l16OfferG), (112, .own l16HandG)]) (look [(6, splayE)]) Try.f34 [.i .i64 c, .i .i64 r, .sl .bool l] [] = ((ifB (decide (((1 : Int) ≤ c ∧ c ≤ (10 : Int)) ∧ (1 : Int) ≤ r ∧ r ≤ (3 : Int)))
  (ifB (decide ((↑l.length : Int) > (200 : Int)))
  (some
  (V.tup
  [V.agg
  [V.i IntKind.i64 (0 : Int), V.i IntKind.i64 (0 : Int), V.i IntKind.i64 (0 : Int),
  V.ref (0 : Nat) (0 : Nat) (0 : Nat), V.ref (1 : Nat) (0 : Nat) (0 : Nat),
  V.ref (2 : Nat) (0 : Nat) (0 : Nat)],
  V.ref (3 : Nat) (0 : Nat) (0 : Nat), V.b false],
  [some (Blk.row false none (Cd.int IntKind.i64) (nilT (Cd.int IntKind.i64).den)),
  some (Blk.row false none (Cd.int IntKind.i64) (nilT (Cd.int IntKind.i64).den)),
  some (Blk.row false none (Cd.int IntKind.i64) (nilT (Cd.int IntKind.i64).den)),
  some (Blk.row false none (Cd.int IntKind.i64) (nilT (Cd.int IntKind.i64).den))]))
  (ifT
  (decide
  ((0 : Int) ≤ (0 : Int) ∧
  (0 : Nat) ≤ l.length ∧
  (↑l.length : Int) = (↑l.length : Int) ∧
  l.length ≤ (200 : Nat) ∧
  (0 : Nat) = (0 : Nat) ∧
  (↑(0 : Nat) : Int) = (0 : Int) ∧
  (0 : Nat) = (0 : Nat) ∧ (0 : Nat) = (0 : Nat) ∧ (0 : Nat) = (0 : Nat)) &&
  goodQ c r (0 : Int) (nilT (Cd.int IntKind.i64).den) (nilT (Cd.int IntKind.i64).den)
  (nilT (Cd.int IntKind.i64).den))
  (ifT
  (decide
  ((List.take
  ((Que.mk c r (0 : Int) (nilT (Cd.int IntKind.i64).den) (nilT (Cd.int IntKind.i64).den)
  (nilT (Cd.int IntKind.i64).den)).play
  (List.drop (0 : Nat) l)).fst.w.length
  (List.drop (0 : Nat)
  ((Que.mk c r (0 : Int) (nilT (Cd.int IntKind.i64).den) (nilT (Cd.int IntKind.i64).den)
  (nilT (Cd.int IntKind.i64).den)).play
  (List.drop (0 : Nat) l)).fst.w)).length ≤
  (1000000000 : Nat) ∧
  (List.take
  ((Que.mk c r (0 : Int) (nilT (Cd.int IntKind.i64).den) (nilT (Cd.int IntKind.i64).den)
  (nilT (Cd.int IntKind.i64).den)).play
  (List.drop (0 : Nat) l)).fst.h.length
  (List.drop (0 : Nat)
  ((Que.mk c r (0 : Int) (nilT (Cd.int IntKind.i64).den) (nilT (Cd.int IntKind.i64).den)
  (nilT (Cd.int IntKind.i64).den)).play
  (List.drop (0 : Nat) l)).fst.h)).length ≤
  (1000000000 : Nat) ∧
  (List.take
  ((Que.mk c r (0 : Int) (nilT (Cd.int IntKind.i64).den) (nilT (Cd.int IntKind.i64).den)
  (nilT (Cd.int IntKind.i64).den)).play
  (List.drop (0 : Nat) l)).fst.d.length
  (List.drop (0 : Nat)
  ((Que.mk c r (0 : Int) (nilT (Cd.int IntKind.i64).den) (nilT (Cd.int IntKind.i64).den)
  (nilT (Cd.int IntKind.i64).den)).play
  (List.drop (0 : Nat) l)).fst.d)).length ≤
  (1000000000 : Nat)))
  (some
  (V.tup
  [V.agg
  [V.i IntKind.i64
  (Que.mk
  ((Que.mk c r (0 : Int) (nilT (Cd.int IntKind.i64).den) (nilT (Cd.int IntKind.i64).den)
  (nilT (Cd.int IntKind.i64).den)).play
  (List.drop (0 : Nat) l)).fst.c
  ((Que.mk c r (0 : Int) (nilT (Cd.int IntKind.i64).den) (nilT (Cd.int IntKind.i64).den)
  (nilT (Cd.int IntKind.i64).den)).play
  (List.drop (0 : Nat) l)).fst.r
  ((Que.mk c r (0 : Int) (nilT (Cd.int IntKind.i64).den) (nilT (Cd.int IntKind.i64).den)
  (nilT (Cd.int IntKind.i64).den)).play
  (List.drop (0 : Nat) l)).fst.n
  (List.take
  ((Que.mk c r (0 : Int) (nilT (Cd.int IntKind.i64).den) (nilT (Cd.int IntKind.i64).den)
  (nilT (Cd.int IntKind.i64).den)).play
  (List.drop (0 : Nat) l)).fst.w.length
  (List.drop (0 : Nat)
  ((Que.mk c r (0 : Int) (nilT (Cd.int IntKind.i64).den) (nilT (Cd.int IntKind.i64).den)
  (nilT (Cd.int IntKind.i64).den)).play
  (List.drop (0 : Nat) l)).fst.w))
  (List.take
  ((Que.mk c r (0 : Int) (nilT (Cd.int IntKind.i64).den) (nilT (Cd.int IntKind.i64).den)
  (nilT (Cd.int IntKind.i64).den)).play
  (List.drop (0 : Nat) l)).fst.h.length
  (List.drop (0 : Nat)
  ((Que.mk c r (0 : Int) (nilT (Cd.int IntKind.i64).den) (nilT (Cd.int IntKind.i64).den)
  (nilT (Cd.int IntKind.i64).den)).play
  (List.drop (0 : Nat) l)).fst.h))
  (List.take
  ((Que.mk c r (0 : Int) (nilT (Cd.int IntKind.i64).den) (nilT (Cd.int IntKind.i64).den)
  (nilT (Cd.int IntKind.i64).den)).play
  (List.drop (0 : Nat) l)).fst.d.length
  (List.drop (0 : Nat)
  ((Que.mk c r (0 : Int) (nilT (Cd.int IntKind.i64).den) (nilT (Cd.int IntKind.i64).den)
  (nilT (Cd.int IntKind.i64).den)).play
  (List.drop (0 : Nat) l)).fst.d))).c,
  V.i IntKind.i64
  (Que.mk
  ((Que.mk c r (0 : Int) (nilT (Cd.int IntKind.i64).den) (nilT (Cd.int IntKind.i64).den)
  (nilT (Cd.int IntKind.i64).den)).play
  (List.drop (0 : Nat) l)).fst.c
  ((Que.mk c r (0 : Int) (nilT (Cd.int IntKind.i64).den) (nilT (Cd.int IntKind.i64).den)
  (nilT (Cd.int IntKind.i64).den)).play
  (List.drop (0 : Nat) l)).fst.r
  ((Que.mk c r (0 : Int) (nilT (Cd.int IntKind.i64).den) (nilT (Cd.int IntKind.i64).den)
  (nilT (Cd.int IntKind.i64).den)).play
  (List.drop (0 : Nat) l)).fst.n
  (List.take
  ((Que.mk c r (0 : Int) (nilT (Cd.int IntKind.i64).den) (nilT (Cd.int IntKind.i64).den)
  (nilT (Cd.int IntKind.i64).den)).play
  (List.drop (0 : Nat) l)).fst.w.length
  (List.drop (0 : Nat)
  ((Que.mk c r (0 : Int) (nilT (Cd.int IntKind.i64).den) (nilT (Cd.int IntKind.i64).den)
  (nilT (Cd.int IntKind.i64).den)).play
  (List.drop (0 : Nat) l)).fst.w))
  (List.take
  ((Que.mk c r (0 : Int) (nilT (Cd.int IntKind.i64).den) (nilT (Cd.int IntKind.i64).den)
  (nilT (Cd.int IntKind.i64).den)).play
  (List.drop (0 : Nat) l)).fst.h.length
  (List.drop (0 : Nat)
  ((Que.mk c r (0 : Int) (nilT (Cd.int IntKind.i64).den) (nilT (Cd.int IntKind.i64).den)
  (nilT (Cd.int IntKind.i64).den)).play
  (List.drop (0 : Nat) l)).fst.h))
  (List.take
  ((Que.mk c r (0 : Int) (nilT (Cd.int IntKind.i64).den) (nilT (Cd.int IntKind.i64).den)
  (nilT (Cd.int IntKind.i64).den)).play
  (List.drop (0 : Nat) l)).fst.d.length
  (List.drop (0 : Nat)
  ((Que.mk c r (0 : Int) (nilT (Cd.int IntKind.i64).den) (nilT (Cd.int IntKind.i64).den)
  (nilT (Cd.int IntKind.i64).den)).play
  (List.drop (0 : Nat) l)).fst.d))).r,
  V.i IntKind.i64
  (Que.mk
  ((Que.mk c r (0 : Int) (nilT (Cd.int IntKind.i64).den) (nilT (Cd.int IntKind.i64).den)
  (nilT (Cd.int IntKind.i64).den)).play
  (List.drop (0 : Nat) l)).fst.c
  ((Que.mk c r (0 : Int) (nilT (Cd.int IntKind.i64).den) (nilT (Cd.int IntKind.i64).den)
  (nilT (Cd.int IntKind.i64).den)).play
  (List.drop (0 : Nat) l)).fst.r
  ((Que.mk c r (0 : Int) (nilT (Cd.int IntKind.i64).den) (nilT (Cd.int IntKind.i64).den)
  (nilT (Cd.int IntKind.i64).den)).play
  (List.drop (0 : Nat) l)).fst.n
  (List.take
  ((Que.mk c r (0 : Int) (nilT (Cd.int IntKind.i64).den) (nilT (Cd.int IntKind.i64).den)
  (nilT (Cd.int IntKind.i64).den)).play
  (List.drop (0 : Nat) l)).fst.w.length
  (List.drop (0 : Nat)
  ((Que.mk c r (0 : Int) (nilT (Cd.int IntKind.i64).den) (nilT (Cd.int IntKind.i64).den)
  (nilT (Cd.int IntKind.i64).den)).play
  (List.drop (0 : Nat) l)).fst.w))
  (List.take
  ((Que.mk c r (0 : Int) (nilT (Cd.int IntKind.i64).den) (nilT (Cd.int IntKind.i64).den)
  (nilT (Cd.int IntKind.i64).den)).play
  (List.drop (0 : Nat) l)).fst.h.length
  (List.drop (0 : Nat)
  ((Que.mk c r (0 : Int) (nilT (Cd.int IntKind.i64).den) (nilT (Cd.int IntKind.i64).den)
  (nilT (Cd.int IntKind.i64).den)).play
  (List.drop (0 : Nat) l)).fst.h))
  (List.take
  ((Que.mk c r (0 : Int) (nilT (Cd.int IntKind.i64).den) (nilT (Cd.int IntKind.i64).den)
  (nilT (Cd.int IntKind.i64).den)).play
  (List.drop (0 : Nat) l)).fst.d.length
  (List.drop (0 : Nat)
  ((Que.mk c r (0 : Int) (nilT (Cd.int IntKind.i64).den) (nilT (Cd.int IntKind.i64).den)
  (nilT (Cd.int IntKind.i64).den)).play
  (List.drop (0 : Nat) l)).fst.d))).n,
  V.ref (0 : Nat) (0 : Nat)
  (Que.mk
  ((Que.mk c r (0 : Int) (nilT (Cd.int IntKind.i64).den) (nilT (Cd.int IntKind.i64).den)
  (nilT (Cd.int IntKind.i64).den)).play
  (List.drop (0 : Nat) l)).fst.c
  ((Que.mk c r (0 : Int) (nilT (Cd.int IntKind.i64).den) (nilT (Cd.int IntKind.i64).den)
  (nilT (Cd.int IntKind.i64).den)).play
  (List.drop (0 : Nat) l)).fst.r
  ((Que.mk c r (0 : Int) (nilT (Cd.int IntKind.i64).den) (nilT (Cd.int IntKind.i64).den)
  (nilT (Cd.int IntKind.i64).den)).play
  (List.drop (0 : Nat) l)).fst.n
  (List.take
  ((Que.mk c r (0 : Int) (nilT (Cd.int IntKind.i64).den) (nilT (Cd.int IntKind.i64).den)
  (nilT (Cd.int IntKind.i64).den)).play
  (List.drop (0 : Nat) l)).fst.w.length
  (List.drop (0 : Nat)
  ((Que.mk c r (0 : Int) (nilT (Cd.int IntKind.i64).den) (nilT (Cd.int IntKind.i64).den)
  (nilT (Cd.int IntKind.i64).den)).play
  (List.drop (0 : Nat) l)).fst.w))
  (List.take
  ((Que.mk c r (0 : Int) (nilT (Cd.int IntKind.i64).den) (nilT (Cd.int IntKind.i64).den)
  (nilT (Cd.int IntKind.i64).den)).play
  (List.drop (0 : Nat) l)).fst.h.length
  (List.drop (0 : Nat)
  ((Que.mk c r (0 : Int) (nilT (Cd.int IntKind.i64).den) (nilT (Cd.int IntKind.i64).den)
  (nilT (Cd.int IntKind.i64).den)).play
  (List.drop (0 : Nat) l)).fst.h))
  (List.take
  ((Que.mk c r (0 : Int) (nilT (Cd.int IntKind.i64).den) (nilT (Cd.int IntKind.i64).den)
  (nilT (Cd.int IntKind.i64).den)).play
  (List.drop (0 : Nat) l)).fst.d.length
  (List.drop (0 : Nat)
  ((Que.mk c r (0 : Int) (nilT (Cd.int IntKind.i64).den) (nilT (Cd.int IntKind.i64).den)
  (nilT (Cd.int IntKind.i64).den)).play
  (List.drop (0 : Nat) l)).fst.d))).w.length,
  V.ref (1 : Nat) (0 : Nat)
  (Que.mk
  ((Que.mk c r (0 : Int) (nilT (Cd.int IntKind.i64).den) (nilT (Cd.int IntKind.i64).den)
  (nilT (Cd.int IntKind.i64).den)).play
  (List.drop (0 : Nat) l)).fst.c
  ((Que.mk c r (0 : Int) (nilT (Cd.int IntKind.i64).den) (nilT (Cd.int IntKind.i64).den)
  (nilT (Cd.int IntKind.i64).den)).play
  (List.drop (0 : Nat) l)).fst.r
  ((Que.mk c r (0 : Int) (nilT (Cd.int IntKind.i64).den) (nilT (Cd.int IntKind.i64).den)
  (nilT (Cd.int IntKind.i64).den)).play
  (List.drop (0 : Nat) l)).fst.n
  (List.take
  ((Que.mk c r (0 : Int) (nilT (Cd.int IntKind.i64).den) (nilT (Cd.int IntKind.i64).den)
  (nilT (Cd.int IntKind.i64).den)).play
  (List.drop (0 : Nat) l)).fst.w.length
  (List.drop (0 : Nat)
  ((Que.mk c r (0 : Int) (nilT (Cd.int IntKind.i64).den) (nilT (Cd.int IntKind.i64).den)
  (nilT (Cd.int IntKind.i64).den)).play
  (List.drop (0 : Nat) l)).fst.w))
  (List.take
  ((Que.mk c r (0 : Int) (nilT (Cd.int IntKind.i64).den) (nilT (Cd.int IntKind.i64).den)
  (nilT (Cd.int IntKind.i64).den)).play
  (List.drop (0 : Nat) l)).fst.h.length
  (List.drop (0 : Nat)
  ((Que.mk c r (0 : Int) (nilT (Cd.int IntKind.i64).den) (nilT (Cd.int IntKind.i64).den)
  (nilT (Cd.int IntKind.i64).den)).play
  (List.drop (0 : Nat) l)).fst.h))
  (List.take
  ((Que.mk c r (0 : Int) (nilT (Cd.int IntKind.i64).den) (nilT (Cd.int IntKind.i64).den)
  (nilT (Cd.int IntKind.i64).den)).play
  (List.drop (0 : Nat) l)).fst.d.length
  (List.drop (0 : Nat)
  ((Que.mk c r (0 : Int) (nilT (Cd.int IntKind.i64).den) (nilT (Cd.int IntKind.i64).den)
  (nilT (Cd.int IntKind.i64).den)).play
  (List.drop (0 : Nat) l)).fst.d))).h.length,
  V.ref (2 : Nat) (0 : Nat)
  (Que.mk
  ((Que.mk c r (0 : Int) (nilT (Cd.int IntKind.i64).den) (nilT (Cd.int IntKind.i64).den)
  (nilT (Cd.int IntKind.i64).den)).play
  (List.drop (0 : Nat) l)).fst.c
  ((Que.mk c r (0 : Int) (nilT (Cd.int IntKind.i64).den) (nilT (Cd.int IntKind.i64).den)
  (nilT (Cd.int IntKind.i64).den)).play
  (List.drop (0 : Nat) l)).fst.r
  ((Que.mk c r (0 : Int) (nilT (Cd.int IntKind.i64).den) (nilT (Cd.int IntKind.i64).den)
  (nilT (Cd.int IntKind.i64).den)).play
  (List.drop (0 : Nat) l)).fst.n
  (List.take
  ((Que.mk c r (0 : Int) (nilT (Cd.int IntKind.i64).den) (nilT (Cd.int IntKind.i64).den)
  (nilT (Cd.int IntKind.i64).den)).play
  (List.drop (0 : Nat) l)).fst.w.length
  (List.drop (0 : Nat)
  ((Que.mk c r (0 : Int) (nilT (Cd.int IntKind.i64).den) (nilT (Cd.int IntKind.i64).den)
  (nilT (Cd.int IntKind.i64).den)).play
  (List.drop (0 : Nat) l)).fst.w))
  (List.take
  ((Que.mk c r (0 : Int) (nilT (Cd.int IntKind.i64).den) (nilT (Cd.int IntKind.i64).den)
  (nilT (Cd.int IntKind.i64).den)).play
  (List.drop (0 : Nat) l)).fst.h.length
  (List.drop (0 : Nat)
  ((Que.mk c r (0 : Int) (nilT (Cd.int IntKind.i64).den) (nilT (Cd.int IntKind.i64).den)
  (nilT (Cd.int IntKind.i64).den)).play
  (List.drop (0 : Nat) l)).fst.h))
  (List.take
  ((Que.mk c r (0 : Int) (nilT (Cd.int IntKind.i64).den) (nilT (Cd.int IntKind.i64).den)
  (nilT (Cd.int IntKind.i64).den)).play
  (List.drop (0 : Nat) l)).fst.d.length
  (List.drop (0 : Nat)
  ((Que.mk c r (0 : Int) (nilT (Cd.int IntKind.i64).den) (nilT (Cd.int IntKind.i64).den)
  (nilT (Cd.int IntKind.i64).den)).play
  (List.drop (0 : Nat) l)).fst.d))).d.length],
  V.ref (3 : Nat) (0 : Nat)
  (nilT (Cd.int IntKind.i64).den ++
  ((Que.mk c r (0 : Int) (nilT (Cd.int IntKind.i64).den) (nilT (Cd.int IntKind.i64).den)
  (nilT (Cd.int IntKind.i64).den)).play
  (List.drop (0 : Nat) l)).snd).length,
  V.b true],
  [some
  (Blk.row false none (Cd.int IntKind.i64)
  (Que.mk
  ((Que.mk c r (0 : Int) (nilT (Cd.int IntKind.i64).den) (nilT (Cd.int IntKind.i64).den)
  (nilT (Cd.int IntKind.i64).den)).play
  (List.drop (0 : Nat) l)).fst.c
  ((Que.mk c r (0 : Int) (nilT (Cd.int IntKind.i64).den) (nilT (Cd.int IntKind.i64).den)
  (nilT (Cd.int IntKind.i64).den)).play
  (List.drop (0 : Nat) l)).fst.r
  ((Que.mk c r (0 : Int) (nilT (Cd.int IntKind.i64).den) (nilT (Cd.int IntKind.i64).den)
  (nilT (Cd.int IntKind.i64).den)).play
  (List.drop (0 : Nat) l)).fst.n
  (List.take
  ((Que.mk c r (0 : Int) (nilT (Cd.int IntKind.i64).den) (nilT (Cd.int IntKind.i64).den)
  (nilT (Cd.int IntKind.i64).den)).play
  (List.drop (0 : Nat) l)).fst.w.length
  (List.drop (0 : Nat)
  ((Que.mk c r (0 : Int) (nilT (Cd.int IntKind.i64).den) (nilT (Cd.int IntKind.i64).den)
  (nilT (Cd.int IntKind.i64).den)).play
  (List.drop (0 : Nat) l)).fst.w))
  (List.take
  ((Que.mk c r (0 : Int) (nilT (Cd.int IntKind.i64).den) (nilT (Cd.int IntKind.i64).den)
  (nilT (Cd.int IntKind.i64).den)).play
  (List.drop (0 : Nat) l)).fst.h.length
  (List.drop (0 : Nat)
  ((Que.mk c r (0 : Int) (nilT (Cd.int IntKind.i64).den) (nilT (Cd.int IntKind.i64).den)
  (nilT (Cd.int IntKind.i64).den)).play
  (List.drop (0 : Nat) l)).fst.h))
  (List.take
  ((Que.mk c r (0 : Int) (nilT (Cd.int IntKind.i64).den) (nilT (Cd.int IntKind.i64).den)
  (nilT (Cd.int IntKind.i64).den)).play
  (List.drop (0 : Nat) l)).fst.d.length
  (List.drop (0 : Nat)
  ((Que.mk c r (0 : Int) (nilT (Cd.int IntKind.i64).den) (nilT (Cd.int IntKind.i64).den)
  (nilT (Cd.int IntKind.i64).den)).play
  (List.drop (0 : Nat) l)).fst.d))).w),
  some
  (Blk.row false none (Cd.int IntKind.i64)
  (Que.mk
  ((Que.mk c r (0 : Int) (nilT (Cd.int IntKind.i64).den) (nilT (Cd.int IntKind.i64).den)
  (nilT (Cd.int IntKind.i64).den)).play
  (List.drop (0 : Nat) l)).fst.c
  ((Que.mk c r (0 : Int) (nilT (Cd.int IntKind.i64).den) (nilT (Cd.int IntKind.i64).den)
  (nilT (Cd.int IntKind.i64).den)).play
  (List.drop (0 : Nat) l)).fst.r
  ((Que.mk c r (0 : Int) (nilT (Cd.int IntKind.i64).den) (nilT (Cd.int IntKind.i64).den)
  (nilT (Cd.int IntKind.i64).den)).play
  (List.drop (0 : Nat) l)).fst.n
  (List.take
  ((Que.mk c r (0 : Int) (nilT (Cd.int IntKind.i64).den) (nilT (Cd.int IntKind.i64).den)
  (nilT (Cd.int IntKind.i64).den)).play
  (List.drop (0 : Nat) l)).fst.w.length
  (List.drop (0 : Nat)
  ((Que.mk c r (0 : Int) (nilT (Cd.int IntKind.i64).den) (nilT (Cd.int IntKind.i64).den)
  (nilT (Cd.int IntKind.i64).den)).play
  (List.drop (0 : Nat) l)).fst.w))
  (List.take
  ((Que.mk c r (0 : Int) (nilT (Cd.int IntKind.i64).den) (nilT (Cd.int IntKind.i64).den)
  (nilT (Cd.int IntKind.i64).den)).play
  (List.drop (0 : Nat) l)).fst.h.length
  (List.drop (0 : Nat)
  ((Que.mk c r (0 : Int) (nilT (Cd.int IntKind.i64).den) (nilT (Cd.int IntKind.i64).den)
  (nilT (Cd.int IntKind.i64).den)).play
  (List.drop (0 : Nat) l)).fst.h))
  (List.take
  ((Que.mk c r (0 : Int) (nilT (Cd.int IntKind.i64).den) (nilT (Cd.int IntKind.i64).den)
  (nilT (Cd.int IntKind.i64).den)).play
  (List.drop (0 : Nat) l)).fst.d.length
  (List.drop (0 : Nat)
  ((Que.mk c r (0 : Int) (nilT (Cd.int IntKind.i64).den) (nilT (Cd.int IntKind.i64).den)
  (nilT (Cd.int IntKind.i64).den)).play
  (List.drop (0 : Nat) l)).fst.d))).h),
  some
  (Blk.row false none (Cd.int IntKind.i64)
  (Que.mk
  ((Que.mk c r (0 : Int) (nilT (Cd.int IntKind.i64).den) (nilT (Cd.int IntKind.i64).den)
  (nilT (Cd.int IntKind.i64).den)).play
  (List.drop (0 : Nat) l)).fst.c
  ((Que.mk c r (0 : Int) (nilT (Cd.int IntKind.i64).den) (nilT (Cd.int IntKind.i64).den)
  (nilT (Cd.int IntKind.i64).den)).play
  (List.drop (0 : Nat) l)).fst.r
  ((Que.mk c r (0 : Int) (nilT (Cd.int IntKind.i64).den) (nilT (Cd.int IntKind.i64).den)
  (nilT (Cd.int IntKind.i64).den)).play
  (List.drop (0 : Nat) l)).fst.n
  (List.take
  ((Que.mk c r (0 : Int) (nilT (Cd.int IntKind.i64).den) (nilT (Cd.int IntKind.i64).den)
  (nilT (Cd.int IntKind.i64).den)).play
  (List.drop (0 : Nat) l)).fst.w.length
  (List.drop (0 : Nat)
  ((Que.mk c r (0 : Int) (nilT (Cd.int IntKind.i64).den) (nilT (Cd.int IntKind.i64).den)
  (nilT (Cd.int IntKind.i64).den)).play
  (List.drop (0 : Nat) l)).fst.w))
  (List.take
  ((Que.mk c r (0 : Int) (nilT (Cd.int IntKind.i64).den) (nilT (Cd.int IntKind.i64).den)
  (nilT (Cd.int IntKind.i64).den)).play
  (List.drop (0 : Nat) l)).fst.h.length
  (List.drop (0 : Nat)
  ((Que.mk c r (0 : Int) (nilT (Cd.int IntKind.i64).den) (nilT (Cd.int IntKind.i64).den)
  (nilT (Cd.int IntKind.i64).den)).play
  (List.drop (0 : Nat) l)).fst.h))
  (List.take
  ((Que.mk c r (0 : Int) (nilT (Cd.int IntKind.i64).den) (nilT (Cd.int IntKind.i64).den)
  (nilT (Cd.int IntKind.i64).den)).play
  (List.drop (0 : Nat) l)).fst.d.length
  (List.drop (0 : Nat)
  ((Que.mk c r (0 : Int) (nilT (Cd.int IntKind.i64).den) (nilT (Cd.int IntKind.i64).den)
  (nilT (Cd.int IntKind.i64).den)).play
  (List.drop (0 : Nat) l)).fst.d))).d),
  some
  (Blk.row false none (Cd.int IntKind.i64)
  (nilT (Cd.int IntKind.i64).den ++
  ((Que.mk c r (0 : Int) (nilT (Cd.int IntKind.i64).den) (nilT (Cd.int IntKind.i64).den)
  (nilT (Cd.int IntKind.i64).den)).play
  (List.drop (0 : Nat) l)).snd))])))))
  (some
  (V.tup
  [V.agg
  [V.i IntKind.i64 (0 : Int), V.i IntKind.i64 (0 : Int), V.i IntKind.i64 (0 : Int),
  V.ref (0 : Nat) (0 : Nat) (0 : Nat), V.ref (1 : Nat) (0 : Nat) (0 : Nat),
  V.ref (2 : Nat) (0 : Nat) (0 : Nat)],
  V.ref (3 : Nat) (0 : Nat) (0 : Nat), V.b false],
  [some (Blk.row false none (Cd.int IntKind.i64) (nilT (Cd.int IntKind.i64).den)),
  some (Blk.row false none (Cd.int IntKind.i64) (nilT (Cd.int IntKind.i64).den)),
  some (Blk.row false none (Cd.int IntKind.i64) (nilT (Cd.int IntKind.i64).den)),
  some (Blk.row false none (Cd.int IntKind.i64) (nilT (Cd.int IntKind.i64).den))]))) : _) := by kernel_rfl
  rw [e]
  clear e
  unfold playO
  by_cases q1 : (1 ≤ c ∧ c ≤ 10) ∧ 1 ≤ r ∧ r ≤ 3
  rotate_left
  · rw [ifB_false (decide_eq_false q1), if_neg (fun hh => q1 hh.1)]; rfl
  by_cases q2 : l.length ≤ 200
  rotate_left
  · rw [ifB_true (decide_eq_true q1), ifB_true (decide_eq_true (by omega)), if_neg (fun hh => q2 hh.2)]; rfl
  rw [ifB_true (decide_eq_true q1), ifB_false (decide_eq_false (by omega)), if_pos ⟨q1, q2⟩]
  have hg := Que.new_good q1
  have hp : (Que.mk c r 0 [] [] []).good = true := hg
  have hl := goodQ_len (Que.play_good l hp)
  rw [ifT_true (by simp only [nilT_eq, hg, Bool.and_true]; exact decide_eq_true ⟨by omega, by omega, by trivial, q2, by trivial, by trivial, by trivial, by trivial, by trivial⟩)]
  simp only [nilT_eq, List.drop_zero, List.nil_append, List.take_length]
  rw [ifT_true (decide_eq_true hl)]
  rfl
theorem splay : Contract Try.prog 34 (Ent.rd1 splayG).F := by
  refine fun_contractN' (KnowsL.cons (enters_fn Try.func109 (by kernel_rfl) (by kernel_rfl)) specNewQ (KnowsL.cons (enters_fn Try.func111 (by kernel_rfl) (by kernel_rfl)) ownQ (KnowsL.cons (enters_fn Try.func110 (by kernel_rfl) (by kernel_rfl)) l16Offer (KnowsL.cons (enters_fn Try.func112 (by kernel_rfl) (by kernel_rfl)) l16Hand KnowsL.nil)))).knows (Λ := (look [(6, splayE)])) Try.func34 (c := Try.f34.body.getD .skip) (by kernel_rfl) fun vs bs r' hq hv hb => ?_
  unfold Ent.F splayG at hq
  dsimp only at hq
  split at hq
  · rename_i c r l
    exact ⟨splay_ok, (splay_fun c r l).trans hq⟩
  · cases hq
theorem iplay_fun (c r : Int) (l : List Bool) : funN Try.prog (look [(106, .rd1 newQG), (108, .own qofferG), (107, .own qhandG)]) (look [(6, iplayE)]) Try.f33 [.i .i64 c, .i .i64 r, .sl .bool l] [] = (.leaf (.tup [.agg [.i .i64 (playP c r l).1.1.c, .i .i64 (playP c r l).1.1.r, .i .i64 (playP c r l).1.1.n, .ref 0 (playP c r l).1.2 (Que.view (playP c r l).1).w.length, .ref 1 0 (playP c r l).1.1.h.length, .ref 2 0 (playP c r l).1.1.d.length], .ref 3 0 (playP c r l).2.1.length, .b (playP c r l).2.2], [some (.row false none (.int .i64) (playP c r l).1.1.w), some (.row false none (.int .i64) (playP c r l).1.1.h), some (.row false none (.int .i64) (playP c r l).1.1.d), some (.row false none (.int .i64) (playP c r l).2.1)]) : Br (V × List (Option Blk))).run := by
  have e : funN Try.prog (look [(106, .rd1 newQG), (108, .own qofferG), (107, .own qhandG)]) (look [(6, iplayE)]) Try.f33 [.i .i64 c, .i .i64 r, .sl .bool l] [] = ((ifB (decide (((1 : Int) ≤ c ∧ c ≤ (10 : Int)) ∧ (1 : Int) ≤ r ∧ r ≤ (3 : Int)))
  (ifB (decide ((↑l.length : Int) > (200 : Int)))
  (some
  (V.tup
  [V.agg
  [V.i IntKind.i64 (0 : Int), V.i IntKind.i64 (0 : Int), V.i IntKind.i64 (0 : Int),
  V.ref (0 : Nat) (0 : Nat) (0 : Nat), V.ref (1 : Nat) (0 : Nat) (0 : Nat),
  V.ref (2 : Nat) (0 : Nat) (0 : Nat)],
  V.ref (3 : Nat) (0 : Nat) (0 : Nat), V.b false],
  [some (Blk.row false none (Cd.int IntKind.i64) (nilT (Cd.int IntKind.i64).den)),
  some (Blk.row false none (Cd.int IntKind.i64) (nilT (Cd.int IntKind.i64).den)),
  some (Blk.row false none (Cd.int IntKind.i64) (nilT (Cd.int IntKind.i64).den)),
  some (Blk.row false none (Cd.int IntKind.i64) (nilT (Cd.int IntKind.i64).den))]))
  (ifT
  (decide ((0 : Int) ≤ (↑l.length : Int)) && decide ((↑l.length : Int) ≤ (↑l.length : Int)) &&
  decide ((↑l.length : Int) * (↑(8 : Nat) : Int) ≤ (140737488355328 : Int)) &&
  decide ((↑l.length : Int) ≤ (9223372036854775807 : Int)))
  (ifT
  (decide
  ((0 : Int) ≤ (0 : Int) ∧
  (0 : Nat) ≤ l.length ∧
  (↑l.length : Int) = (↑l.length : Int) ∧
  l.length ≤ (200 : Nat) ∧
  (↑l.length : Int).toNat = (List.replicate (↑l.length : Int).toNat (0 : Int)).length ∧
  (List.replicate (↑l.length : Int).toNat (0 : Int)).length = l.length ∧
  (0 : Nat) = (0 : Nat) ∧ (0 : Nat) = (0 : Nat) ∧ (0 : Nat) = (0 : Nat)) &&
  goodQ c r (0 : Int) (nilT (Cd.int IntKind.i64).den) (nilT (Cd.int IntKind.i64).den)
  (nilT (Cd.int IntKind.i64).den))
  (some
  (V.tup
  [V.agg
  [V.i IntKind.i64
  (Que.playR
  (Que.mk c r (0 : Int) (nilT (Cd.int IntKind.i64).den) (nilT (Cd.int IntKind.i64).den)
  (nilT (Cd.int IntKind.i64).den),
  (0 : Nat))
  (List.drop (0 : Nat) l)).fst.fst.c,
  V.i IntKind.i64
  (Que.playR
  (Que.mk c r (0 : Int) (nilT (Cd.int IntKind.i64).den) (nilT (Cd.int IntKind.i64).den)
  (nilT (Cd.int IntKind.i64).den),
  (0 : Nat))
  (List.drop (0 : Nat) l)).fst.fst.r,
  V.i IntKind.i64
  (Que.playR
  (Que.mk c r (0 : Int) (nilT (Cd.int IntKind.i64).den) (nilT (Cd.int IntKind.i64).den)
  (nilT (Cd.int IntKind.i64).den),
  (0 : Nat))
  (List.drop (0 : Nat) l)).fst.fst.n,
  V.ref (0 : Nat)
  (Que.playR
  (Que.mk c r (0 : Int) (nilT (Cd.int IntKind.i64).den) (nilT (Cd.int IntKind.i64).den)
  (nilT (Cd.int IntKind.i64).den),
  (0 : Nat))
  (List.drop (0 : Nat) l)).fst.snd
  (Que.view
  (Que.playR
  (Que.mk c r (0 : Int) (nilT (Cd.int IntKind.i64).den) (nilT (Cd.int IntKind.i64).den)
  (nilT (Cd.int IntKind.i64).den),
  (0 : Nat))
  (List.drop (0 : Nat) l)).fst).w.length,
  V.ref (1 : Nat) (0 : Nat)
  (Que.playR
  (Que.mk c r (0 : Int) (nilT (Cd.int IntKind.i64).den) (nilT (Cd.int IntKind.i64).den)
  (nilT (Cd.int IntKind.i64).den),
  (0 : Nat))
  (List.drop (0 : Nat) l)).fst.fst.h.length,
  V.ref (2 : Nat) (0 : Nat)
  (Que.playR
  (Que.mk c r (0 : Int) (nilT (Cd.int IntKind.i64).den) (nilT (Cd.int IntKind.i64).den)
  (nilT (Cd.int IntKind.i64).den),
  (0 : Nat))
  (List.drop (0 : Nat) l)).fst.fst.d.length],
  V.ref (3 : Nat) (0 : Nat) (↑l.length : Int).toNat, V.b true],
  [some
  (Blk.row false none (Cd.int IntKind.i64)
  (Que.playR
  (Que.mk c r (0 : Int) (nilT (Cd.int IntKind.i64).den) (nilT (Cd.int IntKind.i64).den)
  (nilT (Cd.int IntKind.i64).den),
  (0 : Nat))
  (List.drop (0 : Nat) l)).fst.fst.w),
  some
  (Blk.row false none (Cd.int IntKind.i64)
  (Que.playR
  (Que.mk c r (0 : Int) (nilT (Cd.int IntKind.i64).den) (nilT (Cd.int IntKind.i64).den)
  (nilT (Cd.int IntKind.i64).den),
  (0 : Nat))
  (List.drop (0 : Nat) l)).fst.fst.h),
  some
  (Blk.row false none (Cd.int IntKind.i64)
  (Que.playR
  (Que.mk c r (0 : Int) (nilT (Cd.int IntKind.i64).den) (nilT (Cd.int IntKind.i64).den)
  (nilT (Cd.int IntKind.i64).den),
  (0 : Nat))
  (List.drop (0 : Nat) l)).fst.fst.d),
  some
  (Blk.row false none (Cd.int IntKind.i64)
  (nilT (Cd.int IntKind.i64).den ++
  (Que.playR
  (Que.mk c r (0 : Int) (nilT (Cd.int IntKind.i64).den) (nilT (Cd.int IntKind.i64).den)
  (nilT (Cd.int IntKind.i64).den),
  (0 : Nat))
  (List.drop (0 : Nat) l)).snd))])))))
  (some
  (V.tup
  [V.agg
  [V.i IntKind.i64 (0 : Int), V.i IntKind.i64 (0 : Int), V.i IntKind.i64 (0 : Int),
  V.ref (0 : Nat) (0 : Nat) (0 : Nat), V.ref (1 : Nat) (0 : Nat) (0 : Nat),
  V.ref (2 : Nat) (0 : Nat) (0 : Nat)],
  V.ref (3 : Nat) (0 : Nat) (0 : Nat), V.b false],
  [some (Blk.row false none (Cd.int IntKind.i64) (nilT (Cd.int IntKind.i64).den)),
  some (Blk.row false none (Cd.int IntKind.i64) (nilT (Cd.int IntKind.i64).den)),
  some (Blk.row false none (Cd.int IntKind.i64) (nilT (Cd.int IntKind.i64).den)),
  some (Blk.row false none (Cd.int IntKind.i64) (nilT (Cd.int IntKind.i64).den))]))) : _) := by kernel_rfl
  rw [e]
  clear e
  unfold playP
  by_cases q1 : (1 ≤ c ∧ c ≤ 10) ∧ 1 ≤ r ∧ r ≤ 3
  rotate_left
  · rw [ifB_false (decide_eq_false q1), if_neg (fun hh => q1 hh.1)]; rfl
  by_cases q2 : l.length ≤ 200
  rotate_left
  · rw [ifB_true (decide_eq_true q1), ifB_true (decide_eq_true (by omega)), if_neg (fun hh => q2 hh.2)]; rfl
  rw [ifB_true (decide_eq_true q1), ifB_false (decide_eq_false (by omega)), if_pos ⟨q1, q2⟩]
  have hg := Que.new_good q1
  rw [ifT_true (by simp only [Bool.and_eq_true, decide_eq_true_eq]; omega)]
  rw [ifT_true (by simp only [nilT_eq, List.drop_nil, hg, Bool.and_true]; exact decide_eq_true ⟨by omega, by omega, by trivial, q2, by simp, by simp, by trivial, by trivial, by trivial⟩)]
  have hpl : (Que.playR (Que.mk c r 0 [] [] [], 0) l).2.length = l.length := by
    rw [(Que.view_play l (Que.mk c r 0 [] [] [], 0) (Nat.le_refl _)).2.1, Que.play_len (Que.mk c r 0 [] [] [])]
  simp only [nilT_eq, List.drop_zero, List.take_zero, List.nil_append, hpl]
  rfl
theorem iplay : Contract Try.prog 33 (Ent.rd1 iplayG).F := by
  refine fun_contractN' (KnowsL.cons (enters_fn Try.func106 (by kernel_rfl) (by kernel_rfl)) implNewQ (KnowsL.cons (enters_fn Try.func108 (by kernel_rfl) (by kernel_rfl)) qoffer (KnowsL.cons (enters_fn Try.func107 (by kernel_rfl) (by kernel_rfl)) qhand KnowsL.nil))).knows (Λ := (look [(6, iplayE)])) Try.func33 (c := Try.f33.body.getD .skip) (by kernel_rfl) fun vs bs r' hq hv hb => ?_
  unfold Ent.F iplayG at hq
  dsimp only at hq
  split at hq
  · rename_i c r l
    exact ⟨iplay_ok, (iplay_fun c r l).trans hq⟩
  · cases hq
end Go.Proofs.Ytjghbihlgfjebaa.Den
