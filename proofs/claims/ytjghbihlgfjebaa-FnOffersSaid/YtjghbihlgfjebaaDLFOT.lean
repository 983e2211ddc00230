/- What functions of the program do, by the machine: LFOT. -/
import Derived.Test.YtjghbihlgfjebaaDQueE
import Derived.KernelRfl
import Derived.Test.YtjghbihlgfjebaaRows
namespace Go.Proofs.Ytjghbihlgfjebaa.Den
open Go.Proofs
set_option maxRecDepth 100000
theorem law_tree (l r : List Int) : funK Try.prog (look [(48, .rd1 dgqG), (49, .rd1 offerG), (50, .rd1 offerG), (36, .rd1 sameQG), (37, .rd1 goodQG), (51, .rd1 goodQG), (52, .rd1 dgqG), (53, .rd1 handIG), (54, .rd1 handG), (55, .rd1 gapsG), (56, .rd1 gapsG), (57, .rd1 dwhereG), (39, .rd1 whereG), (58, .rd1 whereG)]) (look []) Try.f8 [.sl (.int .u8) l, .sl (.int .u8) r] [] =
  ((ifB (decide (IntKind.i64.wrap ((↑l.length : Int) + (↑r.length : Int)) > (1048576 : Int))) (some (V.b true, []))
  (ifT (decide ((Cur.mk l (0 : Int) (0 : Int)).good (0 : Int)))
  (ifB
  (!(Que.mk (dque l).c (dque l).r (dque l).n (List.take (dque l).w.length (List.drop (0 : Nat) (dque l).w))
  (List.take (dque l).h.length (List.drop (0 : Nat) (dque l).h))
  (List.take (dque l).d.length (List.drop (0 : Nat) (dque l).d))).offO.snd.snd ==
  (Que.mk (dque l).c (dque l).r (dque l).n (List.take (dque l).w.length (List.drop (0 : Nat) (dque l).w))
  (List.take (dque l).h.length (List.drop (0 : Nat) (dque l).h))
  (List.take (dque l).d.length (List.drop (0 : Nat) (dque l).d))).offO.snd.snd)
  (some (V.b false, []))
  (ifB
  ((Que.mk (dque l).c (dque l).r (dque l).n (List.take (dque l).w.length (List.drop (0 : Nat) (dque l).w))
  (List.take (dque l).h.length (List.drop (0 : Nat) (dque l).h))
  (List.take (dque l).d.length (List.drop (0 : Nat) (dque l).d))).offO.snd.fst !=
  (Que.mk (dque l).c (dque l).r (dque l).n (List.take (dque l).w.length (List.drop (0 : Nat) (dque l).w))
  (List.take (dque l).h.length (List.drop (0 : Nat) (dque l).h))
  (List.take (dque l).d.length (List.drop (0 : Nat) (dque l).d))).offO.snd.fst)
  (some (V.b false, []))
  (ifB
  (!decide
  ((Que.mk (dque l).c (dque l).r (dque l).n (List.take (dque l).w.length (List.drop (0 : Nat) (dque l).w))
  (List.take (dque l).h.length (List.drop (0 : Nat) (dque l).h))
  (List.take (dque l).d.length (List.drop (0 : Nat) (dque l).d))).offO.fst.c =
  (Que.mk (dque l).c (dque l).r (dque l).n
  (List.take (dque l).w.length (List.drop (0 : Nat) (dque l).w))
  (List.take (dque l).h.length (List.drop (0 : Nat) (dque l).h))
  (List.take (dque l).d.length (List.drop (0 : Nat) (dque l).d))).offO.fst.c ∧
  (Que.mk (dque l).c (dque l).r (dque l).n (List.take (dque l).w.length (List.drop (0 : Nat) (dque l).w))
  (List.take (dque l).h.length (List.drop (0 : Nat) (dque l).h))
  (List.take (dque l).d.length (List.drop (0 : Nat) (dque l).d))).offO.fst.r =
  (Que.mk (dque l).c (dque l).r (dque l).n
  (List.take (dque l).w.length (List.drop (0 : Nat) (dque l).w))
  (List.take (dque l).h.length (List.drop (0 : Nat) (dque l).h))
  (List.take (dque l).d.length (List.drop (0 : Nat) (dque l).d))).offO.fst.r ∧
  (Que.mk (dque l).c (dque l).r (dque l).n
  (List.take (dque l).w.length (List.drop (0 : Nat) (dque l).w))
  (List.take (dque l).h.length (List.drop (0 : Nat) (dque l).h))
  (List.take (dque l).d.length (List.drop (0 : Nat) (dque l).d))).offO.fst.n =
  (Que.mk (dque l).c (dque l).r (dque l).n
  (List.take (dque l).w.length (List.drop (0 : Nat) (dque l).w))
  (List.take (dque l).h.length (List.drop (0 : Nat) (dque l).h))
  (List.take (dque l).d.length (List.drop (0 : Nat) (dque l).d))).offO.fst.n ∧
  List.take
  (Que.mk (dque l).c (dque l).r (dque l).n
  (List.take (dque l).w.length (List.drop (0 : Nat) (dque l).w))
  (List.take (dque l).h.length (List.drop (0 : Nat) (dque l).h))
  (List.take (dque l).d.length (List.drop (0 : Nat) (dque l).d))).offO.fst.w.length
  (List.drop (0 : Nat)
  (Que.mk (dque l).c (dque l).r (dque l).n
  (List.take (dque l).w.length (List.drop (0 : Nat) (dque l).w))
  (List.take (dque l).h.length (List.drop (0 : Nat) (dque l).h))
  (List.take (dque l).d.length (List.drop (0 : Nat) (dque l).d))).offO.fst.w) =
  List.take
  (Que.mk (dque l).c (dque l).r (dque l).n
  (List.take (dque l).w.length (List.drop (0 : Nat) (dque l).w))
  (List.take (dque l).h.length (List.drop (0 : Nat) (dque l).h))
  (List.take (dque l).d.length (List.drop (0 : Nat) (dque l).d))).offO.fst.w.length
  (List.drop (0 : Nat)
  (Que.mk (dque l).c (dque l).r (dque l).n
  (List.take (dque l).w.length (List.drop (0 : Nat) (dque l).w))
  (List.take (dque l).h.length (List.drop (0 : Nat) (dque l).h))
  (List.take (dque l).d.length (List.drop (0 : Nat) (dque l).d))).offO.fst.w) ∧
  List.take
  (Que.mk (dque l).c (dque l).r (dque l).n
  (List.take (dque l).w.length (List.drop (0 : Nat) (dque l).w))
  (List.take (dque l).h.length (List.drop (0 : Nat) (dque l).h))
  (List.take (dque l).d.length (List.drop (0 : Nat) (dque l).d))).offO.fst.h.length
  (List.drop (0 : Nat)
  (Que.mk (dque l).c (dque l).r (dque l).n
  (List.take (dque l).w.length (List.drop (0 : Nat) (dque l).w))
  (List.take (dque l).h.length (List.drop (0 : Nat) (dque l).h))
  (List.take (dque l).d.length (List.drop (0 : Nat) (dque l).d))).offO.fst.h) =
  List.take
  (Que.mk (dque l).c (dque l).r (dque l).n
  (List.take (dque l).w.length (List.drop (0 : Nat) (dque l).w))
  (List.take (dque l).h.length (List.drop (0 : Nat) (dque l).h))
  (List.take (dque l).d.length (List.drop (0 : Nat) (dque l).d))).offO.fst.h.length
  (List.drop (0 : Nat)
  (Que.mk (dque l).c (dque l).r (dque l).n
  (List.take (dque l).w.length (List.drop (0 : Nat) (dque l).w))
  (List.take (dque l).h.length (List.drop (0 : Nat) (dque l).h))
  (List.take (dque l).d.length (List.drop (0 : Nat) (dque l).d))).offO.fst.h) ∧
  List.take
  (Que.mk (dque l).c (dque l).r (dque l).n
  (List.take (dque l).w.length (List.drop (0 : Nat) (dque l).w))
  (List.take (dque l).h.length (List.drop (0 : Nat) (dque l).h))
  (List.take (dque l).d.length (List.drop (0 : Nat) (dque l).d))).offO.fst.d.length
  (List.drop (0 : Nat)
  (Que.mk (dque l).c (dque l).r (dque l).n
  (List.take (dque l).w.length (List.drop (0 : Nat) (dque l).w))
  (List.take (dque l).h.length (List.drop (0 : Nat) (dque l).h))
  (List.take (dque l).d.length (List.drop (0 : Nat) (dque l).d))).offO.fst.d) =
  List.take
  (Que.mk (dque l).c (dque l).r (dque l).n
  (List.take (dque l).w.length (List.drop (0 : Nat) (dque l).w))
  (List.take (dque l).h.length (List.drop (0 : Nat) (dque l).h))
  (List.take (dque l).d.length (List.drop (0 : Nat) (dque l).d))).offO.fst.d.length
  (List.drop (0 : Nat)
  (Que.mk (dque l).c (dque l).r (dque l).n
  (List.take (dque l).w.length (List.drop (0 : Nat) (dque l).w))
  (List.take (dque l).h.length (List.drop (0 : Nat) (dque l).h))
  (List.take (dque l).d.length (List.drop (0 : Nat) (dque l).d))).offO.fst.d)))
  (some (V.b false, []))
  (ifB
  (!goodQ (dque l).c (dque l).r (dque l).n (List.take (dque l).w.length (List.drop (0 : Nat) (dque l).w))
  (List.take (dque l).h.length (List.drop (0 : Nat) (dque l).h))
  (List.take (dque l).d.length (List.drop (0 : Nat) (dque l).d)) ==
  goodQ (dque l).c (dque l).r (dque l).n (List.take (dque l).w.length (List.drop (0 : Nat) (dque l).w))
  (List.take (dque l).h.length (List.drop (0 : Nat) (dque l).h))
  (List.take (dque l).d.length (List.drop (0 : Nat) (dque l).d)))
  (some (V.b false, []))
  (ifB
  (Que.mk (dque l).c (dque l).r (dque l).n (List.take (dque l).w.length (List.drop (0 : Nat) (dque l).w))
  (List.take (dque l).h.length (List.drop (0 : Nat) (dque l).h))
  (List.take (dque l).d.length (List.drop (0 : Nat) (dque l).d))).offO.snd.snd
  (ifB
  (!decide
  ((Que.mk (dque l).c (dque l).r (dque l).n
  (List.take (dque l).w.length (List.drop (0 : Nat) (dque l).w))
  (List.take (dque l).h.length (List.drop (0 : Nat) (dque l).h))
  (List.take (dque l).d.length (List.drop (0 : Nat) (dque l).d))).offO.snd.fst ≥
  (0 : Int)) ==
  ((↑(dque l).w.length : Int) == (dque l).c))
  (some (V.b false, []))
  (ifB
  ((Que.mk (dque l).c (dque l).r (dque l).n
  (List.take (dque l).w.length (List.drop (0 : Nat) (dque l).w))
  (List.take (dque l).h.length (List.drop (0 : Nat) (dque l).h))
  (List.take (dque l).d.length (List.drop (0 : Nat) (dque l).d))).offO.fst.n !=
  IntKind.i64.wrap ((dque l).n + (1 : Int)))
  (some (V.b false, []))
  (ifB
  (!goodQ
  (Que.mk (dque l).c (dque l).r (dque l).n
  (List.take (dque l).w.length (List.drop (0 : Nat) (dque l).w))
  (List.take (dque l).h.length (List.drop (0 : Nat) (dque l).h))
  (List.take (dque l).d.length (List.drop (0 : Nat) (dque l).d))).offO.fst.c
  (Que.mk (dque l).c (dque l).r (dque l).n
  (List.take (dque l).w.length (List.drop (0 : Nat) (dque l).w))
  (List.take (dque l).h.length (List.drop (0 : Nat) (dque l).h))
  (List.take (dque l).d.length (List.drop (0 : Nat) (dque l).d))).offO.fst.r
  (Que.mk (dque l).c (dque l).r (dque l).n
  (List.take (dque l).w.length (List.drop (0 : Nat) (dque l).w))
  (List.take (dque l).h.length (List.drop (0 : Nat) (dque l).h))
  (List.take (dque l).d.length (List.drop (0 : Nat) (dque l).d))).offO.fst.n
  (List.take
  (Que.mk (dque l).c (dque l).r (dque l).n
  (List.take (dque l).w.length (List.drop (0 : Nat) (dque l).w))
  (List.take (dque l).h.length (List.drop (0 : Nat) (dque l).h))
  (List.take (dque l).d.length (List.drop (0 : Nat) (dque l).d))).offO.fst.w.length
  (List.drop (0 : Nat)
  (Que.mk (dque l).c (dque l).r (dque l).n
  (List.take (dque l).w.length (List.drop (0 : Nat) (dque l).w))
  (List.take (dque l).h.length (List.drop (0 : Nat) (dque l).h))
  (List.take (dque l).d.length (List.drop (0 : Nat) (dque l).d))).offO.fst.w))
  (List.take
  (Que.mk (dque l).c (dque l).r (dque l).n
  (List.take (dque l).w.length (List.drop (0 : Nat) (dque l).w))
  (List.take (dque l).h.length (List.drop (0 : Nat) (dque l).h))
  (List.take (dque l).d.length (List.drop (0 : Nat) (dque l).d))).offO.fst.h.length
  (List.drop (0 : Nat)
  (Que.mk (dque l).c (dque l).r (dque l).n
  (List.take (dque l).w.length (List.drop (0 : Nat) (dque l).w))
  (List.take (dque l).h.length (List.drop (0 : Nat) (dque l).h))
  (List.take (dque l).d.length (List.drop (0 : Nat) (dque l).d))).offO.fst.h))
  (List.take
  (Que.mk (dque l).c (dque l).r (dque l).n
  (List.take (dque l).w.length (List.drop (0 : Nat) (dque l).w))
  (List.take (dque l).h.length (List.drop (0 : Nat) (dque l).h))
  (List.take (dque l).d.length (List.drop (0 : Nat) (dque l).d))).offO.fst.d.length
  (List.drop (0 : Nat)
  (Que.mk (dque l).c (dque l).r (dque l).n
  (List.take (dque l).w.length (List.drop (0 : Nat) (dque l).w))
  (List.take (dque l).h.length (List.drop (0 : Nat) (dque l).h))
  (List.take (dque l).d.length (List.drop (0 : Nat) (dque l).d))).offO.fst.d)))
  (some (V.b false, []))
  (ifB
  (decide
  ((Que.mk (dque l).c (dque l).r (dque l).n
  (List.take (dque l).w.length (List.drop (0 : Nat) (dque l).w))
  (List.take (dque l).h.length (List.drop (0 : Nat) (dque l).h))
  (List.take (dque l).d.length (List.drop (0 : Nat) (dque l).d))).offO.snd.fst ≥
  (0 : Int)))
  (ifB ((dque l).r == (1 : Int))
  (ifT (decide ((0 : Int) ≤ (0 : Int)) && decide ((0 : Int) < (↑(dque l).w.length : Int)))
  (ifSome (dque l).w[(0 : Nat)]? fun z =>
  ifB
  ((Que.mk (dque l).c (dque l).r (dque l).n
  (List.take (dque l).w.length (List.drop (0 : Nat) (dque l).w))
  (List.take (dque l).h.length (List.drop (0 : Nat) (dque l).h))
  (List.take (dque l).d.length (List.drop (0 : Nat) (dque l).d))).offO.snd.fst !=
  z)
  (some (V.b false, []))
  (ifB
  ((↑(Que.mk (dque l).c (dque l).r (dque l).n
  (List.take (dque l).w.length (List.drop (0 : Nat) (dque l).w))
  (List.take (dque l).h.length (List.drop (0 : Nat) (dque l).h))
  (List.take (dque l).d.length
  (List.drop (0 : Nat) (dque l).d))).offO.fst.d.length :
  Int) !=
  IntKind.i64.wrap ((↑(dque l).d.length : Int) + (1 : Int)))
  (some (V.b false, []))
  (ifT (decide ((Cur.mk r (0 : Int) (0 : Int)).good (0 : Int)))
  (ifT (decide ((Cur.mk r (0 : Int) (0 : Int)).good (0 : Int)))
  (ifB
  (!(Que.mk (dque r).c (dque r).r (dque r).n
  (List.take (dque r).w.length (List.drop (0 : Nat) (dque r).w))
  (List.take (dque r).h.length (List.drop (0 : Nat) (dque r).h))
  (List.take (dque r).d.length
  (List.drop (0 : Nat) (dque r).d))).hndO.snd.snd ==
  (Que.mk (dque r).c (dque r).r (dque r).n
  (List.take (dque r).w.length (List.drop (0 : Nat) (dque r).w))
  (List.take (dque r).h.length (List.drop (0 : Nat) (dque r).h))
  (List.take (dque r).d.length
  (List.drop (0 : Nat) (dque r).d))).hndO.snd.snd)
  (some (V.b false, []))
  (ifB
  ((Que.mk (dque r).c (dque r).r (dque r).n
  (List.take (dque r).w.length (List.drop (0 : Nat) (dque r).w))
  (List.take (dque r).h.length (List.drop (0 : Nat) (dque r).h))
  (List.take (dque r).d.length
  (List.drop (0 : Nat) (dque r).d))).hndO.snd.fst !=
  (Que.mk (dque r).c (dque r).r (dque r).n
  (List.take (dque r).w.length (List.drop (0 : Nat) (dque r).w))
  (List.take (dque r).h.length (List.drop (0 : Nat) (dque r).h))
  (List.take (dque r).d.length
  (List.drop (0 : Nat) (dque r).d))).hndO.snd.fst)
  (some (V.b false, []))
  (ifB
  (!decide
  ((Que.mk (dque r).c (dque r).r (dque r).n
  (List.take (dque r).w.length (List.drop (0 : Nat) (dque r).w))
  (List.take (dque r).h.length (List.drop (0 : Nat) (dque r).h))
  (List.take (dque r).d.length
  (List.drop (0 : Nat) (dque r).d))).hndO.fst.c =
  (Que.mk (dque r).c (dque r).r (dque r).n
  (List.take (dque r).w.length (List.drop (0 : Nat) (dque r).w))
  (List.take (dque r).h.length (List.drop (0 : Nat) (dque r).h))
  (List.take (dque r).d.length
  (List.drop (0 : Nat) (dque r).d))).hndO.fst.c ∧
  (Que.mk (dque r).c (dque r).r (dque r).n
  (List.take (dque r).w.length
  (List.drop (0 : Nat) (dque r).w))
  (List.take (dque r).h.length
  (List.drop (0 : Nat) (dque r).h))
  (List.take (dque r).d.length
  (List.drop (0 : Nat) (dque r).d))).hndO.fst.r =
  (Que.mk (dque r).c (dque r).r (dque r).n
  (List.take (dque r).w.length
  (List.drop (0 : Nat) (dque r).w))
  (List.take (dque r).h.length
  (List.drop (0 : Nat) (dque r).h))
  (List.take (dque r).d.length
  (List.drop (0 : Nat) (dque r).d))).hndO.fst.r ∧
  (Que.mk (dque r).c (dque r).r (dque r).n
  (List.take (dque r).w.length
  (List.drop (0 : Nat) (dque r).w))
  (List.take (dque r).h.length
  (List.drop (0 : Nat) (dque r).h))
  (List.take (dque r).d.length
  (List.drop (0 : Nat) (dque r).d))).hndO.fst.n =
  (Que.mk (dque r).c (dque r).r (dque r).n
  (List.take (dque r).w.length
  (List.drop (0 : Nat) (dque r).w))
  (List.take (dque r).h.length
  (List.drop (0 : Nat) (dque r).h))
  (List.take (dque r).d.length
  (List.drop (0 : Nat) (dque r).d))).hndO.fst.n ∧
  List.take
  (Que.mk (dque r).c (dque r).r (dque r).n
  (List.take (dque r).w.length
  (List.drop (0 : Nat) (dque r).w))
  (List.take (dque r).h.length
  (List.drop (0 : Nat) (dque r).h))
  (List.take (dque r).d.length
  (List.drop (0 : Nat)
  (dque r).d))).hndO.fst.w.length
  (List.drop
  (Que.mk (dque r).c (dque r).r (dque r).n
  (List.take (dque r).w.length
  (List.drop (0 : Nat) (dque r).w))
  (List.take (dque r).h.length
  (List.drop (0 : Nat) (dque r).h))
  (List.take (dque r).d.length
  (List.drop (0 : Nat) (dque r).d))).hndP
  (Que.mk (dque r).c (dque r).r (dque r).n
  (List.take (dque r).w.length
  (List.drop (0 : Nat) (dque r).w))
  (List.take (dque r).h.length
  (List.drop (0 : Nat) (dque r).h))
  (List.take (dque r).d.length
  (List.drop (0 : Nat) (dque r).d))).hndR) =
  List.take
  (Que.mk (dque r).c (dque r).r (dque r).n
  (List.take (dque r).w.length
  (List.drop (0 : Nat) (dque r).w))
  (List.take (dque r).h.length
  (List.drop (0 : Nat) (dque r).h))
  (List.take (dque r).d.length
  (List.drop (0 : Nat)
  (dque r).d))).hndO.fst.w.length
  (List.drop (0 : Nat)
  (Que.mk (dque r).c (dque r).r (dque r).n
  (List.take (dque r).w.length
  (List.drop (0 : Nat) (dque r).w))
  (List.take (dque r).h.length
  (List.drop (0 : Nat) (dque r).h))
  (List.take (dque r).d.length
  (List.drop (0 : Nat) (dque r).d))).hndO.fst.w) ∧
  List.take
  (Que.mk (dque r).c (dque r).r (dque r).n
  (List.take (dque r).w.length
  (List.drop (0 : Nat) (dque r).w))
  (List.take (dque r).h.length
  (List.drop (0 : Nat) (dque r).h))
  (List.take (dque r).d.length
  (List.drop (0 : Nat)
  (dque r).d))).hndO.fst.h.length
  (List.drop (0 : Nat)
  (Que.mk (dque r).c (dque r).r (dque r).n
  (List.take (dque r).w.length
  (List.drop (0 : Nat) (dque r).w))
  (List.take (dque r).h.length
  (List.drop (0 : Nat) (dque r).h))
  (List.take (dque r).d.length
  (List.drop (0 : Nat) (dque r).d))).hndO.fst.h) =
  List.take
  (Que.mk (dque r).c (dque r).r (dque r).n
  (List.take (dque r).w.length
  (List.drop (0 : Nat) (dque r).w))
  (List.take (dque r).h.length
  (List.drop (0 : Nat) (dque r).h))
  (List.take (dque r).d.length
  (List.drop (0 : Nat)
  (dque r).d))).hndO.fst.h.length
  (List.drop (0 : Nat)
  (Que.mk (dque r).c (dque r).r (dque r).n
  (List.take (dque r).w.length
  (List.drop (0 : Nat) (dque r).w))
  (List.take (dque r).h.length
  (List.drop (0 : Nat) (dque r).h))
  (List.take (dque r).d.length
  (List.drop (0 : Nat) (dque r).d))).hndO.fst.h) ∧
  List.take
  (Que.mk (dque r).c (dque r).r (dque r).n
  (List.take (dque r).w.length
  (List.drop (0 : Nat) (dque r).w))
  (List.take (dque r).h.length
  (List.drop (0 : Nat) (dque r).h))
  (List.take (dque r).d.length
  (List.drop (0 : Nat)
  (dque r).d))).hndO.fst.d.length
  (List.drop (0 : Nat)
  (Que.mk (dque r).c (dque r).r (dque r).n
  (List.take (dque r).w.length
  (List.drop (0 : Nat) (dque r).w))
  (List.take (dque r).h.length
  (List.drop (0 : Nat) (dque r).h))
  (List.take (dque r).d.length
  (List.drop (0 : Nat) (dque r).d))).hndO.fst.d) =
  List.take
  (Que.mk (dque r).c (dque r).r (dque r).n
  (List.take (dque r).w.length
  (List.drop (0 : Nat) (dque r).w))
  (List.take (dque r).h.length
  (List.drop (0 : Nat) (dque r).h))
  (List.take (dque r).d.length
  (List.drop (0 : Nat)
  (dque r).d))).hndO.fst.d.length
  (List.drop (0 : Nat)
  (Que.mk (dque r).c (dque r).r (dque r).n
  (List.take (dque r).w.length
  (List.drop (0 : Nat) (dque r).w))
  (List.take (dque r).h.length
  (List.drop (0 : Nat) (dque r).h))
  (List.take (dque r).d.length
  (List.drop (0 : Nat) (dque r).d))).hndO.fst.d)))
  (some (V.b false, []))
  (ifB
  (!(Que.mk (dque r).c (dque r).r (dque r).n
  (List.take (dque r).w.length (List.drop (0 : Nat) (dque r).w))
  (List.take (dque r).h.length (List.drop (0 : Nat) (dque r).h))
  (List.take (dque r).d.length
  (List.drop (0 : Nat) (dque r).d))).gapsO.snd ==
  (Que.mk (dque r).c (dque r).r (dque r).n
  (List.take (dque r).w.length (List.drop (0 : Nat) (dque r).w))
  (List.take (dque r).h.length (List.drop (0 : Nat) (dque r).h))
  (List.take (dque r).d.length
  (List.drop (0 : Nat) (dque r).d))).gapsO.snd)
  (some (V.b false, []))
  (ifB
  ((Que.mk (dque r).c (dque r).r (dque r).n
  (List.take (dque r).w.length (List.drop (0 : Nat) (dque r).w))
  (List.take (dque r).h.length (List.drop (0 : Nat) (dque r).h))
  (List.take (dque r).d.length
  (List.drop (0 : Nat) (dque r).d))).gapsO.fst !=
  (Que.mk (dque r).c (dque r).r (dque r).n
  (List.take (dque r).w.length (List.drop (0 : Nat) (dque r).w))
  (List.take (dque r).h.length (List.drop (0 : Nat) (dque r).h))
  (List.take (dque r).d.length
  (List.drop (0 : Nat) (dque r).d))).gapsO.fst)
  (some (V.b false, []))
  (ifB
  (!((Que.mk (dque r).c (dque r).r (dque r).n
  (List.take (dque r).w.length
  (List.drop (0 : Nat) (dque r).w))
  (List.take (dque r).h.length
  (List.drop (0 : Nat) (dque r).h))
  (List.take (dque r).d.length
  (List.drop (0 : Nat) (dque r).d))).whereO
  (dno r)).snd ==
  ((Que.mk (dque r).c (dque r).r (dque r).n
  (List.take (dque r).w.length
  (List.drop (0 : Nat) (dque r).w))
  (List.take (dque r).h.length
  (List.drop (0 : Nat) (dque r).h))
  (List.take (dque r).d.length
  (List.drop (0 : Nat) (dque r).d))).whereO
  (dno r)).snd)
  (some (V.b false, []))
  (ifB
  (((Que.mk (dque r).c (dque r).r (dque r).n
  (List.take (dque r).w.length
  (List.drop (0 : Nat) (dque r).w))
  (List.take (dque r).h.length
  (List.drop (0 : Nat) (dque r).h))
  (List.take (dque r).d.length
  (List.drop (0 : Nat) (dque r).d))).whereO
  (dno r)).fst !=
  ((Que.mk (dque r).c (dque r).r (dque r).n
  (List.take (dque r).w.length
  (List.drop (0 : Nat) (dque r).w))
  (List.take (dque r).h.length
  (List.drop (0 : Nat) (dque r).h))
  (List.take (dque r).d.length
  (List.drop (0 : Nat) (dque r).d))).whereO
  (dno r)).fst)
  (some (V.b false, []))
  (ifB
  (!(Que.mk (dque r).c (dque r).r (dque r).n
  (List.take (dque r).w.length
  (List.drop (0 : Nat) (dque r).w))
  (List.take (dque r).h.length
  (List.drop (0 : Nat) (dque r).h))
  (List.take (dque r).d.length
  (List.drop (0 : Nat) (dque r).d))).hndO.snd.snd)
  (some (V.b true, []))
  (ifT
  (decide ((0 : Int) ≤ (0 : Int)) &&
  decide ((0 : Int) < (↑(dque r).w.length : Int)))
  (ifSome (dque r).w[(0 : Nat)]? fun z =>
  ifB
  ((Que.mk (dque r).c (dque r).r (dque r).n
  (List.take (dque r).w.length
  (List.drop (0 : Nat) (dque r).w))
  (List.take (dque r).h.length
  (List.drop (0 : Nat) (dque r).h))
  (List.take (dque r).d.length
  (List.drop (0 : Nat) (dque r).d))).hndO.snd.fst ==
  z)
  (some
  (V.b
  (goodQ
  (Que.mk (dque r).c (dque r).r (dque r).n
  (List.take (dque r).w.length
  (List.drop (0 : Nat) (dque r).w))
  (List.take (dque r).h.length
  (List.drop (0 : Nat) (dque r).h))
  (List.take (dque r).d.length
  (List.drop (0 : Nat)
  (dque r).d))).hndO.fst.c
  (Que.mk (dque r).c (dque r).r (dque r).n
  (List.take (dque r).w.length
  (List.drop (0 : Nat) (dque r).w))
  (List.take (dque r).h.length
  (List.drop (0 : Nat) (dque r).h))
  (List.take (dque r).d.length
  (List.drop (0 : Nat)
  (dque r).d))).hndO.fst.r
  (Que.mk (dque r).c (dque r).r (dque r).n
  (List.take (dque r).w.length
  (List.drop (0 : Nat) (dque r).w))
  (List.take (dque r).h.length
  (List.drop (0 : Nat) (dque r).h))
  (List.take (dque r).d.length
  (List.drop (0 : Nat)
  (dque r).d))).hndO.fst.n
  (List.take
  (Que.mk (dque r).c (dque r).r (dque r).n
  (List.take (dque r).w.length
  (List.drop (0 : Nat) (dque r).w))
  (List.take (dque r).h.length
  (List.drop (0 : Nat) (dque r).h))
  (List.take (dque r).d.length
  (List.drop (0 : Nat)
  (dque r).d))).hndO.fst.w.length
  (List.drop
  (Que.mk (dque r).c (dque r).r (dque r).n
  (List.take (dque r).w.length
  (List.drop (0 : Nat) (dque r).w))
  (List.take (dque r).h.length
  (List.drop (0 : Nat) (dque r).h))
  (List.take (dque r).d.length
  (List.drop (0 : Nat) (dque r).d))).hndP
  (Que.mk (dque r).c (dque r).r (dque r).n
  (List.take (dque r).w.length
  (List.drop (0 : Nat) (dque r).w))
  (List.take (dque r).h.length
  (List.drop (0 : Nat) (dque r).h))
  (List.take (dque r).d.length
  (List.drop (0 : Nat) (dque r).d))).hndR))
  (List.take
  (Que.mk (dque r).c (dque r).r (dque r).n
  (List.take (dque r).w.length
  (List.drop (0 : Nat) (dque r).w))
  (List.take (dque r).h.length
  (List.drop (0 : Nat) (dque r).h))
  (List.take (dque r).d.length
  (List.drop (0 : Nat)
  (dque r).d))).hndO.fst.h.length
  (List.drop (0 : Nat)
  (Que.mk (dque r).c (dque r).r (dque r).n
  (List.take (dque r).w.length
  (List.drop (0 : Nat) (dque r).w))
  (List.take (dque r).h.length
  (List.drop (0 : Nat) (dque r).h))
  (List.take (dque r).d.length
  (List.drop (0 : Nat)
  (dque r).d))).hndO.fst.h))
  (List.take
  (Que.mk (dque r).c (dque r).r (dque r).n
  (List.take (dque r).w.length
  (List.drop (0 : Nat) (dque r).w))
  (List.take (dque r).h.length
  (List.drop (0 : Nat) (dque r).h))
  (List.take (dque r).d.length
  (List.drop (0 : Nat)
  (dque r).d))).hndO.fst.d.length
  (List.drop (0 : Nat)
  (Que.mk (dque r).c (dque r).r (dque r).n
  (List.take (dque r).w.length
  (List.drop (0 : Nat) (dque r).w))
  (List.take (dque r).h.length
  (List.drop (0 : Nat) (dque r).h))
  (List.take (dque r).d.length
  (List.drop (0 : Nat)
  (dque r).d))).hndO.fst.d))),
  []))
  (some (V.b false, [])))))))))))))))))
  (ifB ((dque l).r == (2 : Int))
  (ifT
  (decide ((0 : Int) ≤ IntKind.i64.wrap ((↑(dque l).w.length : Int) - (1 : Int))) &&
  decide
  (IntKind.i64.wrap ((↑(dque l).w.length : Int) - (1 : Int)) <
  (↑(dque l).w.length : Int)))
  (ifSome
  (dque l).w[(0 : Nat) + (IntKind.i64.wrap ((↑(dque l).w.length : Int) - (1 : Int))).toNat]?
  fun z =>
  ifB
  ((Que.mk (dque l).c (dque l).r (dque l).n
  (List.take (dque l).w.length (List.drop (0 : Nat) (dque l).w))
  (List.take (dque l).h.length (List.drop (0 : Nat) (dque l).h))
  (List.take (dque l).d.length
  (List.drop (0 : Nat) (dque l).d))).offO.snd.fst !=
  z)
  (some (V.b false, []))
  (ifB
  ((↑(Que.mk (dque l).c (dque l).r (dque l).n
  (List.take (dque l).w.length (List.drop (0 : Nat) (dque l).w))
  (List.take (dque l).h.length (List.drop (0 : Nat) (dque l).h))
  (List.take (dque l).d.length
  (List.drop (0 : Nat) (dque l).d))).offO.fst.d.length :
  Int) !=
  IntKind.i64.wrap ((↑(dque l).d.length : Int) + (1 : Int)))
  (some (V.b false, []))
  (ifT (decide ((Cur.mk r (0 : Int) (0 : Int)).good (0 : Int)))
  (ifT (decide ((Cur.mk r (0 : Int) (0 : Int)).good (0 : Int)))
  (ifB
  (!(Que.mk (dque r).c (dque r).r (dque r).n
  (List.take (dque r).w.length (List.drop (0 : Nat) (dque r).w))
  (List.take (dque r).h.length (List.drop (0 : Nat) (dque r).h))
  (List.take (dque r).d.length
  (List.drop (0 : Nat) (dque r).d))).hndO.snd.snd ==
  (Que.mk (dque r).c (dque r).r (dque r).n
  (List.take (dque r).w.length (List.drop (0 : Nat) (dque r).w))
  (List.take (dque r).h.length (List.drop (0 : Nat) (dque r).h))
  (List.take (dque r).d.length
  (List.drop (0 : Nat) (dque r).d))).hndO.snd.snd)
  (some (V.b false, []))
  (ifB
  ((Que.mk (dque r).c (dque r).r (dque r).n
  (List.take (dque r).w.length (List.drop (0 : Nat) (dque r).w))
  (List.take (dque r).h.length (List.drop (0 : Nat) (dque r).h))
  (List.take (dque r).d.length
  (List.drop (0 : Nat) (dque r).d))).hndO.snd.fst !=
  (Que.mk (dque r).c (dque r).r (dque r).n
  (List.take (dque r).w.length (List.drop (0 : Nat) (dque r).w))
  (List.take (dque r).h.length (List.drop (0 : Nat) (dque r).h))
  (List.take (dque r).d.length
  (List.drop (0 : Nat) (dque r).d))).hndO.snd.fst)
  (some (V.b false, []))
  (ifB
  (!decide
  ((Que.mk (dque r).c (dque r).r (dque r).n
  (List.take (dque r).w.length
  (List.drop (0 : Nat) (dque r).w))
  (List.take (dque r).h.length
  (List.drop (0 : Nat) (dque r).h))
  (List.take (dque r).d.length
  (List.drop (0 : Nat) (dque r).d))).hndO.fst.c =
  (Que.mk (dque r).c (dque r).r (dque r).n
  (List.take (dque r).w.length
  (List.drop (0 : Nat) (dque r).w))
  (List.take (dque r).h.length
  (List.drop (0 : Nat) (dque r).h))
  (List.take (dque r).d.length
  (List.drop (0 : Nat) (dque r).d))).hndO.fst.c ∧
  (Que.mk (dque r).c (dque r).r (dque r).n
  (List.take (dque r).w.length
  (List.drop (0 : Nat) (dque r).w))
  (List.take (dque r).h.length
  (List.drop (0 : Nat) (dque r).h))
  (List.take (dque r).d.length
  (List.drop (0 : Nat) (dque r).d))).hndO.fst.r =
  (Que.mk (dque r).c (dque r).r (dque r).n
  (List.take (dque r).w.length
  (List.drop (0 : Nat) (dque r).w))
  (List.take (dque r).h.length
  (List.drop (0 : Nat) (dque r).h))
  (List.take (dque r).d.length
  (List.drop (0 : Nat) (dque r).d))).hndO.fst.r ∧
  (Que.mk (dque r).c (dque r).r (dque r).n
  (List.take (dque r).w.length
  (List.drop (0 : Nat) (dque r).w))
  (List.take (dque r).h.length
  (List.drop (0 : Nat) (dque r).h))
  (List.take (dque r).d.length
  (List.drop (0 : Nat) (dque r).d))).hndO.fst.n =
  (Que.mk (dque r).c (dque r).r (dque r).n
  (List.take (dque r).w.length
  (List.drop (0 : Nat) (dque r).w))
  (List.take (dque r).h.length
  (List.drop (0 : Nat) (dque r).h))
  (List.take (dque r).d.length
  (List.drop (0 : Nat) (dque r).d))).hndO.fst.n ∧
  List.take
  (Que.mk (dque r).c (dque r).r (dque r).n
  (List.take (dque r).w.length
  (List.drop (0 : Nat) (dque r).w))
  (List.take (dque r).h.length
  (List.drop (0 : Nat) (dque r).h))
  (List.take (dque r).d.length
  (List.drop (0 : Nat)
  (dque r).d))).hndO.fst.w.length
  (List.drop
  (Que.mk (dque r).c (dque r).r (dque r).n
  (List.take (dque r).w.length
  (List.drop (0 : Nat) (dque r).w))
  (List.take (dque r).h.length
  (List.drop (0 : Nat) (dque r).h))
  (List.take (dque r).d.length
  (List.drop (0 : Nat) (dque r).d))).hndP
  (Que.mk (dque r).c (dque r).r (dque r).n
  (List.take (dque r).w.length
  (List.drop (0 : Nat) (dque r).w))
  (List.take (dque r).h.length
  (List.drop (0 : Nat) (dque r).h))
  (List.take (dque r).d.length
  (List.drop (0 : Nat) (dque r).d))).hndR) =
  List.take
  (Que.mk (dque r).c (dque r).r (dque r).n
  (List.take (dque r).w.length
  (List.drop (0 : Nat) (dque r).w))
  (List.take (dque r).h.length
  (List.drop (0 : Nat) (dque r).h))
  (List.take (dque r).d.length
  (List.drop (0 : Nat)
  (dque r).d))).hndO.fst.w.length
  (List.drop (0 : Nat)
  (Que.mk (dque r).c (dque r).r (dque r).n
  (List.take (dque r).w.length
  (List.drop (0 : Nat) (dque r).w))
  (List.take (dque r).h.length
  (List.drop (0 : Nat) (dque r).h))
  (List.take (dque r).d.length
  (List.drop (0 : Nat) (dque r).d))).hndO.fst.w) ∧
  List.take
  (Que.mk (dque r).c (dque r).r (dque r).n
  (List.take (dque r).w.length
  (List.drop (0 : Nat) (dque r).w))
  (List.take (dque r).h.length
  (List.drop (0 : Nat) (dque r).h))
  (List.take (dque r).d.length
  (List.drop (0 : Nat)
  (dque r).d))).hndO.fst.h.length
  (List.drop (0 : Nat)
  (Que.mk (dque r).c (dque r).r (dque r).n
  (List.take (dque r).w.length
  (List.drop (0 : Nat) (dque r).w))
  (List.take (dque r).h.length
  (List.drop (0 : Nat) (dque r).h))
  (List.take (dque r).d.length
  (List.drop (0 : Nat)
  (dque r).d))).hndO.fst.h) =
  List.take
  (Que.mk (dque r).c (dque r).r (dque r).n
  (List.take (dque r).w.length
  (List.drop (0 : Nat) (dque r).w))
  (List.take (dque r).h.length
  (List.drop (0 : Nat) (dque r).h))
  (List.take (dque r).d.length
  (List.drop (0 : Nat)
  (dque r).d))).hndO.fst.h.length
  (List.drop (0 : Nat)
  (Que.mk (dque r).c (dque r).r (dque r).n
  (List.take (dque r).w.length
  (List.drop (0 : Nat) (dque r).w))
  (List.take (dque r).h.length
  (List.drop (0 : Nat) (dque r).h))
  (List.take (dque r).d.length
  (List.drop (0 : Nat)
  (dque r).d))).hndO.fst.h) ∧
  List.take
  (Que.mk (dque r).c (dque r).r (dque r).n
  (List.take (dque r).w.length
  (List.drop (0 : Nat) (dque r).w))
  (List.take (dque r).h.length
  (List.drop (0 : Nat) (dque r).h))
  (List.take (dque r).d.length
  (List.drop (0 : Nat)
  (dque r).d))).hndO.fst.d.length
  (List.drop (0 : Nat)
  (Que.mk (dque r).c (dque r).r (dque r).n
  (List.take (dque r).w.length
  (List.drop (0 : Nat) (dque r).w))
  (List.take (dque r).h.length
  (List.drop (0 : Nat) (dque r).h))
  (List.take (dque r).d.length
  (List.drop (0 : Nat)
  (dque r).d))).hndO.fst.d) =
  List.take
  (Que.mk (dque r).c (dque r).r (dque r).n
  (List.take (dque r).w.length
  (List.drop (0 : Nat) (dque r).w))
  (List.take (dque r).h.length
  (List.drop (0 : Nat) (dque r).h))
  (List.take (dque r).d.length
  (List.drop (0 : Nat)
  (dque r).d))).hndO.fst.d.length
  (List.drop (0 : Nat)
  (Que.mk (dque r).c (dque r).r (dque r).n
  (List.take (dque r).w.length
  (List.drop (0 : Nat) (dque r).w))
  (List.take (dque r).h.length
  (List.drop (0 : Nat) (dque r).h))
  (List.take (dque r).d.length
  (List.drop (0 : Nat)
  (dque r).d))).hndO.fst.d)))
  (some (V.b false, []))
  (ifB
  (!(Que.mk (dque r).c (dque r).r (dque r).n
  (List.take (dque r).w.length (List.drop (0 : Nat) (dque r).w))
  (List.take (dque r).h.length (List.drop (0 : Nat) (dque r).h))
  (List.take (dque r).d.length
  (List.drop (0 : Nat) (dque r).d))).gapsO.snd ==
  (Que.mk (dque r).c (dque r).r (dque r).n
  (List.take (dque r).w.length (List.drop (0 : Nat) (dque r).w))
  (List.take (dque r).h.length (List.drop (0 : Nat) (dque r).h))
  (List.take (dque r).d.length
  (List.drop (0 : Nat) (dque r).d))).gapsO.snd)
  (some (V.b false, []))
  (ifB
  ((Que.mk (dque r).c (dque r).r (dque r).n
  (List.take (dque r).w.length (List.drop (0 : Nat) (dque r).w))
  (List.take (dque r).h.length (List.drop (0 : Nat) (dque r).h))
  (List.take (dque r).d.length
  (List.drop (0 : Nat) (dque r).d))).gapsO.fst !=
  (Que.mk (dque r).c (dque r).r (dque r).n
  (List.take (dque r).w.length (List.drop (0 : Nat) (dque r).w))
  (List.take (dque r).h.length (List.drop (0 : Nat) (dque r).h))
  (List.take (dque r).d.length
  (List.drop (0 : Nat) (dque r).d))).gapsO.fst)
  (some (V.b false, []))
  (ifB
  (!((Que.mk (dque r).c (dque r).r (dque r).n
  (List.take (dque r).w.length
  (List.drop (0 : Nat) (dque r).w))
  (List.take (dque r).h.length
  (List.drop (0 : Nat) (dque r).h))
  (List.take (dque r).d.length
  (List.drop (0 : Nat) (dque r).d))).whereO
  (dno r)).snd ==
  ((Que.mk (dque r).c (dque r).r (dque r).n
  (List.take (dque r).w.length
  (List.drop (0 : Nat) (dque r).w))
  (List.take (dque r).h.length
  (List.drop (0 : Nat) (dque r).h))
  (List.take (dque r).d.length
  (List.drop (0 : Nat) (dque r).d))).whereO
  (dno r)).snd)
  (some (V.b false, []))
  (ifB
  (((Que.mk (dque r).c (dque r).r (dque r).n
  (List.take (dque r).w.length
  (List.drop (0 : Nat) (dque r).w))
  (List.take (dque r).h.length
  (List.drop (0 : Nat) (dque r).h))
  (List.take (dque r).d.length
  (List.drop (0 : Nat) (dque r).d))).whereO
  (dno r)).fst !=
  ((Que.mk (dque r).c (dque r).r (dque r).n
  (List.take (dque r).w.length
  (List.drop (0 : Nat) (dque r).w))
  (List.take (dque r).h.length
  (List.drop (0 : Nat) (dque r).h))
  (List.take (dque r).d.length
  (List.drop (0 : Nat) (dque r).d))).whereO
  (dno r)).fst)
  (some (V.b false, []))
  (ifB
  (!(Que.mk (dque r).c (dque r).r (dque r).n
  (List.take (dque r).w.length
  (List.drop (0 : Nat) (dque r).w))
  (List.take (dque r).h.length
  (List.drop (0 : Nat) (dque r).h))
  (List.take (dque r).d.length
  (List.drop (0 : Nat) (dque r).d))).hndO.snd.snd)
  (some (V.b true, []))
  (ifT
  (decide ((0 : Int) ≤ (0 : Int)) &&
  decide ((0 : Int) < (↑(dque r).w.length : Int)))
  (ifSome (dque r).w[(0 : Nat)]? fun z =>
  ifB
  ((Que.mk (dque r).c (dque r).r (dque r).n
  (List.take (dque r).w.length
  (List.drop (0 : Nat) (dque r).w))
  (List.take (dque r).h.length
  (List.drop (0 : Nat) (dque r).h))
  (List.take (dque r).d.length
  (List.drop (0 : Nat)
  (dque r).d))).hndO.snd.fst ==
  z)
  (some
  (V.b
  (goodQ
  (Que.mk (dque r).c (dque r).r (dque r).n
  (List.take (dque r).w.length
  (List.drop (0 : Nat) (dque r).w))
  (List.take (dque r).h.length
  (List.drop (0 : Nat) (dque r).h))
  (List.take (dque r).d.length
  (List.drop (0 : Nat)
  (dque r).d))).hndO.fst.c
  (Que.mk (dque r).c (dque r).r (dque r).n
  (List.take (dque r).w.length
  (List.drop (0 : Nat) (dque r).w))
  (List.take (dque r).h.length
  (List.drop (0 : Nat) (dque r).h))
  (List.take (dque r).d.length
  (List.drop (0 : Nat)
  (dque r).d))).hndO.fst.r
  (Que.mk (dque r).c (dque r).r (dque r).n
  (List.take (dque r).w.length
  (List.drop (0 : Nat) (dque r).w))
  (List.take (dque r).h.length
  (List.drop (0 : Nat) (dque r).h))
  (List.take (dque r).d.length
  (List.drop (0 : Nat)
  (dque r).d))).hndO.fst.n
  (List.take
  (Que.mk (dque r).c (dque r).r (dque r).n
  (List.take (dque r).w.length
  (List.drop (0 : Nat) (dque r).w))
  (List.take (dque r).h.length
  (List.drop (0 : Nat) (dque r).h))
  (List.take (dque r).d.length
  (List.drop (0 : Nat)
  (dque r).d))).hndO.fst.w.length
  (List.drop
  (Que.mk (dque r).c (dque r).r (dque r).n
  (List.take (dque r).w.length
  (List.drop (0 : Nat) (dque r).w))
  (List.take (dque r).h.length
  (List.drop (0 : Nat) (dque r).h))
  (List.take (dque r).d.length
  (List.drop (0 : Nat) (dque r).d))).hndP
  (Que.mk (dque r).c (dque r).r (dque r).n
  (List.take (dque r).w.length
  (List.drop (0 : Nat) (dque r).w))
  (List.take (dque r).h.length
  (List.drop (0 : Nat) (dque r).h))
  (List.take (dque r).d.length
  (List.drop (0 : Nat) (dque r).d))).hndR))
  (List.take
  (Que.mk (dque r).c (dque r).r (dque r).n
  (List.take (dque r).w.length
  (List.drop (0 : Nat) (dque r).w))
  (List.take (dque r).h.length
  (List.drop (0 : Nat) (dque r).h))
  (List.take (dque r).d.length
  (List.drop (0 : Nat)
  (dque r).d))).hndO.fst.h.length
  (List.drop (0 : Nat)
  (Que.mk (dque r).c (dque r).r (dque r).n
  (List.take (dque r).w.length
  (List.drop (0 : Nat) (dque r).w))
  (List.take (dque r).h.length
  (List.drop (0 : Nat) (dque r).h))
  (List.take (dque r).d.length
  (List.drop (0 : Nat)
  (dque r).d))).hndO.fst.h))
  (List.take
  (Que.mk (dque r).c (dque r).r (dque r).n
  (List.take (dque r).w.length
  (List.drop (0 : Nat) (dque r).w))
  (List.take (dque r).h.length
  (List.drop (0 : Nat) (dque r).h))
  (List.take (dque r).d.length
  (List.drop (0 : Nat)
  (dque r).d))).hndO.fst.d.length
  (List.drop (0 : Nat)
  (Que.mk (dque r).c (dque r).r (dque r).n
  (List.take (dque r).w.length
  (List.drop (0 : Nat) (dque r).w))
  (List.take (dque r).h.length
  (List.drop (0 : Nat) (dque r).h))
  (List.take (dque r).d.length
  (List.drop (0 : Nat)
  (dque r).d))).hndO.fst.d))),
  []))
  (some (V.b false, [])))))))))))))))))
  (ifB
  ((Que.mk (dque l).c (dque l).r (dque l).n
  (List.take (dque l).w.length (List.drop (0 : Nat) (dque l).w))
  (List.take (dque l).h.length (List.drop (0 : Nat) (dque l).h))
  (List.take (dque l).d.length (List.drop (0 : Nat) (dque l).d))).offO.snd.fst !=
  (dque l).n)
  (some (V.b false, []))
  (ifB
  ((↑(Que.mk (dque l).c (dque l).r (dque l).n
  (List.take (dque l).w.length (List.drop (0 : Nat) (dque l).w))
  (List.take (dque l).h.length (List.drop (0 : Nat) (dque l).h))
  (List.take (dque l).d.length
  (List.drop (0 : Nat) (dque l).d))).offO.fst.d.length :
  Int) !=
  IntKind.i64.wrap ((↑(dque l).d.length : Int) + (1 : Int)))
  (some (V.b false, []))
  (ifT (decide ((Cur.mk r (0 : Int) (0 : Int)).good (0 : Int)))
  (ifT (decide ((Cur.mk r (0 : Int) (0 : Int)).good (0 : Int)))
  (ifB
  (!(Que.mk (dque r).c (dque r).r (dque r).n
  (List.take (dque r).w.length (List.drop (0 : Nat) (dque r).w))
  (List.take (dque r).h.length (List.drop (0 : Nat) (dque r).h))
  (List.take (dque r).d.length
  (List.drop (0 : Nat) (dque r).d))).hndO.snd.snd ==
  (Que.mk (dque r).c (dque r).r (dque r).n
  (List.take (dque r).w.length (List.drop (0 : Nat) (dque r).w))
  (List.take (dque r).h.length (List.drop (0 : Nat) (dque r).h))
  (List.take (dque r).d.length
  (List.drop (0 : Nat) (dque r).d))).hndO.snd.snd)
  (some (V.b false, []))
  (ifB
  ((Que.mk (dque r).c (dque r).r (dque r).n
  (List.take (dque r).w.length (List.drop (0 : Nat) (dque r).w))
  (List.take (dque r).h.length (List.drop (0 : Nat) (dque r).h))
  (List.take (dque r).d.length
  (List.drop (0 : Nat) (dque r).d))).hndO.snd.fst !=
  (Que.mk (dque r).c (dque r).r (dque r).n
  (List.take (dque r).w.length (List.drop (0 : Nat) (dque r).w))
  (List.take (dque r).h.length (List.drop (0 : Nat) (dque r).h))
  (List.take (dque r).d.length
  (List.drop (0 : Nat) (dque r).d))).hndO.snd.fst)
  (some (V.b false, []))
  (ifB
  (!decide
  ((Que.mk (dque r).c (dque r).r (dque r).n
  (List.take (dque r).w.length (List.drop (0 : Nat) (dque r).w))
  (List.take (dque r).h.length (List.drop (0 : Nat) (dque r).h))
  (List.take (dque r).d.length
  (List.drop (0 : Nat) (dque r).d))).hndO.fst.c =
  (Que.mk (dque r).c (dque r).r (dque r).n
  (List.take (dque r).w.length (List.drop (0 : Nat) (dque r).w))
  (List.take (dque r).h.length (List.drop (0 : Nat) (dque r).h))
  (List.take (dque r).d.length
  (List.drop (0 : Nat) (dque r).d))).hndO.fst.c ∧
  (Que.mk (dque r).c (dque r).r (dque r).n
  (List.take (dque r).w.length (List.drop (0 : Nat) (dque r).w))
  (List.take (dque r).h.length (List.drop (0 : Nat) (dque r).h))
  (List.take (dque r).d.length
  (List.drop (0 : Nat) (dque r).d))).hndO.fst.r =
  (Que.mk (dque r).c (dque r).r (dque r).n
  (List.take (dque r).w.length (List.drop (0 : Nat) (dque r).w))
  (List.take (dque r).h.length (List.drop (0 : Nat) (dque r).h))
  (List.take (dque r).d.length
  (List.drop (0 : Nat) (dque r).d))).hndO.fst.r ∧
  (Que.mk (dque r).c (dque r).r (dque r).n
  (List.take (dque r).w.length
  (List.drop (0 : Nat) (dque r).w))
  (List.take (dque r).h.length
  (List.drop (0 : Nat) (dque r).h))
  (List.take (dque r).d.length
  (List.drop (0 : Nat) (dque r).d))).hndO.fst.n =
  (Que.mk (dque r).c (dque r).r (dque r).n
  (List.take (dque r).w.length
  (List.drop (0 : Nat) (dque r).w))
  (List.take (dque r).h.length
  (List.drop (0 : Nat) (dque r).h))
  (List.take (dque r).d.length
  (List.drop (0 : Nat) (dque r).d))).hndO.fst.n ∧
  List.take
  (Que.mk (dque r).c (dque r).r (dque r).n
  (List.take (dque r).w.length
  (List.drop (0 : Nat) (dque r).w))
  (List.take (dque r).h.length
  (List.drop (0 : Nat) (dque r).h))
  (List.take (dque r).d.length
  (List.drop (0 : Nat) (dque r).d))).hndO.fst.w.length
  (List.drop
  (Que.mk (dque r).c (dque r).r (dque r).n
  (List.take (dque r).w.length
  (List.drop (0 : Nat) (dque r).w))
  (List.take (dque r).h.length
  (List.drop (0 : Nat) (dque r).h))
  (List.take (dque r).d.length
  (List.drop (0 : Nat) (dque r).d))).hndP
  (Que.mk (dque r).c (dque r).r (dque r).n
  (List.take (dque r).w.length
  (List.drop (0 : Nat) (dque r).w))
  (List.take (dque r).h.length
  (List.drop (0 : Nat) (dque r).h))
  (List.take (dque r).d.length
  (List.drop (0 : Nat) (dque r).d))).hndR) =
  List.take
  (Que.mk (dque r).c (dque r).r (dque r).n
  (List.take (dque r).w.length
  (List.drop (0 : Nat) (dque r).w))
  (List.take (dque r).h.length
  (List.drop (0 : Nat) (dque r).h))
  (List.take (dque r).d.length
  (List.drop (0 : Nat) (dque r).d))).hndO.fst.w.length
  (List.drop (0 : Nat)
  (Que.mk (dque r).c (dque r).r (dque r).n
  (List.take (dque r).w.length
  (List.drop (0 : Nat) (dque r).w))
  (List.take (dque r).h.length
  (List.drop (0 : Nat) (dque r).h))
  (List.take (dque r).d.length
  (List.drop (0 : Nat) (dque r).d))).hndO.fst.w) ∧
  List.take
  (Que.mk (dque r).c (dque r).r (dque r).n
  (List.take (dque r).w.length
  (List.drop (0 : Nat) (dque r).w))
  (List.take (dque r).h.length
  (List.drop (0 : Nat) (dque r).h))
  (List.take (dque r).d.length
  (List.drop (0 : Nat)
  (dque r).d))).hndO.fst.h.length
  (List.drop (0 : Nat)
  (Que.mk (dque r).c (dque r).r (dque r).n
  (List.take (dque r).w.length
  (List.drop (0 : Nat) (dque r).w))
  (List.take (dque r).h.length
  (List.drop (0 : Nat) (dque r).h))
  (List.take (dque r).d.length
  (List.drop (0 : Nat) (dque r).d))).hndO.fst.h) =
  List.take
  (Que.mk (dque r).c (dque r).r (dque r).n
  (List.take (dque r).w.length
  (List.drop (0 : Nat) (dque r).w))
  (List.take (dque r).h.length
  (List.drop (0 : Nat) (dque r).h))
  (List.take (dque r).d.length
  (List.drop (0 : Nat)
  (dque r).d))).hndO.fst.h.length
  (List.drop (0 : Nat)
  (Que.mk (dque r).c (dque r).r (dque r).n
  (List.take (dque r).w.length
  (List.drop (0 : Nat) (dque r).w))
  (List.take (dque r).h.length
  (List.drop (0 : Nat) (dque r).h))
  (List.take (dque r).d.length
  (List.drop (0 : Nat) (dque r).d))).hndO.fst.h) ∧
  List.take
  (Que.mk (dque r).c (dque r).r (dque r).n
  (List.take (dque r).w.length
  (List.drop (0 : Nat) (dque r).w))
  (List.take (dque r).h.length
  (List.drop (0 : Nat) (dque r).h))
  (List.take (dque r).d.length
  (List.drop (0 : Nat)
  (dque r).d))).hndO.fst.d.length
  (List.drop (0 : Nat)
  (Que.mk (dque r).c (dque r).r (dque r).n
  (List.take (dque r).w.length
  (List.drop (0 : Nat) (dque r).w))
  (List.take (dque r).h.length
  (List.drop (0 : Nat) (dque r).h))
  (List.take (dque r).d.length
  (List.drop (0 : Nat) (dque r).d))).hndO.fst.d) =
  List.take
  (Que.mk (dque r).c (dque r).r (dque r).n
  (List.take (dque r).w.length
  (List.drop (0 : Nat) (dque r).w))
  (List.take (dque r).h.length
  (List.drop (0 : Nat) (dque r).h))
  (List.take (dque r).d.length
  (List.drop (0 : Nat)
  (dque r).d))).hndO.fst.d.length
  (List.drop (0 : Nat)
  (Que.mk (dque r).c (dque r).r (dque r).n
  (List.take (dque r).w.length
  (List.drop (0 : Nat) (dque r).w))
  (List.take (dque r).h.length
  (List.drop (0 : Nat) (dque r).h))
  (List.take (dque r).d.length
  (List.drop (0 : Nat) (dque r).d))).hndO.fst.d)))
  (some (V.b false, []))
  (ifB
  (!(Que.mk (dque r).c (dque r).r (dque r).n
  (List.take (dque r).w.length (List.drop (0 : Nat) (dque r).w))
  (List.take (dque r).h.length (List.drop (0 : Nat) (dque r).h))
  (List.take (dque r).d.length
  (List.drop (0 : Nat) (dque r).d))).gapsO.snd ==
  (Que.mk (dque r).c (dque r).r (dque r).n
  (List.take (dque r).w.length (List.drop (0 : Nat) (dque r).w))
  (List.take (dque r).h.length (List.drop (0 : Nat) (dque r).h))
  (List.take (dque r).d.length
  (List.drop (0 : Nat) (dque r).d))).gapsO.snd)
  (some (V.b false, []))
  (ifB
  ((Que.mk (dque r).c (dque r).r (dque r).n
  (List.take (dque r).w.length (List.drop (0 : Nat) (dque r).w))
  (List.take (dque r).h.length (List.drop (0 : Nat) (dque r).h))
  (List.take (dque r).d.length
  (List.drop (0 : Nat) (dque r).d))).gapsO.fst !=
  (Que.mk (dque r).c (dque r).r (dque r).n
  (List.take (dque r).w.length (List.drop (0 : Nat) (dque r).w))
  (List.take (dque r).h.length (List.drop (0 : Nat) (dque r).h))
  (List.take (dque r).d.length
  (List.drop (0 : Nat) (dque r).d))).gapsO.fst)
  (some (V.b false, []))
  (ifB
  (!((Que.mk (dque r).c (dque r).r (dque r).n
  (List.take (dque r).w.length (List.drop (0 : Nat) (dque r).w))
  (List.take (dque r).h.length (List.drop (0 : Nat) (dque r).h))
  (List.take (dque r).d.length
  (List.drop (0 : Nat) (dque r).d))).whereO
  (dno r)).snd ==
  ((Que.mk (dque r).c (dque r).r (dque r).n
  (List.take (dque r).w.length (List.drop (0 : Nat) (dque r).w))
  (List.take (dque r).h.length (List.drop (0 : Nat) (dque r).h))
  (List.take (dque r).d.length
  (List.drop (0 : Nat) (dque r).d))).whereO
  (dno r)).snd)
  (some (V.b false, []))
  (ifB
  (((Que.mk (dque r).c (dque r).r (dque r).n
  (List.take (dque r).w.length (List.drop (0 : Nat) (dque r).w))
  (List.take (dque r).h.length (List.drop (0 : Nat) (dque r).h))
  (List.take (dque r).d.length
  (List.drop (0 : Nat) (dque r).d))).whereO
  (dno r)).fst !=
  ((Que.mk (dque r).c (dque r).r (dque r).n
  (List.take (dque r).w.length (List.drop (0 : Nat) (dque r).w))
  (List.take (dque r).h.length (List.drop (0 : Nat) (dque r).h))
  (List.take (dque r).d.length
  (List.drop (0 : Nat) (dque r).d))).whereO
  (dno r)).fst)
  (some (V.b false, []))
  (ifB
  (!(Que.mk (dque r).c (dque r).r (dque r).n
  (List.take (dque r).w.length
  (List.drop (0 : Nat) (dque r).w))
  (List.take (dque r).h.length
  (List.drop (0 : Nat) (dque r).h))
  (List.take (dque r).d.length
  (List.drop (0 : Nat) (dque r).d))).hndO.snd.snd)
  (some (V.b true, []))
  (ifT
  (decide ((0 : Int) ≤ (0 : Int)) &&
  decide ((0 : Int) < (↑(dque r).w.length : Int)))
  (ifSome (dque r).w[(0 : Nat)]? fun z =>
  ifB
  ((Que.mk (dque r).c (dque r).r (dque r).n
  (List.take (dque r).w.length
  (List.drop (0 : Nat) (dque r).w))
  (List.take (dque r).h.length
  (List.drop (0 : Nat) (dque r).h))
  (List.take (dque r).d.length
  (List.drop (0 : Nat) (dque r).d))).hndO.snd.fst ==
  z)
  (some
  (V.b
  (goodQ
  (Que.mk (dque r).c (dque r).r (dque r).n
  (List.take (dque r).w.length
  (List.drop (0 : Nat) (dque r).w))
  (List.take (dque r).h.length
  (List.drop (0 : Nat) (dque r).h))
  (List.take (dque r).d.length
  (List.drop (0 : Nat) (dque r).d))).hndO.fst.c
  (Que.mk (dque r).c (dque r).r (dque r).n
  (List.take (dque r).w.length
  (List.drop (0 : Nat) (dque r).w))
  (List.take (dque r).h.length
  (List.drop (0 : Nat) (dque r).h))
  (List.take (dque r).d.length
  (List.drop (0 : Nat) (dque r).d))).hndO.fst.r
  (Que.mk (dque r).c (dque r).r (dque r).n
  (List.take (dque r).w.length
  (List.drop (0 : Nat) (dque r).w))
  (List.take (dque r).h.length
  (List.drop (0 : Nat) (dque r).h))
  (List.take (dque r).d.length
  (List.drop (0 : Nat) (dque r).d))).hndO.fst.n
  (List.take
  (Que.mk (dque r).c (dque r).r (dque r).n
  (List.take (dque r).w.length
  (List.drop (0 : Nat) (dque r).w))
  (List.take (dque r).h.length
  (List.drop (0 : Nat) (dque r).h))
  (List.take (dque r).d.length
  (List.drop (0 : Nat)
  (dque r).d))).hndO.fst.w.length
  (List.drop
  (Que.mk (dque r).c (dque r).r (dque r).n
  (List.take (dque r).w.length
  (List.drop (0 : Nat) (dque r).w))
  (List.take (dque r).h.length
  (List.drop (0 : Nat) (dque r).h))
  (List.take (dque r).d.length
  (List.drop (0 : Nat) (dque r).d))).hndP
  (Que.mk (dque r).c (dque r).r (dque r).n
  (List.take (dque r).w.length
  (List.drop (0 : Nat) (dque r).w))
  (List.take (dque r).h.length
  (List.drop (0 : Nat) (dque r).h))
  (List.take (dque r).d.length
  (List.drop (0 : Nat) (dque r).d))).hndR))
  (List.take
  (Que.mk (dque r).c (dque r).r (dque r).n
  (List.take (dque r).w.length
  (List.drop (0 : Nat) (dque r).w))
  (List.take (dque r).h.length
  (List.drop (0 : Nat) (dque r).h))
  (List.take (dque r).d.length
  (List.drop (0 : Nat)
  (dque r).d))).hndO.fst.h.length
  (List.drop (0 : Nat)
  (Que.mk (dque r).c (dque r).r (dque r).n
  (List.take (dque r).w.length
  (List.drop (0 : Nat) (dque r).w))
  (List.take (dque r).h.length
  (List.drop (0 : Nat) (dque r).h))
  (List.take (dque r).d.length
  (List.drop (0 : Nat)
  (dque r).d))).hndO.fst.h))
  (List.take
  (Que.mk (dque r).c (dque r).r (dque r).n
  (List.take (dque r).w.length
  (List.drop (0 : Nat) (dque r).w))
  (List.take (dque r).h.length
  (List.drop (0 : Nat) (dque r).h))
  (List.take (dque r).d.length
  (List.drop (0 : Nat)
  (dque r).d))).hndO.fst.d.length
  (List.drop (0 : Nat)
  (Que.mk (dque r).c (dque r).r (dque r).n
  (List.take (dque r).w.length
  (List.drop (0 : Nat) (dque r).w))
  (List.take (dque r).h.length
  (List.drop (0 : Nat) (dque r).h))
  (List.take (dque r).d.length
  (List.drop (0 : Nat)
  (dque r).d))).hndO.fst.d))),
  []))
  (some (V.b false, []))))))))))))))))))
  (ifT (decide ((Cur.mk r (0 : Int) (0 : Int)).good (0 : Int)))
  (ifT (decide ((Cur.mk r (0 : Int) (0 : Int)).good (0 : Int)))
  (ifB
  (!(Que.mk (dque r).c (dque r).r (dque r).n
  (List.take (dque r).w.length (List.drop (0 : Nat) (dque r).w))
  (List.take (dque r).h.length (List.drop (0 : Nat) (dque r).h))
  (List.take (dque r).d.length (List.drop (0 : Nat) (dque r).d))).hndO.snd.snd ==
  (Que.mk (dque r).c (dque r).r (dque r).n
  (List.take (dque r).w.length (List.drop (0 : Nat) (dque r).w))
  (List.take (dque r).h.length (List.drop (0 : Nat) (dque r).h))
  (List.take (dque r).d.length (List.drop (0 : Nat) (dque r).d))).hndO.snd.snd)
  (some (V.b false, []))
  (ifB
  ((Que.mk (dque r).c (dque r).r (dque r).n
  (List.take (dque r).w.length (List.drop (0 : Nat) (dque r).w))
  (List.take (dque r).h.length (List.drop (0 : Nat) (dque r).h))
  (List.take (dque r).d.length (List.drop (0 : Nat) (dque r).d))).hndO.snd.fst !=
  (Que.mk (dque r).c (dque r).r (dque r).n
  (List.take (dque r).w.length (List.drop (0 : Nat) (dque r).w))
  (List.take (dque r).h.length (List.drop (0 : Nat) (dque r).h))
  (List.take (dque r).d.length (List.drop (0 : Nat) (dque r).d))).hndO.snd.fst)
  (some (V.b false, []))
  (ifB
  (!decide
  ((Que.mk (dque r).c (dque r).r (dque r).n
  (List.take (dque r).w.length (List.drop (0 : Nat) (dque r).w))
  (List.take (dque r).h.length (List.drop (0 : Nat) (dque r).h))
  (List.take (dque r).d.length
  (List.drop (0 : Nat) (dque r).d))).hndO.fst.c =
  (Que.mk (dque r).c (dque r).r (dque r).n
  (List.take (dque r).w.length (List.drop (0 : Nat) (dque r).w))
  (List.take (dque r).h.length (List.drop (0 : Nat) (dque r).h))
  (List.take (dque r).d.length
  (List.drop (0 : Nat) (dque r).d))).hndO.fst.c ∧
  (Que.mk (dque r).c (dque r).r (dque r).n
  (List.take (dque r).w.length (List.drop (0 : Nat) (dque r).w))
  (List.take (dque r).h.length (List.drop (0 : Nat) (dque r).h))
  (List.take (dque r).d.length
  (List.drop (0 : Nat) (dque r).d))).hndO.fst.r =
  (Que.mk (dque r).c (dque r).r (dque r).n
  (List.take (dque r).w.length (List.drop (0 : Nat) (dque r).w))
  (List.take (dque r).h.length (List.drop (0 : Nat) (dque r).h))
  (List.take (dque r).d.length
  (List.drop (0 : Nat) (dque r).d))).hndO.fst.r ∧
  (Que.mk (dque r).c (dque r).r (dque r).n
  (List.take (dque r).w.length (List.drop (0 : Nat) (dque r).w))
  (List.take (dque r).h.length (List.drop (0 : Nat) (dque r).h))
  (List.take (dque r).d.length
  (List.drop (0 : Nat) (dque r).d))).hndO.fst.n =
  (Que.mk (dque r).c (dque r).r (dque r).n
  (List.take (dque r).w.length (List.drop (0 : Nat) (dque r).w))
  (List.take (dque r).h.length (List.drop (0 : Nat) (dque r).h))
  (List.take (dque r).d.length
  (List.drop (0 : Nat) (dque r).d))).hndO.fst.n ∧
  List.take
  (Que.mk (dque r).c (dque r).r (dque r).n
  (List.take (dque r).w.length (List.drop (0 : Nat) (dque r).w))
  (List.take (dque r).h.length (List.drop (0 : Nat) (dque r).h))
  (List.take (dque r).d.length
  (List.drop (0 : Nat) (dque r).d))).hndO.fst.w.length
  (List.drop
  (Que.mk (dque r).c (dque r).r (dque r).n
  (List.take (dque r).w.length (List.drop (0 : Nat) (dque r).w))
  (List.take (dque r).h.length (List.drop (0 : Nat) (dque r).h))
  (List.take (dque r).d.length
  (List.drop (0 : Nat) (dque r).d))).hndP
  (Que.mk (dque r).c (dque r).r (dque r).n
  (List.take (dque r).w.length (List.drop (0 : Nat) (dque r).w))
  (List.take (dque r).h.length (List.drop (0 : Nat) (dque r).h))
  (List.take (dque r).d.length
  (List.drop (0 : Nat) (dque r).d))).hndR) =
  List.take
  (Que.mk (dque r).c (dque r).r (dque r).n
  (List.take (dque r).w.length (List.drop (0 : Nat) (dque r).w))
  (List.take (dque r).h.length (List.drop (0 : Nat) (dque r).h))
  (List.take (dque r).d.length
  (List.drop (0 : Nat) (dque r).d))).hndO.fst.w.length
  (List.drop (0 : Nat)
  (Que.mk (dque r).c (dque r).r (dque r).n
  (List.take (dque r).w.length (List.drop (0 : Nat) (dque r).w))
  (List.take (dque r).h.length (List.drop (0 : Nat) (dque r).h))
  (List.take (dque r).d.length
  (List.drop (0 : Nat) (dque r).d))).hndO.fst.w) ∧
  List.take
  (Que.mk (dque r).c (dque r).r (dque r).n
  (List.take (dque r).w.length
  (List.drop (0 : Nat) (dque r).w))
  (List.take (dque r).h.length
  (List.drop (0 : Nat) (dque r).h))
  (List.take (dque r).d.length
  (List.drop (0 : Nat) (dque r).d))).hndO.fst.h.length
  (List.drop (0 : Nat)
  (Que.mk (dque r).c (dque r).r (dque r).n
  (List.take (dque r).w.length
  (List.drop (0 : Nat) (dque r).w))
  (List.take (dque r).h.length
  (List.drop (0 : Nat) (dque r).h))
  (List.take (dque r).d.length
  (List.drop (0 : Nat) (dque r).d))).hndO.fst.h) =
  List.take
  (Que.mk (dque r).c (dque r).r (dque r).n
  (List.take (dque r).w.length
  (List.drop (0 : Nat) (dque r).w))
  (List.take (dque r).h.length
  (List.drop (0 : Nat) (dque r).h))
  (List.take (dque r).d.length
  (List.drop (0 : Nat) (dque r).d))).hndO.fst.h.length
  (List.drop (0 : Nat)
  (Que.mk (dque r).c (dque r).r (dque r).n
  (List.take (dque r).w.length
  (List.drop (0 : Nat) (dque r).w))
  (List.take (dque r).h.length
  (List.drop (0 : Nat) (dque r).h))
  (List.take (dque r).d.length
  (List.drop (0 : Nat) (dque r).d))).hndO.fst.h) ∧
  List.take
  (Que.mk (dque r).c (dque r).r (dque r).n
  (List.take (dque r).w.length
  (List.drop (0 : Nat) (dque r).w))
  (List.take (dque r).h.length
  (List.drop (0 : Nat) (dque r).h))
  (List.take (dque r).d.length
  (List.drop (0 : Nat) (dque r).d))).hndO.fst.d.length
  (List.drop (0 : Nat)
  (Que.mk (dque r).c (dque r).r (dque r).n
  (List.take (dque r).w.length
  (List.drop (0 : Nat) (dque r).w))
  (List.take (dque r).h.length
  (List.drop (0 : Nat) (dque r).h))
  (List.take (dque r).d.length
  (List.drop (0 : Nat) (dque r).d))).hndO.fst.d) =
  List.take
  (Que.mk (dque r).c (dque r).r (dque r).n
  (List.take (dque r).w.length
  (List.drop (0 : Nat) (dque r).w))
  (List.take (dque r).h.length
  (List.drop (0 : Nat) (dque r).h))
  (List.take (dque r).d.length
  (List.drop (0 : Nat) (dque r).d))).hndO.fst.d.length
  (List.drop (0 : Nat)
  (Que.mk (dque r).c (dque r).r (dque r).n
  (List.take (dque r).w.length
  (List.drop (0 : Nat) (dque r).w))
  (List.take (dque r).h.length
  (List.drop (0 : Nat) (dque r).h))
  (List.take (dque r).d.length
  (List.drop (0 : Nat) (dque r).d))).hndO.fst.d)))
  (some (V.b false, []))
  (ifB
  (!(Que.mk (dque r).c (dque r).r (dque r).n
  (List.take (dque r).w.length (List.drop (0 : Nat) (dque r).w))
  (List.take (dque r).h.length (List.drop (0 : Nat) (dque r).h))
  (List.take (dque r).d.length (List.drop (0 : Nat) (dque r).d))).gapsO.snd ==
  (Que.mk (dque r).c (dque r).r (dque r).n
  (List.take (dque r).w.length (List.drop (0 : Nat) (dque r).w))
  (List.take (dque r).h.length (List.drop (0 : Nat) (dque r).h))
  (List.take (dque r).d.length (List.drop (0 : Nat) (dque r).d))).gapsO.snd)
  (some (V.b false, []))
  (ifB
  ((Que.mk (dque r).c (dque r).r (dque r).n
  (List.take (dque r).w.length (List.drop (0 : Nat) (dque r).w))
  (List.take (dque r).h.length (List.drop (0 : Nat) (dque r).h))
  (List.take (dque r).d.length (List.drop (0 : Nat) (dque r).d))).gapsO.fst !=
  (Que.mk (dque r).c (dque r).r (dque r).n
  (List.take (dque r).w.length (List.drop (0 : Nat) (dque r).w))
  (List.take (dque r).h.length (List.drop (0 : Nat) (dque r).h))
  (List.take (dque r).d.length (List.drop (0 : Nat) (dque r).d))).gapsO.fst)
  (some (V.b false, []))
  (ifB
  (!((Que.mk (dque r).c (dque r).r (dque r).n
  (List.take (dque r).w.length (List.drop (0 : Nat) (dque r).w))
  (List.take (dque r).h.length (List.drop (0 : Nat) (dque r).h))
  (List.take (dque r).d.length (List.drop (0 : Nat) (dque r).d))).whereO
  (dno r)).snd ==
  ((Que.mk (dque r).c (dque r).r (dque r).n
  (List.take (dque r).w.length (List.drop (0 : Nat) (dque r).w))
  (List.take (dque r).h.length (List.drop (0 : Nat) (dque r).h))
  (List.take (dque r).d.length (List.drop (0 : Nat) (dque r).d))).whereO
  (dno r)).snd)
  (some (V.b false, []))
  (ifB
  (((Que.mk (dque r).c (dque r).r (dque r).n
  (List.take (dque r).w.length (List.drop (0 : Nat) (dque r).w))
  (List.take (dque r).h.length (List.drop (0 : Nat) (dque r).h))
  (List.take (dque r).d.length (List.drop (0 : Nat) (dque r).d))).whereO
  (dno r)).fst !=
  ((Que.mk (dque r).c (dque r).r (dque r).n
  (List.take (dque r).w.length (List.drop (0 : Nat) (dque r).w))
  (List.take (dque r).h.length (List.drop (0 : Nat) (dque r).h))
  (List.take (dque r).d.length (List.drop (0 : Nat) (dque r).d))).whereO
  (dno r)).fst)
  (some (V.b false, []))
  (ifB
  (!(Que.mk (dque r).c (dque r).r (dque r).n
  (List.take (dque r).w.length (List.drop (0 : Nat) (dque r).w))
  (List.take (dque r).h.length (List.drop (0 : Nat) (dque r).h))
  (List.take (dque r).d.length
  (List.drop (0 : Nat) (dque r).d))).hndO.snd.snd)
  (some (V.b true, []))
  (ifT
  (decide ((0 : Int) ≤ (0 : Int)) &&
  decide ((0 : Int) < (↑(dque r).w.length : Int)))
  (ifSome (dque r).w[(0 : Nat)]? fun z =>
  ifB
  ((Que.mk (dque r).c (dque r).r (dque r).n
  (List.take (dque r).w.length (List.drop (0 : Nat) (dque r).w))
  (List.take (dque r).h.length (List.drop (0 : Nat) (dque r).h))
  (List.take (dque r).d.length
  (List.drop (0 : Nat) (dque r).d))).hndO.snd.fst ==
  z)
  (some
  (V.b
  (goodQ
  (Que.mk (dque r).c (dque r).r (dque r).n
  (List.take (dque r).w.length
  (List.drop (0 : Nat) (dque r).w))
  (List.take (dque r).h.length
  (List.drop (0 : Nat) (dque r).h))
  (List.take (dque r).d.length
  (List.drop (0 : Nat) (dque r).d))).hndO.fst.c
  (Que.mk (dque r).c (dque r).r (dque r).n
  (List.take (dque r).w.length
  (List.drop (0 : Nat) (dque r).w))
  (List.take (dque r).h.length
  (List.drop (0 : Nat) (dque r).h))
  (List.take (dque r).d.length
  (List.drop (0 : Nat) (dque r).d))).hndO.fst.r
  (Que.mk (dque r).c (dque r).r (dque r).n
  (List.take (dque r).w.length
  (List.drop (0 : Nat) (dque r).w))
  (List.take (dque r).h.length
  (List.drop (0 : Nat) (dque r).h))
  (List.take (dque r).d.length
  (List.drop (0 : Nat) (dque r).d))).hndO.fst.n
  (List.take
  (Que.mk (dque r).c (dque r).r (dque r).n
  (List.take (dque r).w.length
  (List.drop (0 : Nat) (dque r).w))
  (List.take (dque r).h.length
  (List.drop (0 : Nat) (dque r).h))
  (List.take (dque r).d.length
  (List.drop (0 : Nat)
  (dque r).d))).hndO.fst.w.length
  (List.drop
  (Que.mk (dque r).c (dque r).r (dque r).n
  (List.take (dque r).w.length
  (List.drop (0 : Nat) (dque r).w))
  (List.take (dque r).h.length
  (List.drop (0 : Nat) (dque r).h))
  (List.take (dque r).d.length
  (List.drop (0 : Nat) (dque r).d))).hndP
  (Que.mk (dque r).c (dque r).r (dque r).n
  (List.take (dque r).w.length
  (List.drop (0 : Nat) (dque r).w))
  (List.take (dque r).h.length
  (List.drop (0 : Nat) (dque r).h))
  (List.take (dque r).d.length
  (List.drop (0 : Nat) (dque r).d))).hndR))
  (List.take
  (Que.mk (dque r).c (dque r).r (dque r).n
  (List.take (dque r).w.length
  (List.drop (0 : Nat) (dque r).w))
  (List.take (dque r).h.length
  (List.drop (0 : Nat) (dque r).h))
  (List.take (dque r).d.length
  (List.drop (0 : Nat)
  (dque r).d))).hndO.fst.h.length
  (List.drop (0 : Nat)
  (Que.mk (dque r).c (dque r).r (dque r).n
  (List.take (dque r).w.length
  (List.drop (0 : Nat) (dque r).w))
  (List.take (dque r).h.length
  (List.drop (0 : Nat) (dque r).h))
  (List.take (dque r).d.length
  (List.drop (0 : Nat) (dque r).d))).hndO.fst.h))
  (List.take
  (Que.mk (dque r).c (dque r).r (dque r).n
  (List.take (dque r).w.length
  (List.drop (0 : Nat) (dque r).w))
  (List.take (dque r).h.length
  (List.drop (0 : Nat) (dque r).h))
  (List.take (dque r).d.length
  (List.drop (0 : Nat)
  (dque r).d))).hndO.fst.d.length
  (List.drop (0 : Nat)
  (Que.mk (dque r).c (dque r).r (dque r).n
  (List.take (dque r).w.length
  (List.drop (0 : Nat) (dque r).w))
  (List.take (dque r).h.length
  (List.drop (0 : Nat) (dque r).h))
  (List.take (dque r).d.length
  (List.drop (0 : Nat) (dque r).d))).hndO.fst.d))),
  []))
  (some (V.b false, []))))))))))))))))))
  (ifT (decide ((Cur.mk r (0 : Int) (0 : Int)).good (0 : Int)))
  (ifT (decide ((Cur.mk r (0 : Int) (0 : Int)).good (0 : Int)))
  (ifB
  (!(Que.mk (dque r).c (dque r).r (dque r).n
  (List.take (dque r).w.length (List.drop (0 : Nat) (dque r).w))
  (List.take (dque r).h.length (List.drop (0 : Nat) (dque r).h))
  (List.take (dque r).d.length (List.drop (0 : Nat) (dque r).d))).hndO.snd.snd ==
  (Que.mk (dque r).c (dque r).r (dque r).n
  (List.take (dque r).w.length (List.drop (0 : Nat) (dque r).w))
  (List.take (dque r).h.length (List.drop (0 : Nat) (dque r).h))
  (List.take (dque r).d.length (List.drop (0 : Nat) (dque r).d))).hndO.snd.snd)
  (some (V.b false, []))
  (ifB
  ((Que.mk (dque r).c (dque r).r (dque r).n
  (List.take (dque r).w.length (List.drop (0 : Nat) (dque r).w))
  (List.take (dque r).h.length (List.drop (0 : Nat) (dque r).h))
  (List.take (dque r).d.length (List.drop (0 : Nat) (dque r).d))).hndO.snd.fst !=
  (Que.mk (dque r).c (dque r).r (dque r).n
  (List.take (dque r).w.length (List.drop (0 : Nat) (dque r).w))
  (List.take (dque r).h.length (List.drop (0 : Nat) (dque r).h))
  (List.take (dque r).d.length (List.drop (0 : Nat) (dque r).d))).hndO.snd.fst)
  (some (V.b false, []))
  (ifB
  (!decide
  ((Que.mk (dque r).c (dque r).r (dque r).n
  (List.take (dque r).w.length (List.drop (0 : Nat) (dque r).w))
  (List.take (dque r).h.length (List.drop (0 : Nat) (dque r).h))
  (List.take (dque r).d.length (List.drop (0 : Nat) (dque r).d))).hndO.fst.c =
  (Que.mk (dque r).c (dque r).r (dque r).n
  (List.take (dque r).w.length (List.drop (0 : Nat) (dque r).w))
  (List.take (dque r).h.length (List.drop (0 : Nat) (dque r).h))
  (List.take (dque r).d.length (List.drop (0 : Nat) (dque r).d))).hndO.fst.c ∧
  (Que.mk (dque r).c (dque r).r (dque r).n
  (List.take (dque r).w.length (List.drop (0 : Nat) (dque r).w))
  (List.take (dque r).h.length (List.drop (0 : Nat) (dque r).h))
  (List.take (dque r).d.length (List.drop (0 : Nat) (dque r).d))).hndO.fst.r =
  (Que.mk (dque r).c (dque r).r (dque r).n
  (List.take (dque r).w.length (List.drop (0 : Nat) (dque r).w))
  (List.take (dque r).h.length (List.drop (0 : Nat) (dque r).h))
  (List.take (dque r).d.length (List.drop (0 : Nat) (dque r).d))).hndO.fst.r ∧
  (Que.mk (dque r).c (dque r).r (dque r).n
  (List.take (dque r).w.length (List.drop (0 : Nat) (dque r).w))
  (List.take (dque r).h.length (List.drop (0 : Nat) (dque r).h))
  (List.take (dque r).d.length (List.drop (0 : Nat) (dque r).d))).hndO.fst.n =
  (Que.mk (dque r).c (dque r).r (dque r).n
  (List.take (dque r).w.length (List.drop (0 : Nat) (dque r).w))
  (List.take (dque r).h.length (List.drop (0 : Nat) (dque r).h))
  (List.take (dque r).d.length (List.drop (0 : Nat) (dque r).d))).hndO.fst.n ∧
  List.take
  (Que.mk (dque r).c (dque r).r (dque r).n
  (List.take (dque r).w.length (List.drop (0 : Nat) (dque r).w))
  (List.take (dque r).h.length (List.drop (0 : Nat) (dque r).h))
  (List.take (dque r).d.length
  (List.drop (0 : Nat) (dque r).d))).hndO.fst.w.length
  (List.drop
  (Que.mk (dque r).c (dque r).r (dque r).n
  (List.take (dque r).w.length (List.drop (0 : Nat) (dque r).w))
  (List.take (dque r).h.length (List.drop (0 : Nat) (dque r).h))
  (List.take (dque r).d.length (List.drop (0 : Nat) (dque r).d))).hndP
  (Que.mk (dque r).c (dque r).r (dque r).n
  (List.take (dque r).w.length (List.drop (0 : Nat) (dque r).w))
  (List.take (dque r).h.length (List.drop (0 : Nat) (dque r).h))
  (List.take (dque r).d.length (List.drop (0 : Nat) (dque r).d))).hndR) =
  List.take
  (Que.mk (dque r).c (dque r).r (dque r).n
  (List.take (dque r).w.length (List.drop (0 : Nat) (dque r).w))
  (List.take (dque r).h.length (List.drop (0 : Nat) (dque r).h))
  (List.take (dque r).d.length
  (List.drop (0 : Nat) (dque r).d))).hndO.fst.w.length
  (List.drop (0 : Nat)
  (Que.mk (dque r).c (dque r).r (dque r).n
  (List.take (dque r).w.length (List.drop (0 : Nat) (dque r).w))
  (List.take (dque r).h.length (List.drop (0 : Nat) (dque r).h))
  (List.take (dque r).d.length
  (List.drop (0 : Nat) (dque r).d))).hndO.fst.w) ∧
  List.take
  (Que.mk (dque r).c (dque r).r (dque r).n
  (List.take (dque r).w.length (List.drop (0 : Nat) (dque r).w))
  (List.take (dque r).h.length (List.drop (0 : Nat) (dque r).h))
  (List.take (dque r).d.length
  (List.drop (0 : Nat) (dque r).d))).hndO.fst.h.length
  (List.drop (0 : Nat)
  (Que.mk (dque r).c (dque r).r (dque r).n
  (List.take (dque r).w.length (List.drop (0 : Nat) (dque r).w))
  (List.take (dque r).h.length (List.drop (0 : Nat) (dque r).h))
  (List.take (dque r).d.length
  (List.drop (0 : Nat) (dque r).d))).hndO.fst.h) =
  List.take
  (Que.mk (dque r).c (dque r).r (dque r).n
  (List.take (dque r).w.length (List.drop (0 : Nat) (dque r).w))
  (List.take (dque r).h.length (List.drop (0 : Nat) (dque r).h))
  (List.take (dque r).d.length
  (List.drop (0 : Nat) (dque r).d))).hndO.fst.h.length
  (List.drop (0 : Nat)
  (Que.mk (dque r).c (dque r).r (dque r).n
  (List.take (dque r).w.length (List.drop (0 : Nat) (dque r).w))
  (List.take (dque r).h.length (List.drop (0 : Nat) (dque r).h))
  (List.take (dque r).d.length
  (List.drop (0 : Nat) (dque r).d))).hndO.fst.h) ∧
  List.take
  (Que.mk (dque r).c (dque r).r (dque r).n
  (List.take (dque r).w.length (List.drop (0 : Nat) (dque r).w))
  (List.take (dque r).h.length (List.drop (0 : Nat) (dque r).h))
  (List.take (dque r).d.length
  (List.drop (0 : Nat) (dque r).d))).hndO.fst.d.length
  (List.drop (0 : Nat)
  (Que.mk (dque r).c (dque r).r (dque r).n
  (List.take (dque r).w.length (List.drop (0 : Nat) (dque r).w))
  (List.take (dque r).h.length (List.drop (0 : Nat) (dque r).h))
  (List.take (dque r).d.length
  (List.drop (0 : Nat) (dque r).d))).hndO.fst.d) =
  List.take
  (Que.mk (dque r).c (dque r).r (dque r).n
  (List.take (dque r).w.length (List.drop (0 : Nat) (dque r).w))
  (List.take (dque r).h.length (List.drop (0 : Nat) (dque r).h))
  (List.take (dque r).d.length
  (List.drop (0 : Nat) (dque r).d))).hndO.fst.d.length
  (List.drop (0 : Nat)
  (Que.mk (dque r).c (dque r).r (dque r).n
  (List.take (dque r).w.length (List.drop (0 : Nat) (dque r).w))
  (List.take (dque r).h.length (List.drop (0 : Nat) (dque r).h))
  (List.take (dque r).d.length
  (List.drop (0 : Nat) (dque r).d))).hndO.fst.d)))
  (some (V.b false, []))
  (ifB
  (!(Que.mk (dque r).c (dque r).r (dque r).n
  (List.take (dque r).w.length (List.drop (0 : Nat) (dque r).w))
  (List.take (dque r).h.length (List.drop (0 : Nat) (dque r).h))
  (List.take (dque r).d.length (List.drop (0 : Nat) (dque r).d))).gapsO.snd ==
  (Que.mk (dque r).c (dque r).r (dque r).n
  (List.take (dque r).w.length (List.drop (0 : Nat) (dque r).w))
  (List.take (dque r).h.length (List.drop (0 : Nat) (dque r).h))
  (List.take (dque r).d.length (List.drop (0 : Nat) (dque r).d))).gapsO.snd)
  (some (V.b false, []))
  (ifB
  ((Que.mk (dque r).c (dque r).r (dque r).n
  (List.take (dque r).w.length (List.drop (0 : Nat) (dque r).w))
  (List.take (dque r).h.length (List.drop (0 : Nat) (dque r).h))
  (List.take (dque r).d.length (List.drop (0 : Nat) (dque r).d))).gapsO.fst !=
  (Que.mk (dque r).c (dque r).r (dque r).n
  (List.take (dque r).w.length (List.drop (0 : Nat) (dque r).w))
  (List.take (dque r).h.length (List.drop (0 : Nat) (dque r).h))
  (List.take (dque r).d.length (List.drop (0 : Nat) (dque r).d))).gapsO.fst)
  (some (V.b false, []))
  (ifB
  (!((Que.mk (dque r).c (dque r).r (dque r).n
  (List.take (dque r).w.length (List.drop (0 : Nat) (dque r).w))
  (List.take (dque r).h.length (List.drop (0 : Nat) (dque r).h))
  (List.take (dque r).d.length (List.drop (0 : Nat) (dque r).d))).whereO
  (dno r)).snd ==
  ((Que.mk (dque r).c (dque r).r (dque r).n
  (List.take (dque r).w.length (List.drop (0 : Nat) (dque r).w))
  (List.take (dque r).h.length (List.drop (0 : Nat) (dque r).h))
  (List.take (dque r).d.length (List.drop (0 : Nat) (dque r).d))).whereO
  (dno r)).snd)
  (some (V.b false, []))
  (ifB
  (((Que.mk (dque r).c (dque r).r (dque r).n
  (List.take (dque r).w.length (List.drop (0 : Nat) (dque r).w))
  (List.take (dque r).h.length (List.drop (0 : Nat) (dque r).h))
  (List.take (dque r).d.length (List.drop (0 : Nat) (dque r).d))).whereO
  (dno r)).fst !=
  ((Que.mk (dque r).c (dque r).r (dque r).n
  (List.take (dque r).w.length (List.drop (0 : Nat) (dque r).w))
  (List.take (dque r).h.length (List.drop (0 : Nat) (dque r).h))
  (List.take (dque r).d.length (List.drop (0 : Nat) (dque r).d))).whereO
  (dno r)).fst)
  (some (V.b false, []))
  (ifB
  (!(Que.mk (dque r).c (dque r).r (dque r).n
  (List.take (dque r).w.length (List.drop (0 : Nat) (dque r).w))
  (List.take (dque r).h.length (List.drop (0 : Nat) (dque r).h))
  (List.take (dque r).d.length
  (List.drop (0 : Nat) (dque r).d))).hndO.snd.snd)
  (some (V.b true, []))
  (ifT
  (decide ((0 : Int) ≤ (0 : Int)) && decide ((0 : Int) < (↑(dque r).w.length : Int)))
  (ifSome (dque r).w[(0 : Nat)]? fun z =>
  ifB
  ((Que.mk (dque r).c (dque r).r (dque r).n
  (List.take (dque r).w.length (List.drop (0 : Nat) (dque r).w))
  (List.take (dque r).h.length (List.drop (0 : Nat) (dque r).h))
  (List.take (dque r).d.length
  (List.drop (0 : Nat) (dque r).d))).hndO.snd.fst ==
  z)
  (some
  (V.b
  (goodQ
  (Que.mk (dque r).c (dque r).r (dque r).n
  (List.take (dque r).w.length (List.drop (0 : Nat) (dque r).w))
  (List.take (dque r).h.length (List.drop (0 : Nat) (dque r).h))
  (List.take (dque r).d.length
  (List.drop (0 : Nat) (dque r).d))).hndO.fst.c
  (Que.mk (dque r).c (dque r).r (dque r).n
  (List.take (dque r).w.length (List.drop (0 : Nat) (dque r).w))
  (List.take (dque r).h.length (List.drop (0 : Nat) (dque r).h))
  (List.take (dque r).d.length
  (List.drop (0 : Nat) (dque r).d))).hndO.fst.r
  (Que.mk (dque r).c (dque r).r (dque r).n
  (List.take (dque r).w.length (List.drop (0 : Nat) (dque r).w))
  (List.take (dque r).h.length (List.drop (0 : Nat) (dque r).h))
  (List.take (dque r).d.length
  (List.drop (0 : Nat) (dque r).d))).hndO.fst.n
  (List.take
  (Que.mk (dque r).c (dque r).r (dque r).n
  (List.take (dque r).w.length
  (List.drop (0 : Nat) (dque r).w))
  (List.take (dque r).h.length
  (List.drop (0 : Nat) (dque r).h))
  (List.take (dque r).d.length
  (List.drop (0 : Nat) (dque r).d))).hndO.fst.w.length
  (List.drop
  (Que.mk (dque r).c (dque r).r (dque r).n
  (List.take (dque r).w.length (List.drop (0 : Nat) (dque r).w))
  (List.take (dque r).h.length (List.drop (0 : Nat) (dque r).h))
  (List.take (dque r).d.length
  (List.drop (0 : Nat) (dque r).d))).hndP
  (Que.mk (dque r).c (dque r).r (dque r).n
  (List.take (dque r).w.length (List.drop (0 : Nat) (dque r).w))
  (List.take (dque r).h.length (List.drop (0 : Nat) (dque r).h))
  (List.take (dque r).d.length
  (List.drop (0 : Nat) (dque r).d))).hndR))
  (List.take
  (Que.mk (dque r).c (dque r).r (dque r).n
  (List.take (dque r).w.length
  (List.drop (0 : Nat) (dque r).w))
  (List.take (dque r).h.length
  (List.drop (0 : Nat) (dque r).h))
  (List.take (dque r).d.length
  (List.drop (0 : Nat) (dque r).d))).hndO.fst.h.length
  (List.drop (0 : Nat)
  (Que.mk (dque r).c (dque r).r (dque r).n
  (List.take (dque r).w.length
  (List.drop (0 : Nat) (dque r).w))
  (List.take (dque r).h.length
  (List.drop (0 : Nat) (dque r).h))
  (List.take (dque r).d.length
  (List.drop (0 : Nat) (dque r).d))).hndO.fst.h))
  (List.take
  (Que.mk (dque r).c (dque r).r (dque r).n
  (List.take (dque r).w.length
  (List.drop (0 : Nat) (dque r).w))
  (List.take (dque r).h.length
  (List.drop (0 : Nat) (dque r).h))
  (List.take (dque r).d.length
  (List.drop (0 : Nat) (dque r).d))).hndO.fst.d.length
  (List.drop (0 : Nat)
  (Que.mk (dque r).c (dque r).r (dque r).n
  (List.take (dque r).w.length
  (List.drop (0 : Nat) (dque r).w))
  (List.take (dque r).h.length
  (List.drop (0 : Nat) (dque r).h))
  (List.take (dque r).d.length
  (List.drop (0 : Nat) (dque r).d))).hndO.fst.d))),
  []))
  (some (V.b false, []))))))))))))))))))))) : _) := by kernel_rfl
theorem law_knows : Knows Try.prog (look [(48, .rd1 dgqG), (49, .rd1 offerG), (50, .rd1 offerG), (36, .rd1 sameQG), (37, .rd1 goodQG), (51, .rd1 goodQG), (52, .rd1 dgqG), (53, .rd1 handIG), (54, .rd1 handG), (55, .rd1 gapsG), (56, .rd1 gapsG), (57, .rd1 dwhereG), (39, .rd1 whereG), (58, .rd1 whereG)]) := KnowsL.knows (KnowsL.cons (enters_fn Try.func48 (by kernel_rfl) (by kernel_rfl)) doffer (KnowsL.cons (enters_fn Try.func49 (by kernel_rfl) (by kernel_rfl)) implOffer (KnowsL.cons (enters_fn Try.func50 (by kernel_rfl) (by kernel_rfl)) specOffer (KnowsL.cons (enters_fn Try.func36 (by kernel_rfl) (by kernel_rfl)) sameQ (KnowsL.cons (enters_fn Try.func37 (by kernel_rfl) (by kernel_rfl)) implGQ (KnowsL.cons (enters_fn Try.func51 (by kernel_rfl) (by kernel_rfl)) specGQ (KnowsL.cons (enters_fn Try.func52 (by kernel_rfl) (by kernel_rfl)) dhand (KnowsL.cons (enters_fn Try.func53 (by kernel_rfl) (by kernel_rfl)) implHand (KnowsL.cons (enters_fn Try.func54 (by kernel_rfl) (by kernel_rfl)) specHand (KnowsL.cons (enters_fn Try.func55 (by kernel_rfl) (by kernel_rfl)) implGaps (KnowsL.cons (enters_fn Try.func56 (by kernel_rfl) (by kernel_rfl)) specGaps (KnowsL.cons (enters_fn Try.func57 (by kernel_rfl) (by kernel_rfl)) dwhere (KnowsL.cons (enters_fn Try.func39 (by kernel_rfl) (by kernel_rfl)) implWhere (KnowsL.cons (enters_fn Try.func58 (by kernel_rfl) (by kernel_rfl)) specWhere KnowsL.nil))))))))))))))
theorem law_loops : LoopsOk Try.prog (look [(48, .rd1 dgqG), (49, .rd1 offerG), (50, .rd1 offerG), (36, .rd1 sameQG), (37, .rd1 goodQG), (51, .rd1 goodQG), (52, .rd1 dgqG), (53, .rd1 handIG), (54, .rd1 handG), (55, .rd1 gapsG), (56, .rd1 gapsG), (57, .rd1 dwhereG), (39, .rd1 whereG), (58, .rd1 whereG)]) (look []) 0 (Try.f8.body.getD .skip) := loopsOk_nil _
end Go.Proofs.Ytjghbihlgfjebaa.Den
