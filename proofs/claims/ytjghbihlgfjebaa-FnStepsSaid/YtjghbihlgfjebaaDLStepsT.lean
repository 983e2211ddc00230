/- What functions of the program do, by the machine: LStepsT. -/
import Derived.Test.YtjghbihlgfjebaaDStep4
import Derived.KernelRfl
import Derived.Test.YtjghbihlgfjebaaRows
namespace Go.Proofs.Ytjghbihlgfjebaa.Den
open Go.Proofs
set_option maxRecDepth 100000
theorem law_tree (l r : List Int) : funK Try.prog (look [(40, .rd1 drawStepG), (41, .rd1 implStepG), (42, .rd1 specStepG), (29, .rd1 sameSesG), (30, .rd1 implGoodG), (43, .rd1 specGoodG), (24, .rd1 sameTextsG), (44, .rd1 drawCalmG), (12, .rd1 calmG), (10, .rd1 calmG), (45, .rd1 drawNewG), (46, .rd1 newSessionG), (47, .rd1 newSessionG)]) (look []) Try.f7 [.sl (.int .u8) l, .sl (.int .u8) r] [] = ((ifB (decide (IntKind.i64.wrap ((↑l.length : Int) + (↑r.length : Int)) > (1048576 : Int))) (some (V.b true, []))
  (ifT (decide ((Cur.mk l (0 : Int) (0 : Int)).good (0 : Int)))
  (ifT (decide ((↑(List.take (dses l).ha.length (List.drop (0 : Nat) (dses l).ha)).length : Int) ≤ lim))
  (ifT (decide ((↑(List.take (dses l).ha.length (List.drop (0 : Nat) (dses l).ha)).length : Int) ≤ lim))
  (ifB
  (!stepB
  (Ses.mk (dses l).e (List.take (dses l).it.length (List.drop (0 : Nat) (dses l).it)) (dses l).b
  (List.take (dses l).ha.length (List.drop (0 : Nat) (dses l).ha))
  (List.take (dses l).w.length (List.drop (0 : Nat) (dses l).w))
  (List.take (dses l).a.length (List.drop (0 : Nat) (dses l).a)))
  (dsk l) (dsn l) (dst l) ==
  stepB
  (Ses.mk (dses l).e (List.take (dses l).it.length (List.drop (0 : Nat) (dses l).it)) (dses l).b
  (List.take (dses l).ha.length (List.drop (0 : Nat) (dses l).ha))
  (List.take (dses l).w.length (List.drop (0 : Nat) (dses l).w))
  (List.take (dses l).a.length (List.drop (0 : Nat) (dses l).a)))
  (dsk l) (dsn l) (dst l))
  (some (V.b false, []))
  (ifB
  (!decide
  ((stepO
  (Ses.mk (dses l).e (List.take (dses l).it.length (List.drop (0 : Nat) (dses l).it)) (dses l).b
  (List.take (dses l).ha.length (List.drop (0 : Nat) (dses l).ha))
  (List.take (dses l).w.length (List.drop (0 : Nat) (dses l).w))
  (List.take (dses l).a.length (List.drop (0 : Nat) (dses l).a)))
  (dsk l) (dsn l) (dst l)).e =
  (stepO
  (Ses.mk (dses l).e (List.take (dses l).it.length (List.drop (0 : Nat) (dses l).it)) (dses l).b
  (List.take (dses l).ha.length (List.drop (0 : Nat) (dses l).ha))
  (List.take (dses l).w.length (List.drop (0 : Nat) (dses l).w))
  (List.take (dses l).a.length (List.drop (0 : Nat) (dses l).a)))
  (dsk l) (dsn l) (dst l)).e ∧
  (stepO
  (Ses.mk (dses l).e (List.take (dses l).it.length (List.drop (0 : Nat) (dses l).it)) (dses l).b
  (List.take (dses l).ha.length (List.drop (0 : Nat) (dses l).ha))
  (List.take (dses l).w.length (List.drop (0 : Nat) (dses l).w))
  (List.take (dses l).a.length (List.drop (0 : Nat) (dses l).a)))
  (dsk l) (dsn l) (dst l)).b =
  (stepO
  (Ses.mk (dses l).e (List.take (dses l).it.length (List.drop (0 : Nat) (dses l).it)) (dses l).b
  (List.take (dses l).ha.length (List.drop (0 : Nat) (dses l).ha))
  (List.take (dses l).w.length (List.drop (0 : Nat) (dses l).w))
  (List.take (dses l).a.length (List.drop (0 : Nat) (dses l).a)))
  (dsk l) (dsn l) (dst l)).b ∧
  List.take
  (stepO
  (Ses.mk (dses l).e (List.take (dses l).it.length (List.drop (0 : Nat) (dses l).it))
  (dses l).b (List.take (dses l).ha.length (List.drop (0 : Nat) (dses l).ha))
  (List.take (dses l).w.length (List.drop (0 : Nat) (dses l).w))
  (List.take (dses l).a.length (List.drop (0 : Nat) (dses l).a)))
  (dsk l) (dsn l) (dst l)).it.length
  (List.drop (0 : Nat)
  (stepO
  (Ses.mk (dses l).e (List.take (dses l).it.length (List.drop (0 : Nat) (dses l).it))
  (dses l).b (List.take (dses l).ha.length (List.drop (0 : Nat) (dses l).ha))
  (List.take (dses l).w.length (List.drop (0 : Nat) (dses l).w))
  (List.take (dses l).a.length (List.drop (0 : Nat) (dses l).a)))
  (dsk l) (dsn l) (dst l)).it) =
  List.take
  (stepO
  (Ses.mk (dses l).e (List.take (dses l).it.length (List.drop (0 : Nat) (dses l).it))
  (dses l).b (List.take (dses l).ha.length (List.drop (0 : Nat) (dses l).ha))
  (List.take (dses l).w.length (List.drop (0 : Nat) (dses l).w))
  (List.take (dses l).a.length (List.drop (0 : Nat) (dses l).a)))
  (dsk l) (dsn l) (dst l)).it.length
  (List.drop (0 : Nat)
  (stepO
  (Ses.mk (dses l).e (List.take (dses l).it.length (List.drop (0 : Nat) (dses l).it))
  (dses l).b (List.take (dses l).ha.length (List.drop (0 : Nat) (dses l).ha))
  (List.take (dses l).w.length (List.drop (0 : Nat) (dses l).w))
  (List.take (dses l).a.length (List.drop (0 : Nat) (dses l).a)))
  (dsk l) (dsn l) (dst l)).it) ∧
  List.take
  (stepO
  (Ses.mk (dses l).e (List.take (dses l).it.length (List.drop (0 : Nat) (dses l).it))
  (dses l).b (List.take (dses l).ha.length (List.drop (0 : Nat) (dses l).ha))
  (List.take (dses l).w.length (List.drop (0 : Nat) (dses l).w))
  (List.take (dses l).a.length (List.drop (0 : Nat) (dses l).a)))
  (dsk l) (dsn l) (dst l)).ha.length
  (List.drop (0 : Nat)
  (stepO
  (Ses.mk (dses l).e (List.take (dses l).it.length (List.drop (0 : Nat) (dses l).it))
  (dses l).b (List.take (dses l).ha.length (List.drop (0 : Nat) (dses l).ha))
  (List.take (dses l).w.length (List.drop (0 : Nat) (dses l).w))
  (List.take (dses l).a.length (List.drop (0 : Nat) (dses l).a)))
  (dsk l) (dsn l) (dst l)).ha) =
  List.take
  (stepO
  (Ses.mk (dses l).e (List.take (dses l).it.length (List.drop (0 : Nat) (dses l).it))
  (dses l).b (List.take (dses l).ha.length (List.drop (0 : Nat) (dses l).ha))
  (List.take (dses l).w.length (List.drop (0 : Nat) (dses l).w))
  (List.take (dses l).a.length (List.drop (0 : Nat) (dses l).a)))
  (dsk l) (dsn l) (dst l)).ha.length
  (List.drop (0 : Nat)
  (stepO
  (Ses.mk (dses l).e (List.take (dses l).it.length (List.drop (0 : Nat) (dses l).it))
  (dses l).b (List.take (dses l).ha.length (List.drop (0 : Nat) (dses l).ha))
  (List.take (dses l).w.length (List.drop (0 : Nat) (dses l).w))
  (List.take (dses l).a.length (List.drop (0 : Nat) (dses l).a)))
  (dsk l) (dsn l) (dst l)).ha) ∧
  List.take
  (stepO
  (Ses.mk (dses l).e (List.take (dses l).it.length (List.drop (0 : Nat) (dses l).it))
  (dses l).b (List.take (dses l).ha.length (List.drop (0 : Nat) (dses l).ha))
  (List.take (dses l).w.length (List.drop (0 : Nat) (dses l).w))
  (List.take (dses l).a.length (List.drop (0 : Nat) (dses l).a)))
  (dsk l) (dsn l) (dst l)).w.length
  (List.drop (0 : Nat)
  (stepO
  (Ses.mk (dses l).e (List.take (dses l).it.length (List.drop (0 : Nat) (dses l).it))
  (dses l).b (List.take (dses l).ha.length (List.drop (0 : Nat) (dses l).ha))
  (List.take (dses l).w.length (List.drop (0 : Nat) (dses l).w))
  (List.take (dses l).a.length (List.drop (0 : Nat) (dses l).a)))
  (dsk l) (dsn l) (dst l)).w) =
  List.take
  (stepO
  (Ses.mk (dses l).e (List.take (dses l).it.length (List.drop (0 : Nat) (dses l).it))
  (dses l).b (List.take (dses l).ha.length (List.drop (0 : Nat) (dses l).ha))
  (List.take (dses l).w.length (List.drop (0 : Nat) (dses l).w))
  (List.take (dses l).a.length (List.drop (0 : Nat) (dses l).a)))
  (dsk l) (dsn l) (dst l)).w.length
  (List.drop (0 : Nat)
  (stepO
  (Ses.mk (dses l).e (List.take (dses l).it.length (List.drop (0 : Nat) (dses l).it))
  (dses l).b (List.take (dses l).ha.length (List.drop (0 : Nat) (dses l).ha))
  (List.take (dses l).w.length (List.drop (0 : Nat) (dses l).w))
  (List.take (dses l).a.length (List.drop (0 : Nat) (dses l).a)))
  (dsk l) (dsn l) (dst l)).w) ∧
  List.take
  (stepO
  (Ses.mk (dses l).e (List.take (dses l).it.length (List.drop (0 : Nat) (dses l).it))
  (dses l).b (List.take (dses l).ha.length (List.drop (0 : Nat) (dses l).ha))
  (List.take (dses l).w.length (List.drop (0 : Nat) (dses l).w))
  (List.take (dses l).a.length (List.drop (0 : Nat) (dses l).a)))
  (dsk l) (dsn l) (dst l)).a.length
  (List.drop (0 : Nat)
  (stepO
  (Ses.mk (dses l).e (List.take (dses l).it.length (List.drop (0 : Nat) (dses l).it))
  (dses l).b (List.take (dses l).ha.length (List.drop (0 : Nat) (dses l).ha))
  (List.take (dses l).w.length (List.drop (0 : Nat) (dses l).w))
  (List.take (dses l).a.length (List.drop (0 : Nat) (dses l).a)))
  (dsk l) (dsn l) (dst l)).a) =
  List.take
  (stepO
  (Ses.mk (dses l).e (List.take (dses l).it.length (List.drop (0 : Nat) (dses l).it))
  (dses l).b (List.take (dses l).ha.length (List.drop (0 : Nat) (dses l).ha))
  (List.take (dses l).w.length (List.drop (0 : Nat) (dses l).w))
  (List.take (dses l).a.length (List.drop (0 : Nat) (dses l).a)))
  (dsk l) (dsn l) (dst l)).a.length
  (List.drop (0 : Nat)
  (stepO
  (Ses.mk (dses l).e (List.take (dses l).it.length (List.drop (0 : Nat) (dses l).it))
  (dses l).b (List.take (dses l).ha.length (List.drop (0 : Nat) (dses l).ha))
  (List.take (dses l).w.length (List.drop (0 : Nat) (dses l).w))
  (List.take (dses l).a.length (List.drop (0 : Nat) (dses l).a)))
  (dsk l) (dsn l) (dst l)).a)))
  (some (V.b false, []))
  (ifT (decide ((↑(List.take (dses l).ha.length (List.drop (0 : Nat) (dses l).ha)).length : Int) ≤ lim))
  (ifB
  (!goodS (dses l).e (List.take (dses l).it.length (List.drop (0 : Nat) (dses l).it)) (dses l).b
  (List.take (dses l).ha.length (List.drop (0 : Nat) (dses l).ha))
  (List.take (dses l).w.length (List.drop (0 : Nat) (dses l).w))
  (List.take (dses l).a.length (List.drop (0 : Nat) (dses l).a)) ==
  goodS (dses l).e (List.take (dses l).it.length (List.drop (0 : Nat) (dses l).it)) (dses l).b
  (List.take (dses l).ha.length (List.drop (0 : Nat) (dses l).ha))
  (List.take (dses l).w.length (List.drop (0 : Nat) (dses l).w))
  (List.take (dses l).a.length (List.drop (0 : Nat) (dses l).a)))
  (some (V.b false, []))
  (ifB
  (stepB
  (Ses.mk (dses l).e (List.take (dses l).it.length (List.drop (0 : Nat) (dses l).it)) (dses l).b
  (List.take (dses l).ha.length (List.drop (0 : Nat) (dses l).ha))
  (List.take (dses l).w.length (List.drop (0 : Nat) (dses l).w))
  (List.take (dses l).a.length (List.drop (0 : Nat) (dses l).a)))
  (dsk l) (dsn l) (dst l))
  (ifB
  (decide
  ((↑(stepO
  (Ses.mk (dses l).e (List.take (dses l).it.length (List.drop (0 : Nat) (dses l).it))
  (dses l).b (List.take (dses l).ha.length (List.drop (0 : Nat) (dses l).ha))
  (List.take (dses l).w.length (List.drop (0 : Nat) (dses l).w))
  (List.take (dses l).a.length (List.drop (0 : Nat) (dses l).a)))
  (dsk l) (dsn l) (dst l)).ha.length :
  Int) <
  (↑(dses l).ha.length : Int)))
  (some (V.b false, []))
  (ifT
  (decide ((0 : Int) ≤ (↑(dses l).ha.length : Int)) &&
  decide
  ((↑(dses l).ha.length : Int) ≤
  (↑((stepO
  (Ses.mk (dses l).e
  (List.take (dses l).it.length (List.drop (0 : Nat) (dses l).it)) (dses l).b
  (List.take (dses l).ha.length (List.drop (0 : Nat) (dses l).ha))
  (List.take (dses l).w.length (List.drop (0 : Nat) (dses l).w))
  (List.take (dses l).a.length (List.drop (0 : Nat) (dses l).a)))
  (dsk l) (dsn l) (dst l)).ha.length -
  (0 : Nat)) :
  Int)))
  (ifB
  (!decide
  (List.take ((↑(dses l).ha.length : Int).toNat - (0 : Nat))
  (List.drop (0 : Nat)
  (stepO
  (Ses.mk (dses l).e
  (List.take (dses l).it.length (List.drop (0 : Nat) (dses l).it)) (dses l).b
  (List.take (dses l).ha.length (List.drop (0 : Nat) (dses l).ha))
  (List.take (dses l).w.length (List.drop (0 : Nat) (dses l).w))
  (List.take (dses l).a.length (List.drop (0 : Nat) (dses l).a)))
  (dsk l) (dsn l) (dst l)).ha) =
  List.take (dses l).ha.length (List.drop (0 : Nat) (dses l).ha)))
  (some (V.b false, []))
  (ifB
  (decide
  ((stepO
  (Ses.mk (dses l).e (List.take (dses l).it.length (List.drop (0 : Nat) (dses l).it))
  (dses l).b (List.take (dses l).ha.length (List.drop (0 : Nat) (dses l).ha))
  (List.take (dses l).w.length (List.drop (0 : Nat) (dses l).w))
  (List.take (dses l).a.length (List.drop (0 : Nat) (dses l).a)))
  (dsk l) (dsn l) (dst l)).b <
  (dses l).b))
  (some (V.b false, []))
  (ifB
  (decide
  ((stepO
  (Ses.mk (dses l).e (List.take (dses l).it.length (List.drop (0 : Nat) (dses l).it))
  (dses l).b (List.take (dses l).ha.length (List.drop (0 : Nat) (dses l).ha))
  (List.take (dses l).w.length (List.drop (0 : Nat) (dses l).w))
  (List.take (dses l).a.length (List.drop (0 : Nat) (dses l).a)))
  (dsk l) (dsn l) (dst l)).e <
  (dses l).e))
  (some (V.b false, []))
  (ifB
  (!goodS
  (stepO
  (Ses.mk (dses l).e
  (List.take (dses l).it.length (List.drop (0 : Nat) (dses l).it)) (dses l).b
  (List.take (dses l).ha.length (List.drop (0 : Nat) (dses l).ha))
  (List.take (dses l).w.length (List.drop (0 : Nat) (dses l).w))
  (List.take (dses l).a.length (List.drop (0 : Nat) (dses l).a)))
  (dsk l) (dsn l) (dst l)).e
  (List.take
  (stepO
  (Ses.mk (dses l).e
  (List.take (dses l).it.length (List.drop (0 : Nat) (dses l).it)) (dses l).b
  (List.take (dses l).ha.length (List.drop (0 : Nat) (dses l).ha))
  (List.take (dses l).w.length (List.drop (0 : Nat) (dses l).w))
  (List.take (dses l).a.length (List.drop (0 : Nat) (dses l).a)))
  (dsk l) (dsn l) (dst l)).it.length
  (List.drop (0 : Nat)
  (stepO
  (Ses.mk (dses l).e
  (List.take (dses l).it.length (List.drop (0 : Nat) (dses l).it)) (dses l).b
  (List.take (dses l).ha.length (List.drop (0 : Nat) (dses l).ha))
  (List.take (dses l).w.length (List.drop (0 : Nat) (dses l).w))
  (List.take (dses l).a.length (List.drop (0 : Nat) (dses l).a)))
  (dsk l) (dsn l) (dst l)).it))
  (stepO
  (Ses.mk (dses l).e
  (List.take (dses l).it.length (List.drop (0 : Nat) (dses l).it)) (dses l).b
  (List.take (dses l).ha.length (List.drop (0 : Nat) (dses l).ha))
  (List.take (dses l).w.length (List.drop (0 : Nat) (dses l).w))
  (List.take (dses l).a.length (List.drop (0 : Nat) (dses l).a)))
  (dsk l) (dsn l) (dst l)).b
  (List.take
  (stepO
  (Ses.mk (dses l).e
  (List.take (dses l).it.length (List.drop (0 : Nat) (dses l).it)) (dses l).b
  (List.take (dses l).ha.length (List.drop (0 : Nat) (dses l).ha))
  (List.take (dses l).w.length (List.drop (0 : Nat) (dses l).w))
  (List.take (dses l).a.length (List.drop (0 : Nat) (dses l).a)))
  (dsk l) (dsn l) (dst l)).ha.length
  (List.drop (0 : Nat)
  (stepO
  (Ses.mk (dses l).e
  (List.take (dses l).it.length (List.drop (0 : Nat) (dses l).it)) (dses l).b
  (List.take (dses l).ha.length (List.drop (0 : Nat) (dses l).ha))
  (List.take (dses l).w.length (List.drop (0 : Nat) (dses l).w))
  (List.take (dses l).a.length (List.drop (0 : Nat) (dses l).a)))
  (dsk l) (dsn l) (dst l)).ha))
  (List.take
  (stepO
  (Ses.mk (dses l).e
  (List.take (dses l).it.length (List.drop (0 : Nat) (dses l).it)) (dses l).b
  (List.take (dses l).ha.length (List.drop (0 : Nat) (dses l).ha))
  (List.take (dses l).w.length (List.drop (0 : Nat) (dses l).w))
  (List.take (dses l).a.length (List.drop (0 : Nat) (dses l).a)))
  (dsk l) (dsn l) (dst l)).w.length
  (List.drop (0 : Nat)
  (stepO
  (Ses.mk (dses l).e
  (List.take (dses l).it.length (List.drop (0 : Nat) (dses l).it)) (dses l).b
  (List.take (dses l).ha.length (List.drop (0 : Nat) (dses l).ha))
  (List.take (dses l).w.length (List.drop (0 : Nat) (dses l).w))
  (List.take (dses l).a.length (List.drop (0 : Nat) (dses l).a)))
  (dsk l) (dsn l) (dst l)).w))
  (List.take
  (stepO
  (Ses.mk (dses l).e
  (List.take (dses l).it.length (List.drop (0 : Nat) (dses l).it)) (dses l).b
  (List.take (dses l).ha.length (List.drop (0 : Nat) (dses l).ha))
  (List.take (dses l).w.length (List.drop (0 : Nat) (dses l).w))
  (List.take (dses l).a.length (List.drop (0 : Nat) (dses l).a)))
  (dsk l) (dsn l) (dst l)).a.length
  (List.drop (0 : Nat)
  (stepO
  (Ses.mk (dses l).e
  (List.take (dses l).it.length (List.drop (0 : Nat) (dses l).it)) (dses l).b
  (List.take (dses l).ha.length (List.drop (0 : Nat) (dses l).ha))
  (List.take (dses l).w.length (List.drop (0 : Nat) (dses l).w))
  (List.take (dses l).a.length (List.drop (0 : Nat) (dses l).a)))
  (dsk l) (dsn l) (dst l)).a)))
  (some (V.b false, []))
  (ifT (decide ((Cur.mk r (0 : Int) (0 : Int)).good (0 : Int)))
  (ifT
  (decide
  ((↑(List.take (dses r).ha.length (List.drop (0 : Nat) (dses r).ha)).length : Int) ≤
  lim))
  (ifT
  (decide
  ((↑(List.take (dses r).ha.length (List.drop (0 : Nat) (dses r).ha)).length :
  Int) ≤
  lim))
  (ifT (decide ((Cur.mk r (0 : Int) (0 : Int)).good (0 : Int)))
  (ifB (decide ((dnew r).length ≤ (20 : Nat)))
  (ifB (decide ((dnew r).length ≤ (20 : Nat)))
  (ifB
  (goodS (dses r).e
  (List.take (dses r).it.length (List.drop (0 : Nat) (dses r).it))
  (dses r).b
  (List.take (dses r).ha.length (List.drop (0 : Nat) (dses r).ha))
  (List.take (dses r).w.length (List.drop (0 : Nat) (dses r).w))
  (List.take (dses r).a.length (List.drop (0 : Nat) (dses r).a)) ==
  goodS (dses r).e
  (List.take (dses r).it.length (List.drop (0 : Nat) (dses r).it))
  (dses r).b
  (List.take (dses r).ha.length (List.drop (0 : Nat) (dses r).ha))
  (List.take (dses r).w.length (List.drop (0 : Nat) (dses r).w))
  (List.take (dses r).a.length (List.drop (0 : Nat) (dses r).a)))
  (ifB
  (calmN
  (Ses.mk (dses r).e
  (List.take (dses r).it.length (List.drop (0 : Nat) (dses r).it))
  (dses r).b
  (List.take (dses r).ha.length (List.drop (0 : Nat) (dses r).ha))
  (List.take (dses r).w.length (List.drop (0 : Nat) (dses r).w))
  (List.take (dses r).a.length (List.drop (0 : Nat) (dses r).a))) ==
  calmN
  (Ses.mk (dses r).e
  (List.take (dses r).it.length (List.drop (0 : Nat) (dses r).it))
  (dses r).b
  (List.take (dses r).ha.length (List.drop (0 : Nat) (dses r).ha))
  (List.take (dses r).w.length (List.drop (0 : Nat) (dses r).w))
  (List.take (dses r).a.length (List.drop (0 : Nat) (dses r).a))))
  (ifB
  (decide
  ((calmO
  (Ses.mk (dses r).e
  (List.take (dses r).it.length
  (List.drop (0 : Nat) (dses r).it))
  (dses r).b
  (List.take (dses r).ha.length
  (List.drop (0 : Nat) (dses r).ha))
  (List.take (dses r).w.length
  (List.drop (0 : Nat) (dses r).w))
  (List.take (dses r).a.length
  (List.drop (0 : Nat) (dses r).a)))).e =
  (calmO
  (Ses.mk (dses r).e
  (List.take (dses r).it.length
  (List.drop (0 : Nat) (dses r).it))
  (dses r).b
  (List.take (dses r).ha.length
  (List.drop (0 : Nat) (dses r).ha))
  (List.take (dses r).w.length
  (List.drop (0 : Nat) (dses r).w))
  (List.take (dses r).a.length
  (List.drop (0 : Nat) (dses r).a)))).e ∧
  (calmO
  (Ses.mk (dses r).e
  (List.take (dses r).it.length
  (List.drop (0 : Nat) (dses r).it))
  (dses r).b
  (List.take (dses r).ha.length
  (List.drop (0 : Nat) (dses r).ha))
  (List.take (dses r).w.length
  (List.drop (0 : Nat) (dses r).w))
  (List.take (dses r).a.length
  (List.drop (0 : Nat) (dses r).a)))).b =
  (calmO
  (Ses.mk (dses r).e
  (List.take (dses r).it.length
  (List.drop (0 : Nat) (dses r).it))
  (dses r).b
  (List.take (dses r).ha.length
  (List.drop (0 : Nat) (dses r).ha))
  (List.take (dses r).w.length
  (List.drop (0 : Nat) (dses r).w))
  (List.take (dses r).a.length
  (List.drop (0 : Nat) (dses r).a)))).b ∧
  List.take
  (calmO
  (Ses.mk (dses r).e
  (List.take (dses r).it.length
  (List.drop (0 : Nat) (dses r).it))
  (dses r).b
  (List.take (dses r).ha.length
  (List.drop (0 : Nat) (dses r).ha))
  (List.take (dses r).w.length
  (List.drop (0 : Nat) (dses r).w))
  (List.take (dses r).a.length
  (List.drop (0 : Nat) (dses r).a)))).it.length
  (List.drop (0 : Nat)
  (calmO
  (Ses.mk (dses r).e
  (List.take (dses r).it.length
  (List.drop (0 : Nat) (dses r).it))
  (dses r).b
  (List.take (dses r).ha.length
  (List.drop (0 : Nat) (dses r).ha))
  (List.take (dses r).w.length
  (List.drop (0 : Nat) (dses r).w))
  (List.take (dses r).a.length
  (List.drop (0 : Nat) (dses r).a)))).it) =
  List.take
  (calmO
  (Ses.mk (dses r).e
  (List.take (dses r).it.length
  (List.drop (0 : Nat) (dses r).it))
  (dses r).b
  (List.take (dses r).ha.length
  (List.drop (0 : Nat) (dses r).ha))
  (List.take (dses r).w.length
  (List.drop (0 : Nat) (dses r).w))
  (List.take (dses r).a.length
  (List.drop (0 : Nat) (dses r).a)))).it.length
  (List.drop (0 : Nat)
  (calmO
  (Ses.mk (dses r).e
  (List.take (dses r).it.length
  (List.drop (0 : Nat) (dses r).it))
  (dses r).b
  (List.take (dses r).ha.length
  (List.drop (0 : Nat) (dses r).ha))
  (List.take (dses r).w.length
  (List.drop (0 : Nat) (dses r).w))
  (List.take (dses r).a.length
  (List.drop (0 : Nat) (dses r).a)))).it) ∧
  List.take
  (calmO
  (Ses.mk (dses r).e
  (List.take (dses r).it.length
  (List.drop (0 : Nat) (dses r).it))
  (dses r).b
  (List.take (dses r).ha.length
  (List.drop (0 : Nat) (dses r).ha))
  (List.take (dses r).w.length
  (List.drop (0 : Nat) (dses r).w))
  (List.take (dses r).a.length
  (List.drop (0 : Nat) (dses r).a)))).ha.length
  (List.drop (0 : Nat)
  (calmO
  (Ses.mk (dses r).e
  (List.take (dses r).it.length
  (List.drop (0 : Nat) (dses r).it))
  (dses r).b
  (List.take (dses r).ha.length
  (List.drop (0 : Nat) (dses r).ha))
  (List.take (dses r).w.length
  (List.drop (0 : Nat) (dses r).w))
  (List.take (dses r).a.length
  (List.drop (0 : Nat) (dses r).a)))).ha) =
  List.take
  (calmO
  (Ses.mk (dses r).e
  (List.take (dses r).it.length
  (List.drop (0 : Nat) (dses r).it))
  (dses r).b
  (List.take (dses r).ha.length
  (List.drop (0 : Nat) (dses r).ha))
  (List.take (dses r).w.length
  (List.drop (0 : Nat) (dses r).w))
  (List.take (dses r).a.length
  (List.drop (0 : Nat) (dses r).a)))).ha.length
  (List.drop (0 : Nat)
  (calmO
  (Ses.mk (dses r).e
  (List.take (dses r).it.length
  (List.drop (0 : Nat) (dses r).it))
  (dses r).b
  (List.take (dses r).ha.length
  (List.drop (0 : Nat) (dses r).ha))
  (List.take (dses r).w.length
  (List.drop (0 : Nat) (dses r).w))
  (List.take (dses r).a.length
  (List.drop (0 : Nat) (dses r).a)))).ha) ∧
  List.take
  (calmO
  (Ses.mk (dses r).e
  (List.take (dses r).it.length
  (List.drop (0 : Nat) (dses r).it))
  (dses r).b
  (List.take (dses r).ha.length
  (List.drop (0 : Nat) (dses r).ha))
  (List.take (dses r).w.length
  (List.drop (0 : Nat) (dses r).w))
  (List.take (dses r).a.length
  (List.drop (0 : Nat) (dses r).a)))).w.length
  (List.drop (0 : Nat)
  (calmO
  (Ses.mk (dses r).e
  (List.take (dses r).it.length
  (List.drop (0 : Nat) (dses r).it))
  (dses r).b
  (List.take (dses r).ha.length
  (List.drop (0 : Nat) (dses r).ha))
  (List.take (dses r).w.length
  (List.drop (0 : Nat) (dses r).w))
  (List.take (dses r).a.length
  (List.drop (0 : Nat) (dses r).a)))).w) =
  List.take
  (calmO
  (Ses.mk (dses r).e
  (List.take (dses r).it.length
  (List.drop (0 : Nat) (dses r).it))
  (dses r).b
  (List.take (dses r).ha.length
  (List.drop (0 : Nat) (dses r).ha))
  (List.take (dses r).w.length
  (List.drop (0 : Nat) (dses r).w))
  (List.take (dses r).a.length
  (List.drop (0 : Nat) (dses r).a)))).w.length
  (List.drop (0 : Nat)
  (calmO
  (Ses.mk (dses r).e
  (List.take (dses r).it.length
  (List.drop (0 : Nat) (dses r).it))
  (dses r).b
  (List.take (dses r).ha.length
  (List.drop (0 : Nat) (dses r).ha))
  (List.take (dses r).w.length
  (List.drop (0 : Nat) (dses r).w))
  (List.take (dses r).a.length
  (List.drop (0 : Nat) (dses r).a)))).w) ∧
  List.take
  (calmO
  (Ses.mk (dses r).e
  (List.take (dses r).it.length
  (List.drop (0 : Nat) (dses r).it))
  (dses r).b
  (List.take (dses r).ha.length
  (List.drop (0 : Nat) (dses r).ha))
  (List.take (dses r).w.length
  (List.drop (0 : Nat) (dses r).w))
  (List.take (dses r).a.length
  (List.drop (0 : Nat) (dses r).a)))).a.length
  (List.drop (0 : Nat)
  (calmO
  (Ses.mk (dses r).e
  (List.take (dses r).it.length
  (List.drop (0 : Nat) (dses r).it))
  (dses r).b
  (List.take (dses r).ha.length
  (List.drop (0 : Nat) (dses r).ha))
  (List.take (dses r).w.length
  (List.drop (0 : Nat) (dses r).w))
  (List.take (dses r).a.length
  (List.drop (0 : Nat) (dses r).a)))).a) =
  List.take
  (calmO
  (Ses.mk (dses r).e
  (List.take (dses r).it.length
  (List.drop (0 : Nat) (dses r).it))
  (dses r).b
  (List.take (dses r).ha.length
  (List.drop (0 : Nat) (dses r).ha))
  (List.take (dses r).w.length
  (List.drop (0 : Nat) (dses r).w))
  (List.take (dses r).a.length
  (List.drop (0 : Nat) (dses r).a)))).a.length
  (List.drop (0 : Nat)
  (calmO
  (Ses.mk (dses r).e
  (List.take (dses r).it.length
  (List.drop (0 : Nat) (dses r).it))
  (dses r).b
  (List.take (dses r).ha.length
  (List.drop (0 : Nat) (dses r).ha))
  (List.take (dses r).w.length
  (List.drop (0 : Nat) (dses r).w))
  (List.take (dses r).a.length
  (List.drop (0 : Nat) (dses r).a)))).a)))
  (some
  (V.b
  (decide
  ((1 : Int) = (1 : Int) ∧
  (0 : Int) = (0 : Int) ∧
  [dnew r] = [dnew r] ∧
  nilT Cd.str.den = nilT Cd.str.den ∧
  nilT
  ((Cd.int IntKind.i64).pair
  ((Cd.int IntKind.i64).pair
  (Cd.str.pair Cd.unit))).den =
  nilT
  ((Cd.int IntKind.i64).pair
  ((Cd.int IntKind.i64).pair
  (Cd.str.pair Cd.unit))).den ∧
  nilT
  ((Cd.int IntKind.i64).pair
  ((Cd.int IntKind.i64).pair Cd.unit)).den =
  nilT
  ((Cd.int IntKind.i64).pair
  ((Cd.int IntKind.i64).pair Cd.unit)).den)),
  []))
  (some (V.b false, [])))
  (some (V.b false, [])))
  (some (V.b false, [])))
  (ifB
  (goodS (dses r).e
  (List.take (dses r).it.length (List.drop (0 : Nat) (dses r).it))
  (dses r).b
  (List.take (dses r).ha.length (List.drop (0 : Nat) (dses r).ha))
  (List.take (dses r).w.length (List.drop (0 : Nat) (dses r).w))
  (List.take (dses r).a.length (List.drop (0 : Nat) (dses r).a)) ==
  goodS (dses r).e
  (List.take (dses r).it.length (List.drop (0 : Nat) (dses r).it))
  (dses r).b
  (List.take (dses r).ha.length (List.drop (0 : Nat) (dses r).ha))
  (List.take (dses r).w.length (List.drop (0 : Nat) (dses r).w))
  (List.take (dses r).a.length (List.drop (0 : Nat) (dses r).a)))
  (ifB
  (calmN
  (Ses.mk (dses r).e
  (List.take (dses r).it.length (List.drop (0 : Nat) (dses r).it))
  (dses r).b
  (List.take (dses r).ha.length (List.drop (0 : Nat) (dses r).ha))
  (List.take (dses r).w.length (List.drop (0 : Nat) (dses r).w))
  (List.take (dses r).a.length (List.drop (0 : Nat) (dses r).a))) ==
  calmN
  (Ses.mk (dses r).e
  (List.take (dses r).it.length (List.drop (0 : Nat) (dses r).it))
  (dses r).b
  (List.take (dses r).ha.length (List.drop (0 : Nat) (dses r).ha))
  (List.take (dses r).w.length (List.drop (0 : Nat) (dses r).w))
  (List.take (dses r).a.length (List.drop (0 : Nat) (dses r).a))))
  (ifB
  (decide
  ((calmO
  (Ses.mk (dses r).e
  (List.take (dses r).it.length
  (List.drop (0 : Nat) (dses r).it))
  (dses r).b
  (List.take (dses r).ha.length
  (List.drop (0 : Nat) (dses r).ha))
  (List.take (dses r).w.length
  (List.drop (0 : Nat) (dses r).w))
  (List.take (dses r).a.length
  (List.drop (0 : Nat) (dses r).a)))).e =
  (calmO
  (Ses.mk (dses r).e
  (List.take (dses r).it.length
  (List.drop (0 : Nat) (dses r).it))
  (dses r).b
  (List.take (dses r).ha.length
  (List.drop (0 : Nat) (dses r).ha))
  (List.take (dses r).w.length
  (List.drop (0 : Nat) (dses r).w))
  (List.take (dses r).a.length
  (List.drop (0 : Nat) (dses r).a)))).e ∧
  (calmO
  (Ses.mk (dses r).e
  (List.take (dses r).it.length
  (List.drop (0 : Nat) (dses r).it))
  (dses r).b
  (List.take (dses r).ha.length
  (List.drop (0 : Nat) (dses r).ha))
  (List.take (dses r).w.length
  (List.drop (0 : Nat) (dses r).w))
  (List.take (dses r).a.length
  (List.drop (0 : Nat) (dses r).a)))).b =
  (calmO
  (Ses.mk (dses r).e
  (List.take (dses r).it.length
  (List.drop (0 : Nat) (dses r).it))
  (dses r).b
  (List.take (dses r).ha.length
  (List.drop (0 : Nat) (dses r).ha))
  (List.take (dses r).w.length
  (List.drop (0 : Nat) (dses r).w))
  (List.take (dses r).a.length
  (List.drop (0 : Nat) (dses r).a)))).b ∧
  List.take
  (calmO
  (Ses.mk (dses r).e
  (List.take (dses r).it.length
  (List.drop (0 : Nat) (dses r).it))
  (dses r).b
  (List.take (dses r).ha.length
  (List.drop (0 : Nat) (dses r).ha))
  (List.take (dses r).w.length
  (List.drop (0 : Nat) (dses r).w))
  (List.take (dses r).a.length
  (List.drop (0 : Nat) (dses r).a)))).it.length
  (List.drop (0 : Nat)
  (calmO
  (Ses.mk (dses r).e
  (List.take (dses r).it.length
  (List.drop (0 : Nat) (dses r).it))
  (dses r).b
  (List.take (dses r).ha.length
  (List.drop (0 : Nat) (dses r).ha))
  (List.take (dses r).w.length
  (List.drop (0 : Nat) (dses r).w))
  (List.take (dses r).a.length
  (List.drop (0 : Nat) (dses r).a)))).it) =
  List.take
  (calmO
  (Ses.mk (dses r).e
  (List.take (dses r).it.length
  (List.drop (0 : Nat) (dses r).it))
  (dses r).b
  (List.take (dses r).ha.length
  (List.drop (0 : Nat) (dses r).ha))
  (List.take (dses r).w.length
  (List.drop (0 : Nat) (dses r).w))
  (List.take (dses r).a.length
  (List.drop (0 : Nat) (dses r).a)))).it.length
  (List.drop (0 : Nat)
  (calmO
  (Ses.mk (dses r).e
  (List.take (dses r).it.length
  (List.drop (0 : Nat) (dses r).it))
  (dses r).b
  (List.take (dses r).ha.length
  (List.drop (0 : Nat) (dses r).ha))
  (List.take (dses r).w.length
  (List.drop (0 : Nat) (dses r).w))
  (List.take (dses r).a.length
  (List.drop (0 : Nat) (dses r).a)))).it) ∧
  List.take
  (calmO
  (Ses.mk (dses r).e
  (List.take (dses r).it.length
  (List.drop (0 : Nat) (dses r).it))
  (dses r).b
  (List.take (dses r).ha.length
  (List.drop (0 : Nat) (dses r).ha))
  (List.take (dses r).w.length
  (List.drop (0 : Nat) (dses r).w))
  (List.take (dses r).a.length
  (List.drop (0 : Nat) (dses r).a)))).ha.length
  (List.drop (0 : Nat)
  (calmO
  (Ses.mk (dses r).e
  (List.take (dses r).it.length
  (List.drop (0 : Nat) (dses r).it))
  (dses r).b
  (List.take (dses r).ha.length
  (List.drop (0 : Nat) (dses r).ha))
  (List.take (dses r).w.length
  (List.drop (0 : Nat) (dses r).w))
  (List.take (dses r).a.length
  (List.drop (0 : Nat) (dses r).a)))).ha) =
  List.take
  (calmO
  (Ses.mk (dses r).e
  (List.take (dses r).it.length
  (List.drop (0 : Nat) (dses r).it))
  (dses r).b
  (List.take (dses r).ha.length
  (List.drop (0 : Nat) (dses r).ha))
  (List.take (dses r).w.length
  (List.drop (0 : Nat) (dses r).w))
  (List.take (dses r).a.length
  (List.drop (0 : Nat) (dses r).a)))).ha.length
  (List.drop (0 : Nat)
  (calmO
  (Ses.mk (dses r).e
  (List.take (dses r).it.length
  (List.drop (0 : Nat) (dses r).it))
  (dses r).b
  (List.take (dses r).ha.length
  (List.drop (0 : Nat) (dses r).ha))
  (List.take (dses r).w.length
  (List.drop (0 : Nat) (dses r).w))
  (List.take (dses r).a.length
  (List.drop (0 : Nat) (dses r).a)))).ha) ∧
  List.take
  (calmO
  (Ses.mk (dses r).e
  (List.take (dses r).it.length
  (List.drop (0 : Nat) (dses r).it))
  (dses r).b
  (List.take (dses r).ha.length
  (List.drop (0 : Nat) (dses r).ha))
  (List.take (dses r).w.length
  (List.drop (0 : Nat) (dses r).w))
  (List.take (dses r).a.length
  (List.drop (0 : Nat) (dses r).a)))).w.length
  (List.drop (0 : Nat)
  (calmO
  (Ses.mk (dses r).e
  (List.take (dses r).it.length
  (List.drop (0 : Nat) (dses r).it))
  (dses r).b
  (List.take (dses r).ha.length
  (List.drop (0 : Nat) (dses r).ha))
  (List.take (dses r).w.length
  (List.drop (0 : Nat) (dses r).w))
  (List.take (dses r).a.length
  (List.drop (0 : Nat) (dses r).a)))).w) =
  List.take
  (calmO
  (Ses.mk (dses r).e
  (List.take (dses r).it.length
  (List.drop (0 : Nat) (dses r).it))
  (dses r).b
  (List.take (dses r).ha.length
  (List.drop (0 : Nat) (dses r).ha))
  (List.take (dses r).w.length
  (List.drop (0 : Nat) (dses r).w))
  (List.take (dses r).a.length
  (List.drop (0 : Nat) (dses r).a)))).w.length
  (List.drop (0 : Nat)
  (calmO
  (Ses.mk (dses r).e
  (List.take (dses r).it.length
  (List.drop (0 : Nat) (dses r).it))
  (dses r).b
  (List.take (dses r).ha.length
  (List.drop (0 : Nat) (dses r).ha))
  (List.take (dses r).w.length
  (List.drop (0 : Nat) (dses r).w))
  (List.take (dses r).a.length
  (List.drop (0 : Nat) (dses r).a)))).w) ∧
  List.take
  (calmO
  (Ses.mk (dses r).e
  (List.take (dses r).it.length
  (List.drop (0 : Nat) (dses r).it))
  (dses r).b
  (List.take (dses r).ha.length
  (List.drop (0 : Nat) (dses r).ha))
  (List.take (dses r).w.length
  (List.drop (0 : Nat) (dses r).w))
  (List.take (dses r).a.length
  (List.drop (0 : Nat) (dses r).a)))).a.length
  (List.drop (0 : Nat)
  (calmO
  (Ses.mk (dses r).e
  (List.take (dses r).it.length
  (List.drop (0 : Nat) (dses r).it))
  (dses r).b
  (List.take (dses r).ha.length
  (List.drop (0 : Nat) (dses r).ha))
  (List.take (dses r).w.length
  (List.drop (0 : Nat) (dses r).w))
  (List.take (dses r).a.length
  (List.drop (0 : Nat) (dses r).a)))).a) =
  List.take
  (calmO
  (Ses.mk (dses r).e
  (List.take (dses r).it.length
  (List.drop (0 : Nat) (dses r).it))
  (dses r).b
  (List.take (dses r).ha.length
  (List.drop (0 : Nat) (dses r).ha))
  (List.take (dses r).w.length
  (List.drop (0 : Nat) (dses r).w))
  (List.take (dses r).a.length
  (List.drop (0 : Nat) (dses r).a)))).a.length
  (List.drop (0 : Nat)
  (calmO
  (Ses.mk (dses r).e
  (List.take (dses r).it.length
  (List.drop (0 : Nat) (dses r).it))
  (dses r).b
  (List.take (dses r).ha.length
  (List.drop (0 : Nat) (dses r).ha))
  (List.take (dses r).w.length
  (List.drop (0 : Nat) (dses r).w))
  (List.take (dses r).a.length
  (List.drop (0 : Nat) (dses r).a)))).a)))
  (some (V.b false, [])) (some (V.b false, [])))
  (some (V.b false, [])))
  (some (V.b false, []))))
  (ifB (decide ((dnew r).length ≤ (20 : Nat)))
  (ifB
  (goodS (dses r).e
  (List.take (dses r).it.length (List.drop (0 : Nat) (dses r).it))
  (dses r).b
  (List.take (dses r).ha.length (List.drop (0 : Nat) (dses r).ha))
  (List.take (dses r).w.length (List.drop (0 : Nat) (dses r).w))
  (List.take (dses r).a.length (List.drop (0 : Nat) (dses r).a)) ==
  goodS (dses r).e
  (List.take (dses r).it.length (List.drop (0 : Nat) (dses r).it))
  (dses r).b
  (List.take (dses r).ha.length (List.drop (0 : Nat) (dses r).ha))
  (List.take (dses r).w.length (List.drop (0 : Nat) (dses r).w))
  (List.take (dses r).a.length (List.drop (0 : Nat) (dses r).a)))
  (ifB
  (calmN
  (Ses.mk (dses r).e
  (List.take (dses r).it.length (List.drop (0 : Nat) (dses r).it))
  (dses r).b
  (List.take (dses r).ha.length (List.drop (0 : Nat) (dses r).ha))
  (List.take (dses r).w.length (List.drop (0 : Nat) (dses r).w))
  (List.take (dses r).a.length (List.drop (0 : Nat) (dses r).a))) ==
  calmN
  (Ses.mk (dses r).e
  (List.take (dses r).it.length (List.drop (0 : Nat) (dses r).it))
  (dses r).b
  (List.take (dses r).ha.length (List.drop (0 : Nat) (dses r).ha))
  (List.take (dses r).w.length (List.drop (0 : Nat) (dses r).w))
  (List.take (dses r).a.length (List.drop (0 : Nat) (dses r).a))))
  (ifB
  (decide
  ((calmO
  (Ses.mk (dses r).e
  (List.take (dses r).it.length
  (List.drop (0 : Nat) (dses r).it))
  (dses r).b
  (List.take (dses r).ha.length
  (List.drop (0 : Nat) (dses r).ha))
  (List.take (dses r).w.length
  (List.drop (0 : Nat) (dses r).w))
  (List.take (dses r).a.length
  (List.drop (0 : Nat) (dses r).a)))).e =
  (calmO
  (Ses.mk (dses r).e
  (List.take (dses r).it.length
  (List.drop (0 : Nat) (dses r).it))
  (dses r).b
  (List.take (dses r).ha.length
  (List.drop (0 : Nat) (dses r).ha))
  (List.take (dses r).w.length
  (List.drop (0 : Nat) (dses r).w))
  (List.take (dses r).a.length
  (List.drop (0 : Nat) (dses r).a)))).e ∧
  (calmO
  (Ses.mk (dses r).e
  (List.take (dses r).it.length
  (List.drop (0 : Nat) (dses r).it))
  (dses r).b
  (List.take (dses r).ha.length
  (List.drop (0 : Nat) (dses r).ha))
  (List.take (dses r).w.length
  (List.drop (0 : Nat) (dses r).w))
  (List.take (dses r).a.length
  (List.drop (0 : Nat) (dses r).a)))).b =
  (calmO
  (Ses.mk (dses r).e
  (List.take (dses r).it.length
  (List.drop (0 : Nat) (dses r).it))
  (dses r).b
  (List.take (dses r).ha.length
  (List.drop (0 : Nat) (dses r).ha))
  (List.take (dses r).w.length
  (List.drop (0 : Nat) (dses r).w))
  (List.take (dses r).a.length
  (List.drop (0 : Nat) (dses r).a)))).b ∧
  List.take
  (calmO
  (Ses.mk (dses r).e
  (List.take (dses r).it.length
  (List.drop (0 : Nat) (dses r).it))
  (dses r).b
  (List.take (dses r).ha.length
  (List.drop (0 : Nat) (dses r).ha))
  (List.take (dses r).w.length
  (List.drop (0 : Nat) (dses r).w))
  (List.take (dses r).a.length
  (List.drop (0 : Nat) (dses r).a)))).it.length
  (List.drop (0 : Nat)
  (calmO
  (Ses.mk (dses r).e
  (List.take (dses r).it.length
  (List.drop (0 : Nat) (dses r).it))
  (dses r).b
  (List.take (dses r).ha.length
  (List.drop (0 : Nat) (dses r).ha))
  (List.take (dses r).w.length
  (List.drop (0 : Nat) (dses r).w))
  (List.take (dses r).a.length
  (List.drop (0 : Nat) (dses r).a)))).it) =
  List.take
  (calmO
  (Ses.mk (dses r).e
  (List.take (dses r).it.length
  (List.drop (0 : Nat) (dses r).it))
  (dses r).b
  (List.take (dses r).ha.length
  (List.drop (0 : Nat) (dses r).ha))
  (List.take (dses r).w.length
  (List.drop (0 : Nat) (dses r).w))
  (List.take (dses r).a.length
  (List.drop (0 : Nat) (dses r).a)))).it.length
  (List.drop (0 : Nat)
  (calmO
  (Ses.mk (dses r).e
  (List.take (dses r).it.length
  (List.drop (0 : Nat) (dses r).it))
  (dses r).b
  (List.take (dses r).ha.length
  (List.drop (0 : Nat) (dses r).ha))
  (List.take (dses r).w.length
  (List.drop (0 : Nat) (dses r).w))
  (List.take (dses r).a.length
  (List.drop (0 : Nat) (dses r).a)))).it) ∧
  List.take
  (calmO
  (Ses.mk (dses r).e
  (List.take (dses r).it.length
  (List.drop (0 : Nat) (dses r).it))
  (dses r).b
  (List.take (dses r).ha.length
  (List.drop (0 : Nat) (dses r).ha))
  (List.take (dses r).w.length
  (List.drop (0 : Nat) (dses r).w))
  (List.take (dses r).a.length
  (List.drop (0 : Nat) (dses r).a)))).ha.length
  (List.drop (0 : Nat)
  (calmO
  (Ses.mk (dses r).e
  (List.take (dses r).it.length
  (List.drop (0 : Nat) (dses r).it))
  (dses r).b
  (List.take (dses r).ha.length
  (List.drop (0 : Nat) (dses r).ha))
  (List.take (dses r).w.length
  (List.drop (0 : Nat) (dses r).w))
  (List.take (dses r).a.length
  (List.drop (0 : Nat) (dses r).a)))).ha) =
  List.take
  (calmO
  (Ses.mk (dses r).e
  (List.take (dses r).it.length
  (List.drop (0 : Nat) (dses r).it))
  (dses r).b
  (List.take (dses r).ha.length
  (List.drop (0 : Nat) (dses r).ha))
  (List.take (dses r).w.length
  (List.drop (0 : Nat) (dses r).w))
  (List.take (dses r).a.length
  (List.drop (0 : Nat) (dses r).a)))).ha.length
  (List.drop (0 : Nat)
  (calmO
  (Ses.mk (dses r).e
  (List.take (dses r).it.length
  (List.drop (0 : Nat) (dses r).it))
  (dses r).b
  (List.take (dses r).ha.length
  (List.drop (0 : Nat) (dses r).ha))
  (List.take (dses r).w.length
  (List.drop (0 : Nat) (dses r).w))
  (List.take (dses r).a.length
  (List.drop (0 : Nat) (dses r).a)))).ha) ∧
  List.take
  (calmO
  (Ses.mk (dses r).e
  (List.take (dses r).it.length
  (List.drop (0 : Nat) (dses r).it))
  (dses r).b
  (List.take (dses r).ha.length
  (List.drop (0 : Nat) (dses r).ha))
  (List.take (dses r).w.length
  (List.drop (0 : Nat) (dses r).w))
  (List.take (dses r).a.length
  (List.drop (0 : Nat) (dses r).a)))).w.length
  (List.drop (0 : Nat)
  (calmO
  (Ses.mk (dses r).e
  (List.take (dses r).it.length
  (List.drop (0 : Nat) (dses r).it))
  (dses r).b
  (List.take (dses r).ha.length
  (List.drop (0 : Nat) (dses r).ha))
  (List.take (dses r).w.length
  (List.drop (0 : Nat) (dses r).w))
  (List.take (dses r).a.length
  (List.drop (0 : Nat) (dses r).a)))).w) =
  List.take
  (calmO
  (Ses.mk (dses r).e
  (List.take (dses r).it.length
  (List.drop (0 : Nat) (dses r).it))
  (dses r).b
  (List.take (dses r).ha.length
  (List.drop (0 : Nat) (dses r).ha))
  (List.take (dses r).w.length
  (List.drop (0 : Nat) (dses r).w))
  (List.take (dses r).a.length
  (List.drop (0 : Nat) (dses r).a)))).w.length
  (List.drop (0 : Nat)
  (calmO
  (Ses.mk (dses r).e
  (List.take (dses r).it.length
  (List.drop (0 : Nat) (dses r).it))
  (dses r).b
  (List.take (dses r).ha.length
  (List.drop (0 : Nat) (dses r).ha))
  (List.take (dses r).w.length
  (List.drop (0 : Nat) (dses r).w))
  (List.take (dses r).a.length
  (List.drop (0 : Nat) (dses r).a)))).w) ∧
  List.take
  (calmO
  (Ses.mk (dses r).e
  (List.take (dses r).it.length
  (List.drop (0 : Nat) (dses r).it))
  (dses r).b
  (List.take (dses r).ha.length
  (List.drop (0 : Nat) (dses r).ha))
  (List.take (dses r).w.length
  (List.drop (0 : Nat) (dses r).w))
  (List.take (dses r).a.length
  (List.drop (0 : Nat) (dses r).a)))).a.length
  (List.drop (0 : Nat)
  (calmO
  (Ses.mk (dses r).e
  (List.take (dses r).it.length
  (List.drop (0 : Nat) (dses r).it))
  (dses r).b
  (List.take (dses r).ha.length
  (List.drop (0 : Nat) (dses r).ha))
  (List.take (dses r).w.length
  (List.drop (0 : Nat) (dses r).w))
  (List.take (dses r).a.length
  (List.drop (0 : Nat) (dses r).a)))).a) =
  List.take
  (calmO
  (Ses.mk (dses r).e
  (List.take (dses r).it.length
  (List.drop (0 : Nat) (dses r).it))
  (dses r).b
  (List.take (dses r).ha.length
  (List.drop (0 : Nat) (dses r).ha))
  (List.take (dses r).w.length
  (List.drop (0 : Nat) (dses r).w))
  (List.take (dses r).a.length
  (List.drop (0 : Nat) (dses r).a)))).a.length
  (List.drop (0 : Nat)
  (calmO
  (Ses.mk (dses r).e
  (List.take (dses r).it.length
  (List.drop (0 : Nat) (dses r).it))
  (dses r).b
  (List.take (dses r).ha.length
  (List.drop (0 : Nat) (dses r).ha))
  (List.take (dses r).w.length
  (List.drop (0 : Nat) (dses r).w))
  (List.take (dses r).a.length
  (List.drop (0 : Nat) (dses r).a)))).a)))
  (some (V.b false, [])) (some (V.b false, [])))
  (some (V.b false, [])))
  (some (V.b false, [])))
  (ifB
  (goodS (dses r).e
  (List.take (dses r).it.length (List.drop (0 : Nat) (dses r).it))
  (dses r).b
  (List.take (dses r).ha.length (List.drop (0 : Nat) (dses r).ha))
  (List.take (dses r).w.length (List.drop (0 : Nat) (dses r).w))
  (List.take (dses r).a.length (List.drop (0 : Nat) (dses r).a)) ==
  goodS (dses r).e
  (List.take (dses r).it.length (List.drop (0 : Nat) (dses r).it))
  (dses r).b
  (List.take (dses r).ha.length (List.drop (0 : Nat) (dses r).ha))
  (List.take (dses r).w.length (List.drop (0 : Nat) (dses r).w))
  (List.take (dses r).a.length (List.drop (0 : Nat) (dses r).a)))
  (ifB
  (calmN
  (Ses.mk (dses r).e
  (List.take (dses r).it.length (List.drop (0 : Nat) (dses r).it))
  (dses r).b
  (List.take (dses r).ha.length (List.drop (0 : Nat) (dses r).ha))
  (List.take (dses r).w.length (List.drop (0 : Nat) (dses r).w))
  (List.take (dses r).a.length (List.drop (0 : Nat) (dses r).a))) ==
  calmN
  (Ses.mk (dses r).e
  (List.take (dses r).it.length (List.drop (0 : Nat) (dses r).it))
  (dses r).b
  (List.take (dses r).ha.length (List.drop (0 : Nat) (dses r).ha))
  (List.take (dses r).w.length (List.drop (0 : Nat) (dses r).w))
  (List.take (dses r).a.length (List.drop (0 : Nat) (dses r).a))))
  (ifB
  (decide
  ((calmO
  (Ses.mk (dses r).e
  (List.take (dses r).it.length
  (List.drop (0 : Nat) (dses r).it))
  (dses r).b
  (List.take (dses r).ha.length
  (List.drop (0 : Nat) (dses r).ha))
  (List.take (dses r).w.length
  (List.drop (0 : Nat) (dses r).w))
  (List.take (dses r).a.length
  (List.drop (0 : Nat) (dses r).a)))).e =
  (calmO
  (Ses.mk (dses r).e
  (List.take (dses r).it.length
  (List.drop (0 : Nat) (dses r).it))
  (dses r).b
  (List.take (dses r).ha.length
  (List.drop (0 : Nat) (dses r).ha))
  (List.take (dses r).w.length
  (List.drop (0 : Nat) (dses r).w))
  (List.take (dses r).a.length
  (List.drop (0 : Nat) (dses r).a)))).e ∧
  (calmO
  (Ses.mk (dses r).e
  (List.take (dses r).it.length
  (List.drop (0 : Nat) (dses r).it))
  (dses r).b
  (List.take (dses r).ha.length
  (List.drop (0 : Nat) (dses r).ha))
  (List.take (dses r).w.length
  (List.drop (0 : Nat) (dses r).w))
  (List.take (dses r).a.length
  (List.drop (0 : Nat) (dses r).a)))).b =
  (calmO
  (Ses.mk (dses r).e
  (List.take (dses r).it.length
  (List.drop (0 : Nat) (dses r).it))
  (dses r).b
  (List.take (dses r).ha.length
  (List.drop (0 : Nat) (dses r).ha))
  (List.take (dses r).w.length
  (List.drop (0 : Nat) (dses r).w))
  (List.take (dses r).a.length
  (List.drop (0 : Nat) (dses r).a)))).b ∧
  List.take
  (calmO
  (Ses.mk (dses r).e
  (List.take (dses r).it.length
  (List.drop (0 : Nat) (dses r).it))
  (dses r).b
  (List.take (dses r).ha.length
  (List.drop (0 : Nat) (dses r).ha))
  (List.take (dses r).w.length
  (List.drop (0 : Nat) (dses r).w))
  (List.take (dses r).a.length
  (List.drop (0 : Nat) (dses r).a)))).it.length
  (List.drop (0 : Nat)
  (calmO
  (Ses.mk (dses r).e
  (List.take (dses r).it.length
  (List.drop (0 : Nat) (dses r).it))
  (dses r).b
  (List.take (dses r).ha.length
  (List.drop (0 : Nat) (dses r).ha))
  (List.take (dses r).w.length
  (List.drop (0 : Nat) (dses r).w))
  (List.take (dses r).a.length
  (List.drop (0 : Nat) (dses r).a)))).it) =
  List.take
  (calmO
  (Ses.mk (dses r).e
  (List.take (dses r).it.length
  (List.drop (0 : Nat) (dses r).it))
  (dses r).b
  (List.take (dses r).ha.length
  (List.drop (0 : Nat) (dses r).ha))
  (List.take (dses r).w.length
  (List.drop (0 : Nat) (dses r).w))
  (List.take (dses r).a.length
  (List.drop (0 : Nat) (dses r).a)))).it.length
  (List.drop (0 : Nat)
  (calmO
  (Ses.mk (dses r).e
  (List.take (dses r).it.length
  (List.drop (0 : Nat) (dses r).it))
  (dses r).b
  (List.take (dses r).ha.length
  (List.drop (0 : Nat) (dses r).ha))
  (List.take (dses r).w.length
  (List.drop (0 : Nat) (dses r).w))
  (List.take (dses r).a.length
  (List.drop (0 : Nat) (dses r).a)))).it) ∧
  List.take
  (calmO
  (Ses.mk (dses r).e
  (List.take (dses r).it.length
  (List.drop (0 : Nat) (dses r).it))
  (dses r).b
  (List.take (dses r).ha.length
  (List.drop (0 : Nat) (dses r).ha))
  (List.take (dses r).w.length
  (List.drop (0 : Nat) (dses r).w))
  (List.take (dses r).a.length
  (List.drop (0 : Nat) (dses r).a)))).ha.length
  (List.drop (0 : Nat)
  (calmO
  (Ses.mk (dses r).e
  (List.take (dses r).it.length
  (List.drop (0 : Nat) (dses r).it))
  (dses r).b
  (List.take (dses r).ha.length
  (List.drop (0 : Nat) (dses r).ha))
  (List.take (dses r).w.length
  (List.drop (0 : Nat) (dses r).w))
  (List.take (dses r).a.length
  (List.drop (0 : Nat) (dses r).a)))).ha) =
  List.take
  (calmO
  (Ses.mk (dses r).e
  (List.take (dses r).it.length
  (List.drop (0 : Nat) (dses r).it))
  (dses r).b
  (List.take (dses r).ha.length
  (List.drop (0 : Nat) (dses r).ha))
  (List.take (dses r).w.length
  (List.drop (0 : Nat) (dses r).w))
  (List.take (dses r).a.length
  (List.drop (0 : Nat) (dses r).a)))).ha.length
  (List.drop (0 : Nat)
  (calmO
  (Ses.mk (dses r).e
  (List.take (dses r).it.length
  (List.drop (0 : Nat) (dses r).it))
  (dses r).b
  (List.take (dses r).ha.length
  (List.drop (0 : Nat) (dses r).ha))
  (List.take (dses r).w.length
  (List.drop (0 : Nat) (dses r).w))
  (List.take (dses r).a.length
  (List.drop (0 : Nat) (dses r).a)))).ha) ∧
  List.take
  (calmO
  (Ses.mk (dses r).e
  (List.take (dses r).it.length
  (List.drop (0 : Nat) (dses r).it))
  (dses r).b
  (List.take (dses r).ha.length
  (List.drop (0 : Nat) (dses r).ha))
  (List.take (dses r).w.length
  (List.drop (0 : Nat) (dses r).w))
  (List.take (dses r).a.length
  (List.drop (0 : Nat) (dses r).a)))).w.length
  (List.drop (0 : Nat)
  (calmO
  (Ses.mk (dses r).e
  (List.take (dses r).it.length
  (List.drop (0 : Nat) (dses r).it))
  (dses r).b
  (List.take (dses r).ha.length
  (List.drop (0 : Nat) (dses r).ha))
  (List.take (dses r).w.length
  (List.drop (0 : Nat) (dses r).w))
  (List.take (dses r).a.length
  (List.drop (0 : Nat) (dses r).a)))).w) =
  List.take
  (calmO
  (Ses.mk (dses r).e
  (List.take (dses r).it.length
  (List.drop (0 : Nat) (dses r).it))
  (dses r).b
  (List.take (dses r).ha.length
  (List.drop (0 : Nat) (dses r).ha))
  (List.take (dses r).w.length
  (List.drop (0 : Nat) (dses r).w))
  (List.take (dses r).a.length
  (List.drop (0 : Nat) (dses r).a)))).w.length
  (List.drop (0 : Nat)
  (calmO
  (Ses.mk (dses r).e
  (List.take (dses r).it.length
  (List.drop (0 : Nat) (dses r).it))
  (dses r).b
  (List.take (dses r).ha.length
  (List.drop (0 : Nat) (dses r).ha))
  (List.take (dses r).w.length
  (List.drop (0 : Nat) (dses r).w))
  (List.take (dses r).a.length
  (List.drop (0 : Nat) (dses r).a)))).w) ∧
  List.take
  (calmO
  (Ses.mk (dses r).e
  (List.take (dses r).it.length
  (List.drop (0 : Nat) (dses r).it))
  (dses r).b
  (List.take (dses r).ha.length
  (List.drop (0 : Nat) (dses r).ha))
  (List.take (dses r).w.length
  (List.drop (0 : Nat) (dses r).w))
  (List.take (dses r).a.length
  (List.drop (0 : Nat) (dses r).a)))).a.length
  (List.drop (0 : Nat)
  (calmO
  (Ses.mk (dses r).e
  (List.take (dses r).it.length
  (List.drop (0 : Nat) (dses r).it))
  (dses r).b
  (List.take (dses r).ha.length
  (List.drop (0 : Nat) (dses r).ha))
  (List.take (dses r).w.length
  (List.drop (0 : Nat) (dses r).w))
  (List.take (dses r).a.length
  (List.drop (0 : Nat) (dses r).a)))).a) =
  List.take
  (calmO
  (Ses.mk (dses r).e
  (List.take (dses r).it.length
  (List.drop (0 : Nat) (dses r).it))
  (dses r).b
  (List.take (dses r).ha.length
  (List.drop (0 : Nat) (dses r).ha))
  (List.take (dses r).w.length
  (List.drop (0 : Nat) (dses r).w))
  (List.take (dses r).a.length
  (List.drop (0 : Nat) (dses r).a)))).a.length
  (List.drop (0 : Nat)
  (calmO
  (Ses.mk (dses r).e
  (List.take (dses r).it.length
  (List.drop (0 : Nat) (dses r).it))
  (dses r).b
  (List.take (dses r).ha.length
  (List.drop (0 : Nat) (dses r).ha))
  (List.take (dses r).w.length
  (List.drop (0 : Nat) (dses r).w))
  (List.take (dses r).a.length
  (List.drop (0 : Nat) (dses r).a)))).a)))
  (some (V.b true, [])) (some (V.b false, [])))
  (some (V.b false, [])))
  (some (V.b false, [])))))))))))))))
  (ifT (decide ((Cur.mk r (0 : Int) (0 : Int)).good (0 : Int)))
  (ifT
  (decide ((↑(List.take (dses r).ha.length (List.drop (0 : Nat) (dses r).ha)).length : Int) ≤ lim))
  (ifT
  (decide
  ((↑(List.take (dses r).ha.length (List.drop (0 : Nat) (dses r).ha)).length : Int) ≤ lim))
  (ifT (decide ((Cur.mk r (0 : Int) (0 : Int)).good (0 : Int)))
  (ifB (decide ((dnew r).length ≤ (20 : Nat)))
  (ifB (decide ((dnew r).length ≤ (20 : Nat)))
  (ifB
  (goodS (dses r).e (List.take (dses r).it.length (List.drop (0 : Nat) (dses r).it))
  (dses r).b (List.take (dses r).ha.length (List.drop (0 : Nat) (dses r).ha))
  (List.take (dses r).w.length (List.drop (0 : Nat) (dses r).w))
  (List.take (dses r).a.length (List.drop (0 : Nat) (dses r).a)) ==
  goodS (dses r).e (List.take (dses r).it.length (List.drop (0 : Nat) (dses r).it))
  (dses r).b (List.take (dses r).ha.length (List.drop (0 : Nat) (dses r).ha))
  (List.take (dses r).w.length (List.drop (0 : Nat) (dses r).w))
  (List.take (dses r).a.length (List.drop (0 : Nat) (dses r).a)))
  (ifB
  (calmN
  (Ses.mk (dses r).e
  (List.take (dses r).it.length (List.drop (0 : Nat) (dses r).it)) (dses r).b
  (List.take (dses r).ha.length (List.drop (0 : Nat) (dses r).ha))
  (List.take (dses r).w.length (List.drop (0 : Nat) (dses r).w))
  (List.take (dses r).a.length (List.drop (0 : Nat) (dses r).a))) ==
  calmN
  (Ses.mk (dses r).e
  (List.take (dses r).it.length (List.drop (0 : Nat) (dses r).it)) (dses r).b
  (List.take (dses r).ha.length (List.drop (0 : Nat) (dses r).ha))
  (List.take (dses r).w.length (List.drop (0 : Nat) (dses r).w))
  (List.take (dses r).a.length (List.drop (0 : Nat) (dses r).a))))
  (ifB
  (decide
  ((calmO
  (Ses.mk (dses r).e
  (List.take (dses r).it.length (List.drop (0 : Nat) (dses r).it))
  (dses r).b
  (List.take (dses r).ha.length (List.drop (0 : Nat) (dses r).ha))
  (List.take (dses r).w.length (List.drop (0 : Nat) (dses r).w))
  (List.take (dses r).a.length (List.drop (0 : Nat) (dses r).a)))).e =
  (calmO
  (Ses.mk (dses r).e
  (List.take (dses r).it.length (List.drop (0 : Nat) (dses r).it))
  (dses r).b
  (List.take (dses r).ha.length (List.drop (0 : Nat) (dses r).ha))
  (List.take (dses r).w.length (List.drop (0 : Nat) (dses r).w))
  (List.take (dses r).a.length (List.drop (0 : Nat) (dses r).a)))).e ∧
  (calmO
  (Ses.mk (dses r).e
  (List.take (dses r).it.length (List.drop (0 : Nat) (dses r).it))
  (dses r).b
  (List.take (dses r).ha.length (List.drop (0 : Nat) (dses r).ha))
  (List.take (dses r).w.length (List.drop (0 : Nat) (dses r).w))
  (List.take (dses r).a.length (List.drop (0 : Nat) (dses r).a)))).b =
  (calmO
  (Ses.mk (dses r).e
  (List.take (dses r).it.length (List.drop (0 : Nat) (dses r).it))
  (dses r).b
  (List.take (dses r).ha.length (List.drop (0 : Nat) (dses r).ha))
  (List.take (dses r).w.length (List.drop (0 : Nat) (dses r).w))
  (List.take (dses r).a.length (List.drop (0 : Nat) (dses r).a)))).b ∧
  List.take
  (calmO
  (Ses.mk (dses r).e
  (List.take (dses r).it.length (List.drop (0 : Nat) (dses r).it))
  (dses r).b
  (List.take (dses r).ha.length (List.drop (0 : Nat) (dses r).ha))
  (List.take (dses r).w.length (List.drop (0 : Nat) (dses r).w))
  (List.take (dses r).a.length
  (List.drop (0 : Nat) (dses r).a)))).it.length
  (List.drop (0 : Nat)
  (calmO
  (Ses.mk (dses r).e
  (List.take (dses r).it.length (List.drop (0 : Nat) (dses r).it))
  (dses r).b
  (List.take (dses r).ha.length (List.drop (0 : Nat) (dses r).ha))
  (List.take (dses r).w.length (List.drop (0 : Nat) (dses r).w))
  (List.take (dses r).a.length
  (List.drop (0 : Nat) (dses r).a)))).it) =
  List.take
  (calmO
  (Ses.mk (dses r).e
  (List.take (dses r).it.length (List.drop (0 : Nat) (dses r).it))
  (dses r).b
  (List.take (dses r).ha.length (List.drop (0 : Nat) (dses r).ha))
  (List.take (dses r).w.length (List.drop (0 : Nat) (dses r).w))
  (List.take (dses r).a.length
  (List.drop (0 : Nat) (dses r).a)))).it.length
  (List.drop (0 : Nat)
  (calmO
  (Ses.mk (dses r).e
  (List.take (dses r).it.length (List.drop (0 : Nat) (dses r).it))
  (dses r).b
  (List.take (dses r).ha.length (List.drop (0 : Nat) (dses r).ha))
  (List.take (dses r).w.length (List.drop (0 : Nat) (dses r).w))
  (List.take (dses r).a.length
  (List.drop (0 : Nat) (dses r).a)))).it) ∧
  List.take
  (calmO
  (Ses.mk (dses r).e
  (List.take (dses r).it.length
  (List.drop (0 : Nat) (dses r).it))
  (dses r).b
  (List.take (dses r).ha.length
  (List.drop (0 : Nat) (dses r).ha))
  (List.take (dses r).w.length (List.drop (0 : Nat) (dses r).w))
  (List.take (dses r).a.length
  (List.drop (0 : Nat) (dses r).a)))).ha.length
  (List.drop (0 : Nat)
  (calmO
  (Ses.mk (dses r).e
  (List.take (dses r).it.length
  (List.drop (0 : Nat) (dses r).it))
  (dses r).b
  (List.take (dses r).ha.length
  (List.drop (0 : Nat) (dses r).ha))
  (List.take (dses r).w.length (List.drop (0 : Nat) (dses r).w))
  (List.take (dses r).a.length
  (List.drop (0 : Nat) (dses r).a)))).ha) =
  List.take
  (calmO
  (Ses.mk (dses r).e
  (List.take (dses r).it.length
  (List.drop (0 : Nat) (dses r).it))
  (dses r).b
  (List.take (dses r).ha.length
  (List.drop (0 : Nat) (dses r).ha))
  (List.take (dses r).w.length (List.drop (0 : Nat) (dses r).w))
  (List.take (dses r).a.length
  (List.drop (0 : Nat) (dses r).a)))).ha.length
  (List.drop (0 : Nat)
  (calmO
  (Ses.mk (dses r).e
  (List.take (dses r).it.length
  (List.drop (0 : Nat) (dses r).it))
  (dses r).b
  (List.take (dses r).ha.length
  (List.drop (0 : Nat) (dses r).ha))
  (List.take (dses r).w.length (List.drop (0 : Nat) (dses r).w))
  (List.take (dses r).a.length
  (List.drop (0 : Nat) (dses r).a)))).ha) ∧
  List.take
  (calmO
  (Ses.mk (dses r).e
  (List.take (dses r).it.length
  (List.drop (0 : Nat) (dses r).it))
  (dses r).b
  (List.take (dses r).ha.length
  (List.drop (0 : Nat) (dses r).ha))
  (List.take (dses r).w.length
  (List.drop (0 : Nat) (dses r).w))
  (List.take (dses r).a.length
  (List.drop (0 : Nat) (dses r).a)))).w.length
  (List.drop (0 : Nat)
  (calmO
  (Ses.mk (dses r).e
  (List.take (dses r).it.length
  (List.drop (0 : Nat) (dses r).it))
  (dses r).b
  (List.take (dses r).ha.length
  (List.drop (0 : Nat) (dses r).ha))
  (List.take (dses r).w.length
  (List.drop (0 : Nat) (dses r).w))
  (List.take (dses r).a.length
  (List.drop (0 : Nat) (dses r).a)))).w) =
  List.take
  (calmO
  (Ses.mk (dses r).e
  (List.take (dses r).it.length
  (List.drop (0 : Nat) (dses r).it))
  (dses r).b
  (List.take (dses r).ha.length
  (List.drop (0 : Nat) (dses r).ha))
  (List.take (dses r).w.length
  (List.drop (0 : Nat) (dses r).w))
  (List.take (dses r).a.length
  (List.drop (0 : Nat) (dses r).a)))).w.length
  (List.drop (0 : Nat)
  (calmO
  (Ses.mk (dses r).e
  (List.take (dses r).it.length
  (List.drop (0 : Nat) (dses r).it))
  (dses r).b
  (List.take (dses r).ha.length
  (List.drop (0 : Nat) (dses r).ha))
  (List.take (dses r).w.length
  (List.drop (0 : Nat) (dses r).w))
  (List.take (dses r).a.length
  (List.drop (0 : Nat) (dses r).a)))).w) ∧
  List.take
  (calmO
  (Ses.mk (dses r).e
  (List.take (dses r).it.length
  (List.drop (0 : Nat) (dses r).it))
  (dses r).b
  (List.take (dses r).ha.length
  (List.drop (0 : Nat) (dses r).ha))
  (List.take (dses r).w.length
  (List.drop (0 : Nat) (dses r).w))
  (List.take (dses r).a.length
  (List.drop (0 : Nat) (dses r).a)))).a.length
  (List.drop (0 : Nat)
  (calmO
  (Ses.mk (dses r).e
  (List.take (dses r).it.length
  (List.drop (0 : Nat) (dses r).it))
  (dses r).b
  (List.take (dses r).ha.length
  (List.drop (0 : Nat) (dses r).ha))
  (List.take (dses r).w.length
  (List.drop (0 : Nat) (dses r).w))
  (List.take (dses r).a.length
  (List.drop (0 : Nat) (dses r).a)))).a) =
  List.take
  (calmO
  (Ses.mk (dses r).e
  (List.take (dses r).it.length
  (List.drop (0 : Nat) (dses r).it))
  (dses r).b
  (List.take (dses r).ha.length
  (List.drop (0 : Nat) (dses r).ha))
  (List.take (dses r).w.length
  (List.drop (0 : Nat) (dses r).w))
  (List.take (dses r).a.length
  (List.drop (0 : Nat) (dses r).a)))).a.length
  (List.drop (0 : Nat)
  (calmO
  (Ses.mk (dses r).e
  (List.take (dses r).it.length
  (List.drop (0 : Nat) (dses r).it))
  (dses r).b
  (List.take (dses r).ha.length
  (List.drop (0 : Nat) (dses r).ha))
  (List.take (dses r).w.length
  (List.drop (0 : Nat) (dses r).w))
  (List.take (dses r).a.length
  (List.drop (0 : Nat) (dses r).a)))).a)))
  (some
  (V.b
  (decide
  ((1 : Int) = (1 : Int) ∧
  (0 : Int) = (0 : Int) ∧
  [dnew r] = [dnew r] ∧
  nilT Cd.str.den = nilT Cd.str.den ∧
  nilT
  ((Cd.int IntKind.i64).pair
  ((Cd.int IntKind.i64).pair (Cd.str.pair Cd.unit))).den =
  nilT
  ((Cd.int IntKind.i64).pair
  ((Cd.int IntKind.i64).pair (Cd.str.pair Cd.unit))).den ∧
  nilT
  ((Cd.int IntKind.i64).pair
  ((Cd.int IntKind.i64).pair Cd.unit)).den =
  nilT
  ((Cd.int IntKind.i64).pair
  ((Cd.int IntKind.i64).pair Cd.unit)).den)),
  []))
  (some (V.b false, [])))
  (some (V.b false, [])))
  (some (V.b false, [])))
  (ifB
  (goodS (dses r).e (List.take (dses r).it.length (List.drop (0 : Nat) (dses r).it))
  (dses r).b (List.take (dses r).ha.length (List.drop (0 : Nat) (dses r).ha))
  (List.take (dses r).w.length (List.drop (0 : Nat) (dses r).w))
  (List.take (dses r).a.length (List.drop (0 : Nat) (dses r).a)) ==
  goodS (dses r).e (List.take (dses r).it.length (List.drop (0 : Nat) (dses r).it))
  (dses r).b (List.take (dses r).ha.length (List.drop (0 : Nat) (dses r).ha))
  (List.take (dses r).w.length (List.drop (0 : Nat) (dses r).w))
  (List.take (dses r).a.length (List.drop (0 : Nat) (dses r).a)))
  (ifB
  (calmN
  (Ses.mk (dses r).e
  (List.take (dses r).it.length (List.drop (0 : Nat) (dses r).it)) (dses r).b
  (List.take (dses r).ha.length (List.drop (0 : Nat) (dses r).ha))
  (List.take (dses r).w.length (List.drop (0 : Nat) (dses r).w))
  (List.take (dses r).a.length (List.drop (0 : Nat) (dses r).a))) ==
  calmN
  (Ses.mk (dses r).e
  (List.take (dses r).it.length (List.drop (0 : Nat) (dses r).it)) (dses r).b
  (List.take (dses r).ha.length (List.drop (0 : Nat) (dses r).ha))
  (List.take (dses r).w.length (List.drop (0 : Nat) (dses r).w))
  (List.take (dses r).a.length (List.drop (0 : Nat) (dses r).a))))
  (ifB
  (decide
  ((calmO
  (Ses.mk (dses r).e
  (List.take (dses r).it.length (List.drop (0 : Nat) (dses r).it))
  (dses r).b
  (List.take (dses r).ha.length (List.drop (0 : Nat) (dses r).ha))
  (List.take (dses r).w.length (List.drop (0 : Nat) (dses r).w))
  (List.take (dses r).a.length (List.drop (0 : Nat) (dses r).a)))).e =
  (calmO
  (Ses.mk (dses r).e
  (List.take (dses r).it.length (List.drop (0 : Nat) (dses r).it))
  (dses r).b
  (List.take (dses r).ha.length (List.drop (0 : Nat) (dses r).ha))
  (List.take (dses r).w.length (List.drop (0 : Nat) (dses r).w))
  (List.take (dses r).a.length (List.drop (0 : Nat) (dses r).a)))).e ∧
  (calmO
  (Ses.mk (dses r).e
  (List.take (dses r).it.length (List.drop (0 : Nat) (dses r).it))
  (dses r).b
  (List.take (dses r).ha.length (List.drop (0 : Nat) (dses r).ha))
  (List.take (dses r).w.length (List.drop (0 : Nat) (dses r).w))
  (List.take (dses r).a.length (List.drop (0 : Nat) (dses r).a)))).b =
  (calmO
  (Ses.mk (dses r).e
  (List.take (dses r).it.length (List.drop (0 : Nat) (dses r).it))
  (dses r).b
  (List.take (dses r).ha.length (List.drop (0 : Nat) (dses r).ha))
  (List.take (dses r).w.length (List.drop (0 : Nat) (dses r).w))
  (List.take (dses r).a.length (List.drop (0 : Nat) (dses r).a)))).b ∧
  List.take
  (calmO
  (Ses.mk (dses r).e
  (List.take (dses r).it.length (List.drop (0 : Nat) (dses r).it))
  (dses r).b
  (List.take (dses r).ha.length (List.drop (0 : Nat) (dses r).ha))
  (List.take (dses r).w.length (List.drop (0 : Nat) (dses r).w))
  (List.take (dses r).a.length
  (List.drop (0 : Nat) (dses r).a)))).it.length
  (List.drop (0 : Nat)
  (calmO
  (Ses.mk (dses r).e
  (List.take (dses r).it.length (List.drop (0 : Nat) (dses r).it))
  (dses r).b
  (List.take (dses r).ha.length (List.drop (0 : Nat) (dses r).ha))
  (List.take (dses r).w.length (List.drop (0 : Nat) (dses r).w))
  (List.take (dses r).a.length
  (List.drop (0 : Nat) (dses r).a)))).it) =
  List.take
  (calmO
  (Ses.mk (dses r).e
  (List.take (dses r).it.length (List.drop (0 : Nat) (dses r).it))
  (dses r).b
  (List.take (dses r).ha.length (List.drop (0 : Nat) (dses r).ha))
  (List.take (dses r).w.length (List.drop (0 : Nat) (dses r).w))
  (List.take (dses r).a.length
  (List.drop (0 : Nat) (dses r).a)))).it.length
  (List.drop (0 : Nat)
  (calmO
  (Ses.mk (dses r).e
  (List.take (dses r).it.length (List.drop (0 : Nat) (dses r).it))
  (dses r).b
  (List.take (dses r).ha.length (List.drop (0 : Nat) (dses r).ha))
  (List.take (dses r).w.length (List.drop (0 : Nat) (dses r).w))
  (List.take (dses r).a.length
  (List.drop (0 : Nat) (dses r).a)))).it) ∧
  List.take
  (calmO
  (Ses.mk (dses r).e
  (List.take (dses r).it.length
  (List.drop (0 : Nat) (dses r).it))
  (dses r).b
  (List.take (dses r).ha.length
  (List.drop (0 : Nat) (dses r).ha))
  (List.take (dses r).w.length (List.drop (0 : Nat) (dses r).w))
  (List.take (dses r).a.length
  (List.drop (0 : Nat) (dses r).a)))).ha.length
  (List.drop (0 : Nat)
  (calmO
  (Ses.mk (dses r).e
  (List.take (dses r).it.length
  (List.drop (0 : Nat) (dses r).it))
  (dses r).b
  (List.take (dses r).ha.length
  (List.drop (0 : Nat) (dses r).ha))
  (List.take (dses r).w.length (List.drop (0 : Nat) (dses r).w))
  (List.take (dses r).a.length
  (List.drop (0 : Nat) (dses r).a)))).ha) =
  List.take
  (calmO
  (Ses.mk (dses r).e
  (List.take (dses r).it.length
  (List.drop (0 : Nat) (dses r).it))
  (dses r).b
  (List.take (dses r).ha.length
  (List.drop (0 : Nat) (dses r).ha))
  (List.take (dses r).w.length (List.drop (0 : Nat) (dses r).w))
  (List.take (dses r).a.length
  (List.drop (0 : Nat) (dses r).a)))).ha.length
  (List.drop (0 : Nat)
  (calmO
  (Ses.mk (dses r).e
  (List.take (dses r).it.length
  (List.drop (0 : Nat) (dses r).it))
  (dses r).b
  (List.take (dses r).ha.length
  (List.drop (0 : Nat) (dses r).ha))
  (List.take (dses r).w.length (List.drop (0 : Nat) (dses r).w))
  (List.take (dses r).a.length
  (List.drop (0 : Nat) (dses r).a)))).ha) ∧
  List.take
  (calmO
  (Ses.mk (dses r).e
  (List.take (dses r).it.length
  (List.drop (0 : Nat) (dses r).it))
  (dses r).b
  (List.take (dses r).ha.length
  (List.drop (0 : Nat) (dses r).ha))
  (List.take (dses r).w.length
  (List.drop (0 : Nat) (dses r).w))
  (List.take (dses r).a.length
  (List.drop (0 : Nat) (dses r).a)))).w.length
  (List.drop (0 : Nat)
  (calmO
  (Ses.mk (dses r).e
  (List.take (dses r).it.length
  (List.drop (0 : Nat) (dses r).it))
  (dses r).b
  (List.take (dses r).ha.length
  (List.drop (0 : Nat) (dses r).ha))
  (List.take (dses r).w.length
  (List.drop (0 : Nat) (dses r).w))
  (List.take (dses r).a.length
  (List.drop (0 : Nat) (dses r).a)))).w) =
  List.take
  (calmO
  (Ses.mk (dses r).e
  (List.take (dses r).it.length
  (List.drop (0 : Nat) (dses r).it))
  (dses r).b
  (List.take (dses r).ha.length
  (List.drop (0 : Nat) (dses r).ha))
  (List.take (dses r).w.length
  (List.drop (0 : Nat) (dses r).w))
  (List.take (dses r).a.length
  (List.drop (0 : Nat) (dses r).a)))).w.length
  (List.drop (0 : Nat)
  (calmO
  (Ses.mk (dses r).e
  (List.take (dses r).it.length
  (List.drop (0 : Nat) (dses r).it))
  (dses r).b
  (List.take (dses r).ha.length
  (List.drop (0 : Nat) (dses r).ha))
  (List.take (dses r).w.length
  (List.drop (0 : Nat) (dses r).w))
  (List.take (dses r).a.length
  (List.drop (0 : Nat) (dses r).a)))).w) ∧
  List.take
  (calmO
  (Ses.mk (dses r).e
  (List.take (dses r).it.length
  (List.drop (0 : Nat) (dses r).it))
  (dses r).b
  (List.take (dses r).ha.length
  (List.drop (0 : Nat) (dses r).ha))
  (List.take (dses r).w.length
  (List.drop (0 : Nat) (dses r).w))
  (List.take (dses r).a.length
  (List.drop (0 : Nat) (dses r).a)))).a.length
  (List.drop (0 : Nat)
  (calmO
  (Ses.mk (dses r).e
  (List.take (dses r).it.length
  (List.drop (0 : Nat) (dses r).it))
  (dses r).b
  (List.take (dses r).ha.length
  (List.drop (0 : Nat) (dses r).ha))
  (List.take (dses r).w.length
  (List.drop (0 : Nat) (dses r).w))
  (List.take (dses r).a.length
  (List.drop (0 : Nat) (dses r).a)))).a) =
  List.take
  (calmO
  (Ses.mk (dses r).e
  (List.take (dses r).it.length
  (List.drop (0 : Nat) (dses r).it))
  (dses r).b
  (List.take (dses r).ha.length
  (List.drop (0 : Nat) (dses r).ha))
  (List.take (dses r).w.length
  (List.drop (0 : Nat) (dses r).w))
  (List.take (dses r).a.length
  (List.drop (0 : Nat) (dses r).a)))).a.length
  (List.drop (0 : Nat)
  (calmO
  (Ses.mk (dses r).e
  (List.take (dses r).it.length
  (List.drop (0 : Nat) (dses r).it))
  (dses r).b
  (List.take (dses r).ha.length
  (List.drop (0 : Nat) (dses r).ha))
  (List.take (dses r).w.length
  (List.drop (0 : Nat) (dses r).w))
  (List.take (dses r).a.length
  (List.drop (0 : Nat) (dses r).a)))).a)))
  (some (V.b false, [])) (some (V.b false, [])))
  (some (V.b false, [])))
  (some (V.b false, []))))
  (ifB (decide ((dnew r).length ≤ (20 : Nat)))
  (ifB
  (goodS (dses r).e (List.take (dses r).it.length (List.drop (0 : Nat) (dses r).it))
  (dses r).b (List.take (dses r).ha.length (List.drop (0 : Nat) (dses r).ha))
  (List.take (dses r).w.length (List.drop (0 : Nat) (dses r).w))
  (List.take (dses r).a.length (List.drop (0 : Nat) (dses r).a)) ==
  goodS (dses r).e (List.take (dses r).it.length (List.drop (0 : Nat) (dses r).it))
  (dses r).b (List.take (dses r).ha.length (List.drop (0 : Nat) (dses r).ha))
  (List.take (dses r).w.length (List.drop (0 : Nat) (dses r).w))
  (List.take (dses r).a.length (List.drop (0 : Nat) (dses r).a)))
  (ifB
  (calmN
  (Ses.mk (dses r).e
  (List.take (dses r).it.length (List.drop (0 : Nat) (dses r).it)) (dses r).b
  (List.take (dses r).ha.length (List.drop (0 : Nat) (dses r).ha))
  (List.take (dses r).w.length (List.drop (0 : Nat) (dses r).w))
  (List.take (dses r).a.length (List.drop (0 : Nat) (dses r).a))) ==
  calmN
  (Ses.mk (dses r).e
  (List.take (dses r).it.length (List.drop (0 : Nat) (dses r).it)) (dses r).b
  (List.take (dses r).ha.length (List.drop (0 : Nat) (dses r).ha))
  (List.take (dses r).w.length (List.drop (0 : Nat) (dses r).w))
  (List.take (dses r).a.length (List.drop (0 : Nat) (dses r).a))))
  (ifB
  (decide
  ((calmO
  (Ses.mk (dses r).e
  (List.take (dses r).it.length (List.drop (0 : Nat) (dses r).it))
  (dses r).b
  (List.take (dses r).ha.length (List.drop (0 : Nat) (dses r).ha))
  (List.take (dses r).w.length (List.drop (0 : Nat) (dses r).w))
  (List.take (dses r).a.length (List.drop (0 : Nat) (dses r).a)))).e =
  (calmO
  (Ses.mk (dses r).e
  (List.take (dses r).it.length (List.drop (0 : Nat) (dses r).it))
  (dses r).b
  (List.take (dses r).ha.length (List.drop (0 : Nat) (dses r).ha))
  (List.take (dses r).w.length (List.drop (0 : Nat) (dses r).w))
  (List.take (dses r).a.length (List.drop (0 : Nat) (dses r).a)))).e ∧
  (calmO
  (Ses.mk (dses r).e
  (List.take (dses r).it.length (List.drop (0 : Nat) (dses r).it))
  (dses r).b
  (List.take (dses r).ha.length (List.drop (0 : Nat) (dses r).ha))
  (List.take (dses r).w.length (List.drop (0 : Nat) (dses r).w))
  (List.take (dses r).a.length (List.drop (0 : Nat) (dses r).a)))).b =
  (calmO
  (Ses.mk (dses r).e
  (List.take (dses r).it.length (List.drop (0 : Nat) (dses r).it))
  (dses r).b
  (List.take (dses r).ha.length (List.drop (0 : Nat) (dses r).ha))
  (List.take (dses r).w.length (List.drop (0 : Nat) (dses r).w))
  (List.take (dses r).a.length (List.drop (0 : Nat) (dses r).a)))).b ∧
  List.take
  (calmO
  (Ses.mk (dses r).e
  (List.take (dses r).it.length (List.drop (0 : Nat) (dses r).it))
  (dses r).b
  (List.take (dses r).ha.length (List.drop (0 : Nat) (dses r).ha))
  (List.take (dses r).w.length (List.drop (0 : Nat) (dses r).w))
  (List.take (dses r).a.length
  (List.drop (0 : Nat) (dses r).a)))).it.length
  (List.drop (0 : Nat)
  (calmO
  (Ses.mk (dses r).e
  (List.take (dses r).it.length (List.drop (0 : Nat) (dses r).it))
  (dses r).b
  (List.take (dses r).ha.length (List.drop (0 : Nat) (dses r).ha))
  (List.take (dses r).w.length (List.drop (0 : Nat) (dses r).w))
  (List.take (dses r).a.length
  (List.drop (0 : Nat) (dses r).a)))).it) =
  List.take
  (calmO
  (Ses.mk (dses r).e
  (List.take (dses r).it.length (List.drop (0 : Nat) (dses r).it))
  (dses r).b
  (List.take (dses r).ha.length (List.drop (0 : Nat) (dses r).ha))
  (List.take (dses r).w.length (List.drop (0 : Nat) (dses r).w))
  (List.take (dses r).a.length
  (List.drop (0 : Nat) (dses r).a)))).it.length
  (List.drop (0 : Nat)
  (calmO
  (Ses.mk (dses r).e
  (List.take (dses r).it.length (List.drop (0 : Nat) (dses r).it))
  (dses r).b
  (List.take (dses r).ha.length (List.drop (0 : Nat) (dses r).ha))
  (List.take (dses r).w.length (List.drop (0 : Nat) (dses r).w))
  (List.take (dses r).a.length
  (List.drop (0 : Nat) (dses r).a)))).it) ∧
  List.take
  (calmO
  (Ses.mk (dses r).e
  (List.take (dses r).it.length
  (List.drop (0 : Nat) (dses r).it))
  (dses r).b
  (List.take (dses r).ha.length
  (List.drop (0 : Nat) (dses r).ha))
  (List.take (dses r).w.length (List.drop (0 : Nat) (dses r).w))
  (List.take (dses r).a.length
  (List.drop (0 : Nat) (dses r).a)))).ha.length
  (List.drop (0 : Nat)
  (calmO
  (Ses.mk (dses r).e
  (List.take (dses r).it.length
  (List.drop (0 : Nat) (dses r).it))
  (dses r).b
  (List.take (dses r).ha.length
  (List.drop (0 : Nat) (dses r).ha))
  (List.take (dses r).w.length (List.drop (0 : Nat) (dses r).w))
  (List.take (dses r).a.length
  (List.drop (0 : Nat) (dses r).a)))).ha) =
  List.take
  (calmO
  (Ses.mk (dses r).e
  (List.take (dses r).it.length
  (List.drop (0 : Nat) (dses r).it))
  (dses r).b
  (List.take (dses r).ha.length
  (List.drop (0 : Nat) (dses r).ha))
  (List.take (dses r).w.length (List.drop (0 : Nat) (dses r).w))
  (List.take (dses r).a.length
  (List.drop (0 : Nat) (dses r).a)))).ha.length
  (List.drop (0 : Nat)
  (calmO
  (Ses.mk (dses r).e
  (List.take (dses r).it.length
  (List.drop (0 : Nat) (dses r).it))
  (dses r).b
  (List.take (dses r).ha.length
  (List.drop (0 : Nat) (dses r).ha))
  (List.take (dses r).w.length (List.drop (0 : Nat) (dses r).w))
  (List.take (dses r).a.length
  (List.drop (0 : Nat) (dses r).a)))).ha) ∧
  List.take
  (calmO
  (Ses.mk (dses r).e
  (List.take (dses r).it.length
  (List.drop (0 : Nat) (dses r).it))
  (dses r).b
  (List.take (dses r).ha.length
  (List.drop (0 : Nat) (dses r).ha))
  (List.take (dses r).w.length
  (List.drop (0 : Nat) (dses r).w))
  (List.take (dses r).a.length
  (List.drop (0 : Nat) (dses r).a)))).w.length
  (List.drop (0 : Nat)
  (calmO
  (Ses.mk (dses r).e
  (List.take (dses r).it.length
  (List.drop (0 : Nat) (dses r).it))
  (dses r).b
  (List.take (dses r).ha.length
  (List.drop (0 : Nat) (dses r).ha))
  (List.take (dses r).w.length
  (List.drop (0 : Nat) (dses r).w))
  (List.take (dses r).a.length
  (List.drop (0 : Nat) (dses r).a)))).w) =
  List.take
  (calmO
  (Ses.mk (dses r).e
  (List.take (dses r).it.length
  (List.drop (0 : Nat) (dses r).it))
  (dses r).b
  (List.take (dses r).ha.length
  (List.drop (0 : Nat) (dses r).ha))
  (List.take (dses r).w.length
  (List.drop (0 : Nat) (dses r).w))
  (List.take (dses r).a.length
  (List.drop (0 : Nat) (dses r).a)))).w.length
  (List.drop (0 : Nat)
  (calmO
  (Ses.mk (dses r).e
  (List.take (dses r).it.length
  (List.drop (0 : Nat) (dses r).it))
  (dses r).b
  (List.take (dses r).ha.length
  (List.drop (0 : Nat) (dses r).ha))
  (List.take (dses r).w.length
  (List.drop (0 : Nat) (dses r).w))
  (List.take (dses r).a.length
  (List.drop (0 : Nat) (dses r).a)))).w) ∧
  List.take
  (calmO
  (Ses.mk (dses r).e
  (List.take (dses r).it.length
  (List.drop (0 : Nat) (dses r).it))
  (dses r).b
  (List.take (dses r).ha.length
  (List.drop (0 : Nat) (dses r).ha))
  (List.take (dses r).w.length
  (List.drop (0 : Nat) (dses r).w))
  (List.take (dses r).a.length
  (List.drop (0 : Nat) (dses r).a)))).a.length
  (List.drop (0 : Nat)
  (calmO
  (Ses.mk (dses r).e
  (List.take (dses r).it.length
  (List.drop (0 : Nat) (dses r).it))
  (dses r).b
  (List.take (dses r).ha.length
  (List.drop (0 : Nat) (dses r).ha))
  (List.take (dses r).w.length
  (List.drop (0 : Nat) (dses r).w))
  (List.take (dses r).a.length
  (List.drop (0 : Nat) (dses r).a)))).a) =
  List.take
  (calmO
  (Ses.mk (dses r).e
  (List.take (dses r).it.length
  (List.drop (0 : Nat) (dses r).it))
  (dses r).b
  (List.take (dses r).ha.length
  (List.drop (0 : Nat) (dses r).ha))
  (List.take (dses r).w.length
  (List.drop (0 : Nat) (dses r).w))
  (List.take (dses r).a.length
  (List.drop (0 : Nat) (dses r).a)))).a.length
  (List.drop (0 : Nat)
  (calmO
  (Ses.mk (dses r).e
  (List.take (dses r).it.length
  (List.drop (0 : Nat) (dses r).it))
  (dses r).b
  (List.take (dses r).ha.length
  (List.drop (0 : Nat) (dses r).ha))
  (List.take (dses r).w.length
  (List.drop (0 : Nat) (dses r).w))
  (List.take (dses r).a.length
  (List.drop (0 : Nat) (dses r).a)))).a)))
  (some (V.b false, [])) (some (V.b false, [])))
  (some (V.b false, [])))
  (some (V.b false, [])))
  (ifB
  (goodS (dses r).e (List.take (dses r).it.length (List.drop (0 : Nat) (dses r).it))
  (dses r).b (List.take (dses r).ha.length (List.drop (0 : Nat) (dses r).ha))
  (List.take (dses r).w.length (List.drop (0 : Nat) (dses r).w))
  (List.take (dses r).a.length (List.drop (0 : Nat) (dses r).a)) ==
  goodS (dses r).e (List.take (dses r).it.length (List.drop (0 : Nat) (dses r).it))
  (dses r).b (List.take (dses r).ha.length (List.drop (0 : Nat) (dses r).ha))
  (List.take (dses r).w.length (List.drop (0 : Nat) (dses r).w))
  (List.take (dses r).a.length (List.drop (0 : Nat) (dses r).a)))
  (ifB
  (calmN
  (Ses.mk (dses r).e
  (List.take (dses r).it.length (List.drop (0 : Nat) (dses r).it)) (dses r).b
  (List.take (dses r).ha.length (List.drop (0 : Nat) (dses r).ha))
  (List.take (dses r).w.length (List.drop (0 : Nat) (dses r).w))
  (List.take (dses r).a.length (List.drop (0 : Nat) (dses r).a))) ==
  calmN
  (Ses.mk (dses r).e
  (List.take (dses r).it.length (List.drop (0 : Nat) (dses r).it)) (dses r).b
  (List.take (dses r).ha.length (List.drop (0 : Nat) (dses r).ha))
  (List.take (dses r).w.length (List.drop (0 : Nat) (dses r).w))
  (List.take (dses r).a.length (List.drop (0 : Nat) (dses r).a))))
  (ifB
  (decide
  ((calmO
  (Ses.mk (dses r).e
  (List.take (dses r).it.length (List.drop (0 : Nat) (dses r).it))
  (dses r).b
  (List.take (dses r).ha.length (List.drop (0 : Nat) (dses r).ha))
  (List.take (dses r).w.length (List.drop (0 : Nat) (dses r).w))
  (List.take (dses r).a.length (List.drop (0 : Nat) (dses r).a)))).e =
  (calmO
  (Ses.mk (dses r).e
  (List.take (dses r).it.length (List.drop (0 : Nat) (dses r).it))
  (dses r).b
  (List.take (dses r).ha.length (List.drop (0 : Nat) (dses r).ha))
  (List.take (dses r).w.length (List.drop (0 : Nat) (dses r).w))
  (List.take (dses r).a.length (List.drop (0 : Nat) (dses r).a)))).e ∧
  (calmO
  (Ses.mk (dses r).e
  (List.take (dses r).it.length (List.drop (0 : Nat) (dses r).it))
  (dses r).b
  (List.take (dses r).ha.length (List.drop (0 : Nat) (dses r).ha))
  (List.take (dses r).w.length (List.drop (0 : Nat) (dses r).w))
  (List.take (dses r).a.length (List.drop (0 : Nat) (dses r).a)))).b =
  (calmO
  (Ses.mk (dses r).e
  (List.take (dses r).it.length (List.drop (0 : Nat) (dses r).it))
  (dses r).b
  (List.take (dses r).ha.length (List.drop (0 : Nat) (dses r).ha))
  (List.take (dses r).w.length (List.drop (0 : Nat) (dses r).w))
  (List.take (dses r).a.length (List.drop (0 : Nat) (dses r).a)))).b ∧
  List.take
  (calmO
  (Ses.mk (dses r).e
  (List.take (dses r).it.length (List.drop (0 : Nat) (dses r).it))
  (dses r).b
  (List.take (dses r).ha.length (List.drop (0 : Nat) (dses r).ha))
  (List.take (dses r).w.length (List.drop (0 : Nat) (dses r).w))
  (List.take (dses r).a.length
  (List.drop (0 : Nat) (dses r).a)))).it.length
  (List.drop (0 : Nat)
  (calmO
  (Ses.mk (dses r).e
  (List.take (dses r).it.length (List.drop (0 : Nat) (dses r).it))
  (dses r).b
  (List.take (dses r).ha.length (List.drop (0 : Nat) (dses r).ha))
  (List.take (dses r).w.length (List.drop (0 : Nat) (dses r).w))
  (List.take (dses r).a.length
  (List.drop (0 : Nat) (dses r).a)))).it) =
  List.take
  (calmO
  (Ses.mk (dses r).e
  (List.take (dses r).it.length (List.drop (0 : Nat) (dses r).it))
  (dses r).b
  (List.take (dses r).ha.length (List.drop (0 : Nat) (dses r).ha))
  (List.take (dses r).w.length (List.drop (0 : Nat) (dses r).w))
  (List.take (dses r).a.length
  (List.drop (0 : Nat) (dses r).a)))).it.length
  (List.drop (0 : Nat)
  (calmO
  (Ses.mk (dses r).e
  (List.take (dses r).it.length (List.drop (0 : Nat) (dses r).it))
  (dses r).b
  (List.take (dses r).ha.length (List.drop (0 : Nat) (dses r).ha))
  (List.take (dses r).w.length (List.drop (0 : Nat) (dses r).w))
  (List.take (dses r).a.length
  (List.drop (0 : Nat) (dses r).a)))).it) ∧
  List.take
  (calmO
  (Ses.mk (dses r).e
  (List.take (dses r).it.length
  (List.drop (0 : Nat) (dses r).it))
  (dses r).b
  (List.take (dses r).ha.length
  (List.drop (0 : Nat) (dses r).ha))
  (List.take (dses r).w.length (List.drop (0 : Nat) (dses r).w))
  (List.take (dses r).a.length
  (List.drop (0 : Nat) (dses r).a)))).ha.length
  (List.drop (0 : Nat)
  (calmO
  (Ses.mk (dses r).e
  (List.take (dses r).it.length
  (List.drop (0 : Nat) (dses r).it))
  (dses r).b
  (List.take (dses r).ha.length
  (List.drop (0 : Nat) (dses r).ha))
  (List.take (dses r).w.length (List.drop (0 : Nat) (dses r).w))
  (List.take (dses r).a.length
  (List.drop (0 : Nat) (dses r).a)))).ha) =
  List.take
  (calmO
  (Ses.mk (dses r).e
  (List.take (dses r).it.length
  (List.drop (0 : Nat) (dses r).it))
  (dses r).b
  (List.take (dses r).ha.length
  (List.drop (0 : Nat) (dses r).ha))
  (List.take (dses r).w.length (List.drop (0 : Nat) (dses r).w))
  (List.take (dses r).a.length
  (List.drop (0 : Nat) (dses r).a)))).ha.length
  (List.drop (0 : Nat)
  (calmO
  (Ses.mk (dses r).e
  (List.take (dses r).it.length
  (List.drop (0 : Nat) (dses r).it))
  (dses r).b
  (List.take (dses r).ha.length
  (List.drop (0 : Nat) (dses r).ha))
  (List.take (dses r).w.length (List.drop (0 : Nat) (dses r).w))
  (List.take (dses r).a.length
  (List.drop (0 : Nat) (dses r).a)))).ha) ∧
  List.take
  (calmO
  (Ses.mk (dses r).e
  (List.take (dses r).it.length
  (List.drop (0 : Nat) (dses r).it))
  (dses r).b
  (List.take (dses r).ha.length
  (List.drop (0 : Nat) (dses r).ha))
  (List.take (dses r).w.length
  (List.drop (0 : Nat) (dses r).w))
  (List.take (dses r).a.length
  (List.drop (0 : Nat) (dses r).a)))).w.length
  (List.drop (0 : Nat)
  (calmO
  (Ses.mk (dses r).e
  (List.take (dses r).it.length
  (List.drop (0 : Nat) (dses r).it))
  (dses r).b
  (List.take (dses r).ha.length
  (List.drop (0 : Nat) (dses r).ha))
  (List.take (dses r).w.length
  (List.drop (0 : Nat) (dses r).w))
  (List.take (dses r).a.length
  (List.drop (0 : Nat) (dses r).a)))).w) =
  List.take
  (calmO
  (Ses.mk (dses r).e
  (List.take (dses r).it.length
  (List.drop (0 : Nat) (dses r).it))
  (dses r).b
  (List.take (dses r).ha.length
  (List.drop (0 : Nat) (dses r).ha))
  (List.take (dses r).w.length
  (List.drop (0 : Nat) (dses r).w))
  (List.take (dses r).a.length
  (List.drop (0 : Nat) (dses r).a)))).w.length
  (List.drop (0 : Nat)
  (calmO
  (Ses.mk (dses r).e
  (List.take (dses r).it.length
  (List.drop (0 : Nat) (dses r).it))
  (dses r).b
  (List.take (dses r).ha.length
  (List.drop (0 : Nat) (dses r).ha))
  (List.take (dses r).w.length
  (List.drop (0 : Nat) (dses r).w))
  (List.take (dses r).a.length
  (List.drop (0 : Nat) (dses r).a)))).w) ∧
  List.take
  (calmO
  (Ses.mk (dses r).e
  (List.take (dses r).it.length
  (List.drop (0 : Nat) (dses r).it))
  (dses r).b
  (List.take (dses r).ha.length
  (List.drop (0 : Nat) (dses r).ha))
  (List.take (dses r).w.length
  (List.drop (0 : Nat) (dses r).w))
  (List.take (dses r).a.length
  (List.drop (0 : Nat) (dses r).a)))).a.length
  (List.drop (0 : Nat)
  (calmO
  (Ses.mk (dses r).e
  (List.take (dses r).it.length
  (List.drop (0 : Nat) (dses r).it))
  (dses r).b
  (List.take (dses r).ha.length
  (List.drop (0 : Nat) (dses r).ha))
  (List.take (dses r).w.length
  (List.drop (0 : Nat) (dses r).w))
  (List.take (dses r).a.length
  (List.drop (0 : Nat) (dses r).a)))).a) =
  List.take
  (calmO
  (Ses.mk (dses r).e
  (List.take (dses r).it.length
  (List.drop (0 : Nat) (dses r).it))
  (dses r).b
  (List.take (dses r).ha.length
  (List.drop (0 : Nat) (dses r).ha))
  (List.take (dses r).w.length
  (List.drop (0 : Nat) (dses r).w))
  (List.take (dses r).a.length
  (List.drop (0 : Nat) (dses r).a)))).a.length
  (List.drop (0 : Nat)
  (calmO
  (Ses.mk (dses r).e
  (List.take (dses r).it.length
  (List.drop (0 : Nat) (dses r).it))
  (dses r).b
  (List.take (dses r).ha.length
  (List.drop (0 : Nat) (dses r).ha))
  (List.take (dses r).w.length
  (List.drop (0 : Nat) (dses r).w))
  (List.take (dses r).a.length
  (List.drop (0 : Nat) (dses r).a)))).a)))
  (some (V.b true, [])) (some (V.b false, [])))
  (some (V.b false, [])))
  (some (V.b false, [])))))))))))))))))) : _) := by kernel_rfl
end Go.Proofs.Ytjghbihlgfjebaa.Den
