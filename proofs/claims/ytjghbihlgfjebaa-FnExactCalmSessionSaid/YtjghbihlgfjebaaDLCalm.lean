/- What functions of the program do, by the machine: LCalm. -/
import Derived.Test.YtjghbihlgfjebaaDCalm6
import Derived.KernelRfl
import Derived.Test.YtjghbihlgfjebaaRows
namespace Go.Proofs.Ytjghbihlgfjebaa.Den
open Go.Proofs
set_option maxRecDepth 100000
theorem marks_length {α : Type} (g : Int → α) (st : Int) : ∀ (k : Int) (n : Nat), (marks g st k n).length = n
  | _, 0 => rfl
  | k, n + 1 => by simp [marks, marks_length g st (k + st) n]
theorem law_knows : Knows Try.prog (look [(9, .rd1 szSessionG), (10, .rd1 calmG), (11, .rd1 toSessionG), (12, .rd1 calmG), (13, .rd1 eqSessionG), (14, .own markSessionG), (15, .rd1 heldSessionG)]) := KnowsL.knows (KnowsL.cons (enters_fn Try.func9 (by kernel_rfl) (by kernel_rfl)) szSession (KnowsL.cons (enters_fn Try.func10 (by kernel_rfl) (by kernel_rfl)) specCalm (KnowsL.cons (enters_fn Try.func11 (by kernel_rfl) (by kernel_rfl)) toSession (KnowsL.cons (enters_fn Try.func12 (by kernel_rfl) (by kernel_rfl)) implCalm (KnowsL.cons (enters_fn Try.func13 (by kernel_rfl) (by kernel_rfl)) eqSession (KnowsL.cons (enters_fn Try.func14 (by kernel_rfl) (by kernel_rfl)) markSession (KnowsL.cons (enters_fn Try.func15 (by kernel_rfl) (by kernel_rfl)) heldSession KnowsL.nil)))))))
theorem law_fun (s0 : Int) (s1 : List (List UInt8)) (s2 : Int) (s3 : List (List UInt8)) (s4 : List (Int × Int × List UInt8 × Unit)) (s5 : List (Int × Int × Unit)) (h1 : ∀ z ∈ s1, z.length ≤ maxI) (h3 : ∀ z ∈ s3, z.length ≤ maxI) (h4 : ∀ z ∈ s4, z.2.2.1.length ≤ maxI) : funK Try.prog (look [(9, .rd1 szSessionG), (10, .rd1 calmG), (11, .rd1 toSessionG), (12, .rd1 calmG), (13, .rd1 eqSessionG), (14, .own markSessionG), (15, .rd1 heldSessionG)]) (look []) Try.f3 [.agg [.i .i64 s0, .sl .str s1, .i .i64 s2, .sl .str s3, .sl (.pair (.int .i64) (.pair (.int .i64) (.pair .str .unit))) s4, .sl (.pair (.int .i64) (.pair (.int .i64) .unit)) s5]] [] = some (.b true, []) := by
  have e : funK Try.prog (look [(9, .rd1 szSessionG), (10, .rd1 calmG), (11, .rd1 toSessionG), (12, .rd1 calmG), (13, .rd1 eqSessionG), (14, .own markSessionG), (15, .rd1 heldSessionG)]) (look []) Try.f3 [.agg [.i .i64 s0, .sl .str s1, .i .i64 s2, .sl .str s3, .sl (.pair (.int .i64) (.pair (.int .i64) (.pair .str .unit))) s4, .sl (.pair (.int .i64) (.pair (.int .i64) .unit)) s5]] [] = ((ifT
  (decide
  ((0 : Int) ≤ (1048576 : Int) ∧
  (1048576 : Int) ≤ lim ∧
  (∀ (z : Cd.str.den), z ∈ s1 → List.length z ≤ maxI) ∧
  (∀ (z : Cd.str.den), z ∈ s3 → List.length z ≤ maxI) ∧
  ∀ (z : ((Cd.int IntKind.i64).pair ((Cd.int IntKind.i64).pair (Cd.str.pair Cd.unit))).den),
  z ∈ s4 → List.length z.snd.snd.fst ≤ maxI))
  (ifB
  (decide
  ((1048576 : Int) - (↑s1.length : Int) - szStrsW s1 - (↑s3.length : Int) - szStrsW s3 - (↑s4.length : Int) -
  szPacketsW s4 -
  (↑s5.length : Int) <
  (0 : Int)))
  (some (V.b true, []))
  (ifB
  (decide
  ((1048576 : Int) - (↑s1.length : Int) - szStrsW s1 - (↑s3.length : Int) - szStrsW s3 - (↑s4.length : Int) -
  szPacketsW s4 -
  (↑s5.length : Int) <
  (0 : Int)))
  (some (V.b true, []))
  (ifT
  (decide
  (s1.length ≤ (1000000000 : Nat) ∧
  s3.length ≤ (1000000000 : Nat) ∧ s4.length ≤ (1000000000 : Nat) ∧ s5.length ≤ (1000000000 : Nat)))
  (ifT (decide ((↑(List.take s3.length (List.drop (0 : Nat) s3)).length : Int) ≤ lim))
  (ifT
  (decide
  (s1.length ≤ (1000000000 : Nat) ∧
  s3.length ≤ (1000000000 : Nat) ∧ s4.length ≤ (1000000000 : Nat) ∧ s5.length ≤ (1000000000 : Nat)))
  (ifT (decide ((↑(List.take s3.length (List.drop (0 : Nat) s3)).length : Int) ≤ lim))
  (ifB
  (!decide
  ((calmO
  (Ses.mk s0 (List.take s1.length (List.drop (0 : Nat) s1)) s2
  (List.take s3.length (List.drop (0 : Nat) s3))
  (List.take s4.length (List.drop (0 : Nat) s4))
  (List.take s5.length (List.drop (0 : Nat) s5)))).e =
  (calmO
  (Ses.mk s0 (List.take s1.length (List.drop (0 : Nat) s1)) s2
  (List.take s3.length (List.drop (0 : Nat) s3))
  (List.take s4.length (List.drop (0 : Nat) s4))
  (List.take s5.length (List.drop (0 : Nat) s5)))).e ∧
  List.take
  (calmO
  (Ses.mk s0 (List.take s1.length (List.drop (0 : Nat) s1)) s2
  (List.take s3.length (List.drop (0 : Nat) s3))
  (List.take s4.length (List.drop (0 : Nat) s4))
  (List.take s5.length (List.drop (0 : Nat) s5)))).it.length
  (List.drop (0 : Nat)
  (calmO
  (Ses.mk s0 (List.take s1.length (List.drop (0 : Nat) s1)) s2
  (List.take s3.length (List.drop (0 : Nat) s3))
  (List.take s4.length (List.drop (0 : Nat) s4))
  (List.take s5.length (List.drop (0 : Nat) s5)))).it) =
  List.take
  (calmO
  (Ses.mk s0 (List.take s1.length (List.drop (0 : Nat) s1)) s2
  (List.take s3.length (List.drop (0 : Nat) s3))
  (List.take s4.length (List.drop (0 : Nat) s4))
  (List.take s5.length (List.drop (0 : Nat) s5)))).it.length
  (List.drop (0 : Nat)
  (calmO
  (Ses.mk s0 (List.take s1.length (List.drop (0 : Nat) s1)) s2
  (List.take s3.length (List.drop (0 : Nat) s3))
  (List.take s4.length (List.drop (0 : Nat) s4))
  (List.take s5.length (List.drop (0 : Nat) s5)))).it) ∧
  (calmO
  (Ses.mk s0 (List.take s1.length (List.drop (0 : Nat) s1)) s2
  (List.take s3.length (List.drop (0 : Nat) s3))
  (List.take s4.length (List.drop (0 : Nat) s4))
  (List.take s5.length (List.drop (0 : Nat) s5)))).b =
  (calmO
  (Ses.mk s0 (List.take s1.length (List.drop (0 : Nat) s1)) s2
  (List.take s3.length (List.drop (0 : Nat) s3))
  (List.take s4.length (List.drop (0 : Nat) s4))
  (List.take s5.length (List.drop (0 : Nat) s5)))).b ∧
  List.take
  (calmO
  (Ses.mk s0 (List.take s1.length (List.drop (0 : Nat) s1)) s2
  (List.take s3.length (List.drop (0 : Nat) s3))
  (List.take s4.length (List.drop (0 : Nat) s4))
  (List.take s5.length (List.drop (0 : Nat) s5)))).ha.length
  (List.drop (0 : Nat)
  (calmO
  (Ses.mk s0 (List.take s1.length (List.drop (0 : Nat) s1)) s2
  (List.take s3.length (List.drop (0 : Nat) s3))
  (List.take s4.length (List.drop (0 : Nat) s4))
  (List.take s5.length (List.drop (0 : Nat) s5)))).ha) =
  List.take
  (calmO
  (Ses.mk s0 (List.take s1.length (List.drop (0 : Nat) s1)) s2
  (List.take s3.length (List.drop (0 : Nat) s3))
  (List.take s4.length (List.drop (0 : Nat) s4))
  (List.take s5.length (List.drop (0 : Nat) s5)))).ha.length
  (List.drop (0 : Nat)
  (calmO
  (Ses.mk s0 (List.take s1.length (List.drop (0 : Nat) s1)) s2
  (List.take s3.length (List.drop (0 : Nat) s3))
  (List.take s4.length (List.drop (0 : Nat) s4))
  (List.take s5.length (List.drop (0 : Nat) s5)))).ha) ∧
  List.take
  (calmO
  (Ses.mk s0 (List.take s1.length (List.drop (0 : Nat) s1)) s2
  (List.take s3.length (List.drop (0 : Nat) s3))
  (List.take s4.length (List.drop (0 : Nat) s4))
  (List.take s5.length (List.drop (0 : Nat) s5)))).w.length
  (List.drop (0 : Nat)
  (calmO
  (Ses.mk s0 (List.take s1.length (List.drop (0 : Nat) s1)) s2
  (List.take s3.length (List.drop (0 : Nat) s3))
  (List.take s4.length (List.drop (0 : Nat) s4))
  (List.take s5.length (List.drop (0 : Nat) s5)))).w) =
  List.take
  (calmO
  (Ses.mk s0 (List.take s1.length (List.drop (0 : Nat) s1)) s2
  (List.take s3.length (List.drop (0 : Nat) s3))
  (List.take s4.length (List.drop (0 : Nat) s4))
  (List.take s5.length (List.drop (0 : Nat) s5)))).w.length
  (List.drop (0 : Nat)
  (calmO
  (Ses.mk s0 (List.take s1.length (List.drop (0 : Nat) s1)) s2
  (List.take s3.length (List.drop (0 : Nat) s3))
  (List.take s4.length (List.drop (0 : Nat) s4))
  (List.take s5.length (List.drop (0 : Nat) s5)))).w) ∧
  List.take
  (calmO
  (Ses.mk s0 (List.take s1.length (List.drop (0 : Nat) s1)) s2
  (List.take s3.length (List.drop (0 : Nat) s3))
  (List.take s4.length (List.drop (0 : Nat) s4))
  (List.take s5.length (List.drop (0 : Nat) s5)))).a.length
  (List.drop (0 : Nat)
  (calmO
  (Ses.mk s0 (List.take s1.length (List.drop (0 : Nat) s1)) s2
  (List.take s3.length (List.drop (0 : Nat) s3))
  (List.take s4.length (List.drop (0 : Nat) s4))
  (List.take s5.length (List.drop (0 : Nat) s5)))).a) =
  List.take
  (calmO
  (Ses.mk s0 (List.take s1.length (List.drop (0 : Nat) s1)) s2
  (List.take s3.length (List.drop (0 : Nat) s3))
  (List.take s4.length (List.drop (0 : Nat) s4))
  (List.take s5.length (List.drop (0 : Nat) s5)))).a.length
  (List.drop (0 : Nat)
  (calmO
  (Ses.mk s0 (List.take s1.length (List.drop (0 : Nat) s1)) s2
  (List.take s3.length (List.drop (0 : Nat) s3))
  (List.take s4.length (List.drop (0 : Nat) s4))
  (List.take s5.length (List.drop (0 : Nat) s5)))).a)))
  (some (V.b false, []))
  (ifB
  (calmN
  (Ses.mk s0 (List.take s1.length (List.drop (0 : Nat) s1)) s2
  (List.take s3.length (List.drop (0 : Nat) s3)) (List.take s4.length (List.drop (0 : Nat) s4))
  (List.take s5.length (List.drop (0 : Nat) s5))) !=
  calmN
  (Ses.mk s0 (List.take s1.length (List.drop (0 : Nat) s1)) s2
  (List.take s3.length (List.drop (0 : Nat) s3)) (List.take s4.length (List.drop (0 : Nat) s4))
  (List.take s5.length (List.drop (0 : Nat) s5))))
  (some (V.b false, []))
  (ifB
  (!goodS s0 (List.take s1.length (List.drop (0 : Nat) s1)) s2
  (List.take s3.length (List.drop (0 : Nat) s3)) (List.take s4.length (List.drop (0 : Nat) s4))
  (List.take s5.length (List.drop (0 : Nat) s5)) ==
  goodS s0 (List.take s1.length (List.drop (0 : Nat) s1)) s2
  (List.take s3.length (List.drop (0 : Nat) s3)) (List.take s4.length (List.drop (0 : Nat) s4))
  (List.take s5.length (List.drop (0 : Nat) s5)))
  (some (V.b false, []))
  (ifT
  (decide
  (s1.length ≤ (1000000000 : Nat) ∧
  s3.length ≤ (1000000000 : Nat) ∧
  s4.length ≤ (1000000000 : Nat) ∧ s5.length ≤ (1000000000 : Nat)))
  (ifB
  (!decide
  (s0 = s0 ∧
  List.take s1.length (List.drop (0 : Nat) s1) =
  List.take s1.length (List.drop (0 : Nat) s1) ∧
  s2 = s2 ∧
  List.take s3.length (List.drop (0 : Nat) s3) =
  List.take s3.length (List.drop (0 : Nat) s3) ∧
  List.take s4.length (List.drop (0 : Nat) s4) =
  List.take s4.length (List.drop (0 : Nat) s4) ∧
  List.take s5.length (List.drop (0 : Nat) s5) =
  List.take s5.length (List.drop (0 : Nat) s5)))
  (some (V.b false, []))
  (ifT
  (decide
  ((0 : Nat) + s1.length ≤ s1.length ∧
  (0 : Nat) + s3.length ≤ s3.length ∧
  (0 : Nat) + s4.length ≤ s4.length ∧
  (0 : Nat) + s5.length ≤ s5.length ∧
  (0 : Int) ≤ (1 : Int) ∧
  (1 : Int) + (1 : Int) * (↑s1.length : Int) + (1 : Int) * (↑s3.length : Int) +
  (3 : Int) * (↑s4.length : Int) +
  (2 : Int) * (↑s5.length : Int) ≤
  lim))
  (ifB
  (!decide
  ((calmO
  (Ses.mk s0 (List.take s1.length (List.drop (0 : Nat) s1)) s2
  (List.take s3.length (List.drop (0 : Nat) s3))
  (List.take s4.length (List.drop (0 : Nat) s4))
  (List.take s5.length (List.drop (0 : Nat) s5)))).e =
  (calmO
  (Ses.mk s0 (List.take s1.length (List.drop (0 : Nat) s1)) s2
  (List.take s3.length (List.drop (0 : Nat) s3))
  (List.take s4.length (List.drop (0 : Nat) s4))
  (List.take s5.length (List.drop (0 : Nat) s5)))).e ∧
  List.take
  (calmO
  (Ses.mk s0 (List.take s1.length (List.drop (0 : Nat) s1)) s2
  (List.take s3.length (List.drop (0 : Nat) s3))
  (List.take s4.length (List.drop (0 : Nat) s4))
  (List.take s5.length (List.drop (0 : Nat) s5)))).it.length
  (List.drop (0 : Nat)
  (calmO
  (Ses.mk s0 (List.take s1.length (List.drop (0 : Nat) s1)) s2
  (List.take s3.length (List.drop (0 : Nat) s3))
  (List.take s4.length (List.drop (0 : Nat) s4))
  (List.take s5.length (List.drop (0 : Nat) s5)))).it) =
  List.take
  (calmO
  (Ses.mk s0 (List.take s1.length (List.drop (0 : Nat) s1)) s2
  (List.take s3.length (List.drop (0 : Nat) s3))
  (List.take s4.length (List.drop (0 : Nat) s4))
  (List.take s5.length (List.drop (0 : Nat) s5)))).it.length
  (List.drop (0 : Nat)
  (calmO
  (Ses.mk s0 (List.take s1.length (List.drop (0 : Nat) s1)) s2
  (List.take s3.length (List.drop (0 : Nat) s3))
  (List.take s4.length (List.drop (0 : Nat) s4))
  (List.take s5.length (List.drop (0 : Nat) s5)))).it) ∧
  (calmO
  (Ses.mk s0 (List.take s1.length (List.drop (0 : Nat) s1)) s2
  (List.take s3.length (List.drop (0 : Nat) s3))
  (List.take s4.length (List.drop (0 : Nat) s4))
  (List.take s5.length (List.drop (0 : Nat) s5)))).b =
  (calmO
  (Ses.mk s0 (List.take s1.length (List.drop (0 : Nat) s1)) s2
  (List.take s3.length (List.drop (0 : Nat) s3))
  (List.take s4.length (List.drop (0 : Nat) s4))
  (List.take s5.length (List.drop (0 : Nat) s5)))).b ∧
  List.take
  (calmO
  (Ses.mk s0 (List.take s1.length (List.drop (0 : Nat) s1)) s2
  (List.take s3.length (List.drop (0 : Nat) s3))
  (List.take s4.length (List.drop (0 : Nat) s4))
  (List.take s5.length (List.drop (0 : Nat) s5)))).ha.length
  (List.drop (0 : Nat)
  (calmO
  (Ses.mk s0 (List.take s1.length (List.drop (0 : Nat) s1)) s2
  (List.take s3.length (List.drop (0 : Nat) s3))
  (List.take s4.length (List.drop (0 : Nat) s4))
  (List.take s5.length (List.drop (0 : Nat) s5)))).ha) =
  List.take
  (calmO
  (Ses.mk s0 (List.take s1.length (List.drop (0 : Nat) s1)) s2
  (List.take s3.length (List.drop (0 : Nat) s3))
  (List.take s4.length (List.drop (0 : Nat) s4))
  (List.take s5.length (List.drop (0 : Nat) s5)))).ha.length
  (List.drop (0 : Nat)
  (calmO
  (Ses.mk s0 (List.take s1.length (List.drop (0 : Nat) s1)) s2
  (List.take s3.length (List.drop (0 : Nat) s3))
  (List.take s4.length (List.drop (0 : Nat) s4))
  (List.take s5.length (List.drop (0 : Nat) s5)))).ha) ∧
  List.take
  (calmO
  (Ses.mk s0 (List.take s1.length (List.drop (0 : Nat) s1)) s2
  (List.take s3.length (List.drop (0 : Nat) s3))
  (List.take s4.length (List.drop (0 : Nat) s4))
  (List.take s5.length (List.drop (0 : Nat) s5)))).w.length
  (List.drop (0 : Nat)
  (calmO
  (Ses.mk s0 (List.take s1.length (List.drop (0 : Nat) s1)) s2
  (List.take s3.length (List.drop (0 : Nat) s3))
  (List.take s4.length (List.drop (0 : Nat) s4))
  (List.take s5.length (List.drop (0 : Nat) s5)))).w) =
  List.take
  (calmO
  (Ses.mk s0 (List.take s1.length (List.drop (0 : Nat) s1)) s2
  (List.take s3.length (List.drop (0 : Nat) s3))
  (List.take s4.length (List.drop (0 : Nat) s4))
  (List.take s5.length (List.drop (0 : Nat) s5)))).w.length
  (List.drop (0 : Nat)
  (calmO
  (Ses.mk s0 (List.take s1.length (List.drop (0 : Nat) s1)) s2
  (List.take s3.length (List.drop (0 : Nat) s3))
  (List.take s4.length (List.drop (0 : Nat) s4))
  (List.take s5.length (List.drop (0 : Nat) s5)))).w) ∧
  List.take
  (calmO
  (Ses.mk s0 (List.take s1.length (List.drop (0 : Nat) s1)) s2
  (List.take s3.length (List.drop (0 : Nat) s3))
  (List.take s4.length (List.drop (0 : Nat) s4))
  (List.take s5.length (List.drop (0 : Nat) s5)))).a.length
  (List.drop (0 : Nat)
  (calmO
  (Ses.mk s0 (List.take s1.length (List.drop (0 : Nat) s1)) s2
  (List.take s3.length (List.drop (0 : Nat) s3))
  (List.take s4.length (List.drop (0 : Nat) s4))
  (List.take s5.length (List.drop (0 : Nat) s5)))).a) =
  List.take
  (calmO
  (Ses.mk s0 (List.take s1.length (List.drop (0 : Nat) s1)) s2
  (List.take s3.length (List.drop (0 : Nat) s3))
  (List.take s4.length (List.drop (0 : Nat) s4))
  (List.take s5.length (List.drop (0 : Nat) s5)))).a.length
  (List.drop (0 : Nat)
  (calmO
  (Ses.mk s0 (List.take s1.length (List.drop (0 : Nat) s1)) s2
  (List.take s3.length (List.drop (0 : Nat) s3))
  (List.take s4.length (List.drop (0 : Nat) s4))
  (List.take s5.length (List.drop (0 : Nat) s5)))).a)))
  (some (V.b false, []))
  (ifB
  (calmN
  (Ses.mk s0 (List.take s1.length (List.drop (0 : Nat) s1)) s2
  (List.take s3.length (List.drop (0 : Nat) s3))
  (List.take s4.length (List.drop (0 : Nat) s4))
  (List.take s5.length (List.drop (0 : Nat) s5))) !=
  calmN
  (Ses.mk s0 (List.take s1.length (List.drop (0 : Nat) s1)) s2
  (List.take s3.length (List.drop (0 : Nat) s3))
  (List.take s4.length (List.drop (0 : Nat) s4))
  (List.take s5.length (List.drop (0 : Nat) s5))))
  (some (V.b false, []))
  (ifB
  (!goodS s0 (List.take s1.length (List.drop (0 : Nat) s1)) s2
  (List.take s3.length (List.drop (0 : Nat) s3))
  (List.take s4.length (List.drop (0 : Nat) s4))
  (List.take s5.length (List.drop (0 : Nat) s5)) ==
  goodS s0 (List.take s1.length (List.drop (0 : Nat) s1)) s2
  (List.take s3.length (List.drop (0 : Nat) s3))
  (List.take s4.length (List.drop (0 : Nat) s4))
  (List.take s5.length (List.drop (0 : Nat) s5)))
  (some (V.b false, []))
  (ifT
  (decide
  ((0 : Nat) +
  (calmO
  (Ses.mk s0 (List.take s1.length (List.drop (0 : Nat) s1)) s2
  (List.take s3.length (List.drop (0 : Nat) s3))
  (List.take s4.length (List.drop (0 : Nat) s4))
  (List.take s5.length (List.drop (0 : Nat) s5)))).it.length ≤
  (calmO
  (Ses.mk s0 (List.take s1.length (List.drop (0 : Nat) s1)) s2
  (List.take s3.length (List.drop (0 : Nat) s3))
  (List.take s4.length (List.drop (0 : Nat) s4))
  (List.take s5.length (List.drop (0 : Nat) s5)))).it.length ∧
  (0 : Nat) +
  (calmO
  (Ses.mk s0 (List.take s1.length (List.drop (0 : Nat) s1)) s2
  (List.take s3.length (List.drop (0 : Nat) s3))
  (List.take s4.length (List.drop (0 : Nat) s4))
  (List.take s5.length (List.drop (0 : Nat) s5)))).ha.length ≤
  (calmO
  (Ses.mk s0 (List.take s1.length (List.drop (0 : Nat) s1)) s2
  (List.take s3.length (List.drop (0 : Nat) s3))
  (List.take s4.length (List.drop (0 : Nat) s4))
  (List.take s5.length (List.drop (0 : Nat) s5)))).ha.length ∧
  (0 : Nat) +
  (calmO
  (Ses.mk s0 (List.take s1.length (List.drop (0 : Nat) s1)) s2
  (List.take s3.length (List.drop (0 : Nat) s3))
  (List.take s4.length (List.drop (0 : Nat) s4))
  (List.take s5.length (List.drop (0 : Nat) s5)))).w.length ≤
  (calmO
  (Ses.mk s0 (List.take s1.length (List.drop (0 : Nat) s1)) s2
  (List.take s3.length (List.drop (0 : Nat) s3))
  (List.take s4.length (List.drop (0 : Nat) s4))
  (List.take s5.length (List.drop (0 : Nat) s5)))).w.length ∧
  (0 : Nat) +
  (calmO
  (Ses.mk s0 (List.take s1.length (List.drop (0 : Nat) s1)) s2
  (List.take s3.length (List.drop (0 : Nat) s3))
  (List.take s4.length (List.drop (0 : Nat) s4))
  (List.take s5.length (List.drop (0 : Nat) s5)))).a.length ≤
  (calmO
  (Ses.mk s0 (List.take s1.length (List.drop (0 : Nat) s1)) s2
  (List.take s3.length (List.drop (0 : Nat) s3))
  (List.take s4.length (List.drop (0 : Nat) s4))
  (List.take s5.length (List.drop (0 : Nat) s5)))).a.length ∧
  (0 : Int) ≤ (1 : Int) ∧
  (1 : Int) +
  (1 : Int) *
  (↑(calmO
  (Ses.mk s0
  (List.take s1.length (List.drop (0 : Nat) s1)) s2
  (List.take s3.length (List.drop (0 : Nat) s3))
  (List.take s4.length (List.drop (0 : Nat) s4))
  (List.take s5.length
  (List.drop (0 : Nat) s5)))).it.length :
  Int) +
  (1 : Int) *
  (↑(calmO
  (Ses.mk s0
  (List.take s1.length (List.drop (0 : Nat) s1)) s2
  (List.take s3.length (List.drop (0 : Nat) s3))
  (List.take s4.length (List.drop (0 : Nat) s4))
  (List.take s5.length
  (List.drop (0 : Nat) s5)))).ha.length :
  Int) +
  (3 : Int) *
  (↑(calmO
  (Ses.mk s0
  (List.take s1.length (List.drop (0 : Nat) s1)) s2
  (List.take s3.length (List.drop (0 : Nat) s3))
  (List.take s4.length (List.drop (0 : Nat) s4))
  (List.take s5.length
  (List.drop (0 : Nat) s5)))).w.length :
  Int) +
  (2 : Int) *
  (↑(calmO
  (Ses.mk s0 (List.take s1.length (List.drop (0 : Nat) s1))
  s2 (List.take s3.length (List.drop (0 : Nat) s3))
  (List.take s4.length (List.drop (0 : Nat) s4))
  (List.take s5.length
  (List.drop (0 : Nat) s5)))).a.length :
  Int) ≤
  lim))
  (ifT
  (decide
  ((0 : Int) ≤ (1 : Int) ∧
  (1 : Int) +
  (1 : Int) *
  (↑(List.take
  (calmO
  (Ses.mk s0
  (List.take s1.length (List.drop (0 : Nat) s1)) s2
  (List.take s3.length (List.drop (0 : Nat) s3))
  (List.take s4.length (List.drop (0 : Nat) s4))
  (List.take s5.length
  (List.drop (0 : Nat) s5)))).it.length
  (List.drop (0 : Nat)
  (nilT Cd.str.den ++
  marks markStr1 (1 : Int) (1 : Int)
  (calmO
  (Ses.mk s0
  (List.take s1.length
  (List.drop (0 : Nat) s1))
  s2
  (List.take s3.length
  (List.drop (0 : Nat) s3))
  (List.take s4.length
  (List.drop (0 : Nat) s4))
  (List.take s5.length
  (List.drop (0 : Nat) s5)))).it.length ++
  List.drop
  ((0 : Nat) +
  (calmO
  (Ses.mk s0
  (List.take s1.length
  (List.drop (0 : Nat) s1))
  s2
  (List.take s3.length
  (List.drop (0 : Nat) s3))
  (List.take s4.length
  (List.drop (0 : Nat) s4))
  (List.take s5.length
  (List.drop (0 : Nat) s5)))).it.length)
  (calmO
  (Ses.mk s0
  (List.take s1.length (List.drop (0 : Nat) s1))
  s2
  (List.take s3.length (List.drop (0 : Nat) s3))
  (List.take s4.length (List.drop (0 : Nat) s4))
  (List.take s5.length
  (List.drop (0 : Nat) s5)))).it))).length :
  Int) +
  (1 : Int) *
  (↑(List.take
  (calmO
  (Ses.mk s0
  (List.take s1.length (List.drop (0 : Nat) s1)) s2
  (List.take s3.length (List.drop (0 : Nat) s3))
  (List.take s4.length (List.drop (0 : Nat) s4))
  (List.take s5.length
  (List.drop (0 : Nat) s5)))).ha.length
  (List.drop (0 : Nat)
  (nilT Cd.str.den ++
  marks markStr1 (1 : Int)
  ((1 : Int) +
  (1 : Int) *
  (↑(calmO
  (Ses.mk s0
  (List.take s1.length
  (List.drop (0 : Nat) s1))
  s2
  (List.take s3.length
  (List.drop (0 : Nat) s3))
  (List.take s4.length
  (List.drop (0 : Nat) s4))
  (List.take s5.length
  (List.drop (0 : Nat)
  s5)))).it.length :
  Int))
  (calmO
  (Ses.mk s0
  (List.take s1.length (List.drop (0 : Nat) s1))
  s2
  (List.take s3.length (List.drop (0 : Nat) s3))
  (List.take s4.length (List.drop (0 : Nat) s4))
  (List.take s5.length
  (List.drop (0 : Nat) s5)))).ha.length ++
  List.drop
  ((0 : Nat) +
  (calmO
  (Ses.mk s0
  (List.take s1.length (List.drop (0 : Nat) s1))
  s2
  (List.take s3.length (List.drop (0 : Nat) s3))
  (List.take s4.length (List.drop (0 : Nat) s4))
  (List.take s5.length
  (List.drop (0 : Nat) s5)))).ha.length)
  (calmO
  (Ses.mk s0
  (List.take s1.length (List.drop (0 : Nat) s1)) s2
  (List.take s3.length (List.drop (0 : Nat) s3))
  (List.take s4.length (List.drop (0 : Nat) s4))
  (List.take s5.length
  (List.drop (0 : Nat) s5)))).ha))).length :
  Int) +
  (3 : Int) *
  (↑(List.take
  (calmO
  (Ses.mk s0 (List.take s1.length (List.drop (0 : Nat) s1))
  s2 (List.take s3.length (List.drop (0 : Nat) s3))
  (List.take s4.length (List.drop (0 : Nat) s4))
  (List.take s5.length
  (List.drop (0 : Nat) s5)))).w.length
  (List.drop (0 : Nat)
  (nilT
  ((Cd.int IntKind.i64).pair
  ((Cd.int IntKind.i64).pair
  (Cd.str.pair Cd.unit))).den ++
  marks markPacket1 (3 : Int)
  ((1 : Int) +
  (1 : Int) *
  (↑(calmO
  (Ses.mk s0
  (List.take s1.length
  (List.drop (0 : Nat) s1))
  s2
  (List.take s3.length
  (List.drop (0 : Nat) s3))
  (List.take s4.length
  (List.drop (0 : Nat) s4))
  (List.take s5.length
  (List.drop (0 : Nat)
  s5)))).it.length :
  Int) +
  (1 : Int) *
  (↑(calmO
  (Ses.mk s0
  (List.take s1.length
  (List.drop (0 : Nat) s1))
  s2
  (List.take s3.length
  (List.drop (0 : Nat) s3))
  (List.take s4.length
  (List.drop (0 : Nat) s4))
  (List.take s5.length
  (List.drop (0 : Nat)
  s5)))).ha.length :
  Int))
  (calmO
  (Ses.mk s0
  (List.take s1.length (List.drop (0 : Nat) s1))
  s2
  (List.take s3.length (List.drop (0 : Nat) s3))
  (List.take s4.length (List.drop (0 : Nat) s4))
  (List.take s5.length
  (List.drop (0 : Nat) s5)))).w.length ++
  List.drop
  ((0 : Nat) +
  (calmO
  (Ses.mk s0
  (List.take s1.length (List.drop (0 : Nat) s1))
  s2
  (List.take s3.length (List.drop (0 : Nat) s3))
  (List.take s4.length (List.drop (0 : Nat) s4))
  (List.take s5.length
  (List.drop (0 : Nat) s5)))).w.length)
  (calmO
  (Ses.mk s0
  (List.take s1.length (List.drop (0 : Nat) s1)) s2
  (List.take s3.length (List.drop (0 : Nat) s3))
  (List.take s4.length (List.drop (0 : Nat) s4))
  (List.take s5.length
  (List.drop (0 : Nat) s5)))).w))).length :
  Int) +
  (2 : Int) *
  (↑(List.take
  (calmO
  (Ses.mk s0 (List.take s1.length (List.drop (0 : Nat) s1)) s2
  (List.take s3.length (List.drop (0 : Nat) s3))
  (List.take s4.length (List.drop (0 : Nat) s4))
  (List.take s5.length (List.drop (0 : Nat) s5)))).a.length
  (List.drop (0 : Nat)
  (nilT
  ((Cd.int IntKind.i64).pair
  ((Cd.int IntKind.i64).pair Cd.unit)).den ++
  marks markAck1 (2 : Int)
  ((1 : Int) +
  (1 : Int) *
  (↑(calmO
  (Ses.mk s0
  (List.take s1.length
  (List.drop (0 : Nat) s1))
  s2
  (List.take s3.length
  (List.drop (0 : Nat) s3))
  (List.take s4.length
  (List.drop (0 : Nat) s4))
  (List.take s5.length
  (List.drop (0 : Nat)
  s5)))).it.length :
  Int) +
  (1 : Int) *
  (↑(calmO
  (Ses.mk s0
  (List.take s1.length
  (List.drop (0 : Nat) s1))
  s2
  (List.take s3.length
  (List.drop (0 : Nat) s3))
  (List.take s4.length
  (List.drop (0 : Nat) s4))
  (List.take s5.length
  (List.drop (0 : Nat)
  s5)))).ha.length :
  Int) +
  (3 : Int) *
  (↑(calmO
  (Ses.mk s0
  (List.take s1.length
  (List.drop (0 : Nat) s1))
  s2
  (List.take s3.length
  (List.drop (0 : Nat) s3))
  (List.take s4.length
  (List.drop (0 : Nat) s4))
  (List.take s5.length
  (List.drop (0 : Nat) s5)))).w.length :
  Int))
  (calmO
  (Ses.mk s0
  (List.take s1.length (List.drop (0 : Nat) s1)) s2
  (List.take s3.length (List.drop (0 : Nat) s3))
  (List.take s4.length (List.drop (0 : Nat) s4))
  (List.take s5.length
  (List.drop (0 : Nat) s5)))).a.length ++
  List.drop
  ((0 : Nat) +
  (calmO
  (Ses.mk s0
  (List.take s1.length (List.drop (0 : Nat) s1)) s2
  (List.take s3.length (List.drop (0 : Nat) s3))
  (List.take s4.length (List.drop (0 : Nat) s4))
  (List.take s5.length
  (List.drop (0 : Nat) s5)))).a.length)
  (calmO
  (Ses.mk s0
  (List.take s1.length (List.drop (0 : Nat) s1)) s2
  (List.take s3.length (List.drop (0 : Nat) s3))
  (List.take s4.length (List.drop (0 : Nat) s4))
  (List.take s5.length
  (List.drop (0 : Nat) s5)))).a))).length :
  Int) ≤
  lim))
  (ifB
  (decide
  (List.take
  (calmO
  (Ses.mk s0 (List.take s1.length (List.drop (0 : Nat) s1)) s2
  (List.take s3.length (List.drop (0 : Nat) s3))
  (List.take s4.length (List.drop (0 : Nat) s4))
  (List.take s5.length (List.drop (0 : Nat) s5)))).it.length
  (List.drop (0 : Nat)
  (nilT Cd.str.den ++
  marks markStr1 (1 : Int) (1 : Int)
  (calmO
  (Ses.mk s0 (List.take s1.length (List.drop (0 : Nat) s1)) s2
  (List.take s3.length (List.drop (0 : Nat) s3))
  (List.take s4.length (List.drop (0 : Nat) s4))
  (List.take s5.length
  (List.drop (0 : Nat) s5)))).it.length ++
  List.drop
  ((0 : Nat) +
  (calmO
  (Ses.mk s0 (List.take s1.length (List.drop (0 : Nat) s1)) s2
  (List.take s3.length (List.drop (0 : Nat) s3))
  (List.take s4.length (List.drop (0 : Nat) s4))
  (List.take s5.length
  (List.drop (0 : Nat) s5)))).it.length)
  (calmO
  (Ses.mk s0 (List.take s1.length (List.drop (0 : Nat) s1)) s2
  (List.take s3.length (List.drop (0 : Nat) s3))
  (List.take s4.length (List.drop (0 : Nat) s4))
  (List.take s5.length (List.drop (0 : Nat) s5)))).it)) =
  marks markStr1 (1 : Int) (1 : Int)
  (List.take
  (calmO
  (Ses.mk s0 (List.take s1.length (List.drop (0 : Nat) s1)) s2
  (List.take s3.length (List.drop (0 : Nat) s3))
  (List.take s4.length (List.drop (0 : Nat) s4))
  (List.take s5.length (List.drop (0 : Nat) s5)))).it.length
  (List.drop (0 : Nat)
  (nilT Cd.str.den ++
  marks markStr1 (1 : Int) (1 : Int)
  (calmO
  (Ses.mk s0
  (List.take s1.length (List.drop (0 : Nat) s1)) s2
  (List.take s3.length (List.drop (0 : Nat) s3))
  (List.take s4.length (List.drop (0 : Nat) s4))
  (List.take s5.length
  (List.drop (0 : Nat) s5)))).it.length ++
  List.drop
  ((0 : Nat) +
  (calmO
  (Ses.mk s0
  (List.take s1.length (List.drop (0 : Nat) s1)) s2
  (List.take s3.length (List.drop (0 : Nat) s3))
  (List.take s4.length (List.drop (0 : Nat) s4))
  (List.take s5.length
  (List.drop (0 : Nat) s5)))).it.length)
  (calmO
  (Ses.mk s0 (List.take s1.length (List.drop (0 : Nat) s1)) s2
  (List.take s3.length (List.drop (0 : Nat) s3))
  (List.take s4.length (List.drop (0 : Nat) s4))
  (List.take s5.length
  (List.drop (0 : Nat) s5)))).it))).length ∧
  List.take
  (calmO
  (Ses.mk s0 (List.take s1.length (List.drop (0 : Nat) s1)) s2
  (List.take s3.length (List.drop (0 : Nat) s3))
  (List.take s4.length (List.drop (0 : Nat) s4))
  (List.take s5.length (List.drop (0 : Nat) s5)))).ha.length
  (List.drop (0 : Nat)
  (nilT Cd.str.den ++
  marks markStr1 (1 : Int)
  ((1 : Int) +
  (1 : Int) *
  (↑(calmO
  (Ses.mk s0
  (List.take s1.length (List.drop (0 : Nat) s1))
  s2
  (List.take s3.length (List.drop (0 : Nat) s3))
  (List.take s4.length (List.drop (0 : Nat) s4))
  (List.take s5.length
  (List.drop (0 : Nat) s5)))).it.length :
  Int))
  (calmO
  (Ses.mk s0 (List.take s1.length (List.drop (0 : Nat) s1))
  s2 (List.take s3.length (List.drop (0 : Nat) s3))
  (List.take s4.length (List.drop (0 : Nat) s4))
  (List.take s5.length
  (List.drop (0 : Nat) s5)))).ha.length ++
  List.drop
  ((0 : Nat) +
  (calmO
  (Ses.mk s0 (List.take s1.length (List.drop (0 : Nat) s1))
  s2 (List.take s3.length (List.drop (0 : Nat) s3))
  (List.take s4.length (List.drop (0 : Nat) s4))
  (List.take s5.length
  (List.drop (0 : Nat) s5)))).ha.length)
  (calmO
  (Ses.mk s0 (List.take s1.length (List.drop (0 : Nat) s1)) s2
  (List.take s3.length (List.drop (0 : Nat) s3))
  (List.take s4.length (List.drop (0 : Nat) s4))
  (List.take s5.length (List.drop (0 : Nat) s5)))).ha)) =
  marks markStr1 (1 : Int)
  ((1 : Int) +
  (1 : Int) *
  (↑(List.take
  (calmO
  (Ses.mk s0
  (List.take s1.length (List.drop (0 : Nat) s1)) s2
  (List.take s3.length (List.drop (0 : Nat) s3))
  (List.take s4.length (List.drop (0 : Nat) s4))
  (List.take s5.length
  (List.drop (0 : Nat) s5)))).it.length
  (List.drop (0 : Nat)
  (nilT Cd.str.den ++
  marks markStr1 (1 : Int) (1 : Int)
  (calmO
  (Ses.mk s0
  (List.take s1.length
  (List.drop (0 : Nat) s1))
  s2
  (List.take s3.length
  (List.drop (0 : Nat) s3))
  (List.take s4.length
  (List.drop (0 : Nat) s4))
  (List.take s5.length
  (List.drop (0 : Nat) s5)))).it.length ++
  List.drop
  ((0 : Nat) +
  (calmO
  (Ses.mk s0
  (List.take s1.length
  (List.drop (0 : Nat) s1))
  s2
  (List.take s3.length
  (List.drop (0 : Nat) s3))
  (List.take s4.length
  (List.drop (0 : Nat) s4))
  (List.take s5.length
  (List.drop (0 : Nat) s5)))).it.length)
  (calmO
  (Ses.mk s0
  (List.take s1.length (List.drop (0 : Nat) s1))
  s2
  (List.take s3.length (List.drop (0 : Nat) s3))
  (List.take s4.length (List.drop (0 : Nat) s4))
  (List.take s5.length
  (List.drop (0 : Nat) s5)))).it))).length :
  Int))
  (List.take
  (calmO
  (Ses.mk s0 (List.take s1.length (List.drop (0 : Nat) s1)) s2
  (List.take s3.length (List.drop (0 : Nat) s3))
  (List.take s4.length (List.drop (0 : Nat) s4))
  (List.take s5.length (List.drop (0 : Nat) s5)))).ha.length
  (List.drop (0 : Nat)
  (nilT Cd.str.den ++
  marks markStr1 (1 : Int)
  ((1 : Int) +
  (1 : Int) *
  (↑(calmO
  (Ses.mk s0
  (List.take s1.length
  (List.drop (0 : Nat) s1))
  s2
  (List.take s3.length
  (List.drop (0 : Nat) s3))
  (List.take s4.length
  (List.drop (0 : Nat) s4))
  (List.take s5.length
  (List.drop (0 : Nat) s5)))).it.length :
  Int))
  (calmO
  (Ses.mk s0
  (List.take s1.length (List.drop (0 : Nat) s1)) s2
  (List.take s3.length (List.drop (0 : Nat) s3))
  (List.take s4.length (List.drop (0 : Nat) s4))
  (List.take s5.length
  (List.drop (0 : Nat) s5)))).ha.length ++
  List.drop
  ((0 : Nat) +
  (calmO
  (Ses.mk s0
  (List.take s1.length (List.drop (0 : Nat) s1)) s2
  (List.take s3.length (List.drop (0 : Nat) s3))
  (List.take s4.length (List.drop (0 : Nat) s4))
  (List.take s5.length
  (List.drop (0 : Nat) s5)))).ha.length)
  (calmO
  (Ses.mk s0 (List.take s1.length (List.drop (0 : Nat) s1))
  s2 (List.take s3.length (List.drop (0 : Nat) s3))
  (List.take s4.length (List.drop (0 : Nat) s4))
  (List.take s5.length
  (List.drop (0 : Nat) s5)))).ha))).length ∧
  List.take
  (calmO
  (Ses.mk s0 (List.take s1.length (List.drop (0 : Nat) s1)) s2
  (List.take s3.length (List.drop (0 : Nat) s3))
  (List.take s4.length (List.drop (0 : Nat) s4))
  (List.take s5.length (List.drop (0 : Nat) s5)))).w.length
  (List.drop (0 : Nat)
  (nilT
  ((Cd.int IntKind.i64).pair
  ((Cd.int IntKind.i64).pair (Cd.str.pair Cd.unit))).den ++
  marks markPacket1 (3 : Int)
  ((1 : Int) +
  (1 : Int) *
  (↑(calmO
  (Ses.mk s0
  (List.take s1.length
  (List.drop (0 : Nat) s1))
  s2
  (List.take s3.length
  (List.drop (0 : Nat) s3))
  (List.take s4.length
  (List.drop (0 : Nat) s4))
  (List.take s5.length
  (List.drop (0 : Nat) s5)))).it.length :
  Int) +
  (1 : Int) *
  (↑(calmO
  (Ses.mk s0
  (List.take s1.length (List.drop (0 : Nat) s1))
  s2
  (List.take s3.length (List.drop (0 : Nat) s3))
  (List.take s4.length (List.drop (0 : Nat) s4))
  (List.take s5.length
  (List.drop (0 : Nat) s5)))).ha.length :
  Int))
  (calmO
  (Ses.mk s0
  (List.take s1.length (List.drop (0 : Nat) s1)) s2
  (List.take s3.length (List.drop (0 : Nat) s3))
  (List.take s4.length (List.drop (0 : Nat) s4))
  (List.take s5.length
  (List.drop (0 : Nat) s5)))).w.length ++
  List.drop
  ((0 : Nat) +
  (calmO
  (Ses.mk s0
  (List.take s1.length (List.drop (0 : Nat) s1)) s2
  (List.take s3.length (List.drop (0 : Nat) s3))
  (List.take s4.length (List.drop (0 : Nat) s4))
  (List.take s5.length
  (List.drop (0 : Nat) s5)))).w.length)
  (calmO
  (Ses.mk s0 (List.take s1.length (List.drop (0 : Nat) s1)) s2
  (List.take s3.length (List.drop (0 : Nat) s3))
  (List.take s4.length (List.drop (0 : Nat) s4))
  (List.take s5.length (List.drop (0 : Nat) s5)))).w)) =
  marks markPacket1 (3 : Int)
  ((1 : Int) +
  (1 : Int) *
  (↑(List.take
  (calmO
  (Ses.mk s0
  (List.take s1.length (List.drop (0 : Nat) s1))
  s2
  (List.take s3.length (List.drop (0 : Nat) s3))
  (List.take s4.length (List.drop (0 : Nat) s4))
  (List.take s5.length
  (List.drop (0 : Nat) s5)))).it.length
  (List.drop (0 : Nat)
  (nilT Cd.str.den ++
  marks markStr1 (1 : Int) (1 : Int)
  (calmO
  (Ses.mk s0
  (List.take s1.length
  (List.drop (0 : Nat) s1))
  s2
  (List.take s3.length
  (List.drop (0 : Nat) s3))
  (List.take s4.length
  (List.drop (0 : Nat) s4))
  (List.take s5.length
  (List.drop (0 : Nat)
  s5)))).it.length ++
  List.drop
  ((0 : Nat) +
  (calmO
  (Ses.mk s0
  (List.take s1.length
  (List.drop (0 : Nat) s1))
  s2
  (List.take s3.length
  (List.drop (0 : Nat) s3))
  (List.take s4.length
  (List.drop (0 : Nat) s4))
  (List.take s5.length
  (List.drop (0 : Nat) s5)))).it.length)
  (calmO
  (Ses.mk s0
  (List.take s1.length
  (List.drop (0 : Nat) s1))
  s2
  (List.take s3.length
  (List.drop (0 : Nat) s3))
  (List.take s4.length
  (List.drop (0 : Nat) s4))
  (List.take s5.length
  (List.drop (0 : Nat) s5)))).it))).length :
  Int) +
  (1 : Int) *
  (↑(List.take
  (calmO
  (Ses.mk s0
  (List.take s1.length (List.drop (0 : Nat) s1)) s2
  (List.take s3.length (List.drop (0 : Nat) s3))
  (List.take s4.length (List.drop (0 : Nat) s4))
  (List.take s5.length
  (List.drop (0 : Nat) s5)))).ha.length
  (List.drop (0 : Nat)
  (nilT Cd.str.den ++
  marks markStr1 (1 : Int)
  ((1 : Int) +
  (1 : Int) *
  (↑(calmO
  (Ses.mk s0
  (List.take s1.length
  (List.drop (0 : Nat) s1))
  s2
  (List.take s3.length
  (List.drop (0 : Nat) s3))
  (List.take s4.length
  (List.drop (0 : Nat) s4))
  (List.take s5.length
  (List.drop (0 : Nat)
  s5)))).it.length :
  Int))
  (calmO
  (Ses.mk s0
  (List.take s1.length
  (List.drop (0 : Nat) s1))
  s2
  (List.take s3.length
  (List.drop (0 : Nat) s3))
  (List.take s4.length
  (List.drop (0 : Nat) s4))
  (List.take s5.length
  (List.drop (0 : Nat) s5)))).ha.length ++
  List.drop
  ((0 : Nat) +
  (calmO
  (Ses.mk s0
  (List.take s1.length
  (List.drop (0 : Nat) s1))
  s2
  (List.take s3.length
  (List.drop (0 : Nat) s3))
  (List.take s4.length
  (List.drop (0 : Nat) s4))
  (List.take s5.length
  (List.drop (0 : Nat) s5)))).ha.length)
  (calmO
  (Ses.mk s0
  (List.take s1.length (List.drop (0 : Nat) s1))
  s2
  (List.take s3.length (List.drop (0 : Nat) s3))
  (List.take s4.length (List.drop (0 : Nat) s4))
  (List.take s5.length
  (List.drop (0 : Nat) s5)))).ha))).length :
  Int))
  (List.take
  (calmO
  (Ses.mk s0 (List.take s1.length (List.drop (0 : Nat) s1)) s2
  (List.take s3.length (List.drop (0 : Nat) s3))
  (List.take s4.length (List.drop (0 : Nat) s4))
  (List.take s5.length (List.drop (0 : Nat) s5)))).w.length
  (List.drop (0 : Nat)
  (nilT
  ((Cd.int IntKind.i64).pair
  ((Cd.int IntKind.i64).pair
  (Cd.str.pair Cd.unit))).den ++
  marks markPacket1 (3 : Int)
  ((1 : Int) +
  (1 : Int) *
  (↑(calmO
  (Ses.mk s0
  (List.take s1.length
  (List.drop (0 : Nat) s1))
  s2
  (List.take s3.length
  (List.drop (0 : Nat) s3))
  (List.take s4.length
  (List.drop (0 : Nat) s4))
  (List.take s5.length
  (List.drop (0 : Nat)
  s5)))).it.length :
  Int) +
  (1 : Int) *
  (↑(calmO
  (Ses.mk s0
  (List.take s1.length
  (List.drop (0 : Nat) s1))
  s2
  (List.take s3.length
  (List.drop (0 : Nat) s3))
  (List.take s4.length
  (List.drop (0 : Nat) s4))
  (List.take s5.length
  (List.drop (0 : Nat) s5)))).ha.length :
  Int))
  (calmO
  (Ses.mk s0
  (List.take s1.length (List.drop (0 : Nat) s1)) s2
  (List.take s3.length (List.drop (0 : Nat) s3))
  (List.take s4.length (List.drop (0 : Nat) s4))
  (List.take s5.length
  (List.drop (0 : Nat) s5)))).w.length ++
  List.drop
  ((0 : Nat) +
  (calmO
  (Ses.mk s0
  (List.take s1.length (List.drop (0 : Nat) s1)) s2
  (List.take s3.length (List.drop (0 : Nat) s3))
  (List.take s4.length (List.drop (0 : Nat) s4))
  (List.take s5.length
  (List.drop (0 : Nat) s5)))).w.length)
  (calmO
  (Ses.mk s0
  (List.take s1.length (List.drop (0 : Nat) s1)) s2
  (List.take s3.length (List.drop (0 : Nat) s3))
  (List.take s4.length (List.drop (0 : Nat) s4))
  (List.take s5.length
  (List.drop (0 : Nat) s5)))).w))).length ∧
  List.take
  (calmO
  (Ses.mk s0 (List.take s1.length (List.drop (0 : Nat) s1)) s2
  (List.take s3.length (List.drop (0 : Nat) s3))
  (List.take s4.length (List.drop (0 : Nat) s4))
  (List.take s5.length (List.drop (0 : Nat) s5)))).a.length
  (List.drop (0 : Nat)
  (nilT
  ((Cd.int IntKind.i64).pair
  ((Cd.int IntKind.i64).pair Cd.unit)).den ++
  marks markAck1 (2 : Int)
  ((1 : Int) +
  (1 : Int) *
  (↑(calmO
  (Ses.mk s0
  (List.take s1.length
  (List.drop (0 : Nat) s1))
  s2
  (List.take s3.length
  (List.drop (0 : Nat) s3))
  (List.take s4.length
  (List.drop (0 : Nat) s4))
  (List.take s5.length
  (List.drop (0 : Nat) s5)))).it.length :
  Int) +
  (1 : Int) *
  (↑(calmO
  (Ses.mk s0
  (List.take s1.length
  (List.drop (0 : Nat) s1))
  s2
  (List.take s3.length
  (List.drop (0 : Nat) s3))
  (List.take s4.length
  (List.drop (0 : Nat) s4))
  (List.take s5.length
  (List.drop (0 : Nat) s5)))).ha.length :
  Int) +
  (3 : Int) *
  (↑(calmO
  (Ses.mk s0
  (List.take s1.length (List.drop (0 : Nat) s1))
  s2
  (List.take s3.length (List.drop (0 : Nat) s3))
  (List.take s4.length (List.drop (0 : Nat) s4))
  (List.take s5.length
  (List.drop (0 : Nat) s5)))).w.length :
  Int))
  (calmO
  (Ses.mk s0
  (List.take s1.length (List.drop (0 : Nat) s1)) s2
  (List.take s3.length (List.drop (0 : Nat) s3))
  (List.take s4.length (List.drop (0 : Nat) s4))
  (List.take s5.length
  (List.drop (0 : Nat) s5)))).a.length ++
  List.drop
  ((0 : Nat) +
  (calmO
  (Ses.mk s0
  (List.take s1.length (List.drop (0 : Nat) s1)) s2
  (List.take s3.length (List.drop (0 : Nat) s3))
  (List.take s4.length (List.drop (0 : Nat) s4))
  (List.take s5.length
  (List.drop (0 : Nat) s5)))).a.length)
  (calmO
  (Ses.mk s0 (List.take s1.length (List.drop (0 : Nat) s1)) s2
  (List.take s3.length (List.drop (0 : Nat) s3))
  (List.take s4.length (List.drop (0 : Nat) s4))
  (List.take s5.length (List.drop (0 : Nat) s5)))).a)) =
  marks markAck1 (2 : Int)
  ((1 : Int) +
  (1 : Int) *
  (↑(List.take
  (calmO
  (Ses.mk s0
  (List.take s1.length (List.drop (0 : Nat) s1))
  s2
  (List.take s3.length (List.drop (0 : Nat) s3))
  (List.take s4.length (List.drop (0 : Nat) s4))
  (List.take s5.length
  (List.drop (0 : Nat) s5)))).it.length
  (List.drop (0 : Nat)
  (nilT Cd.str.den ++
  marks markStr1 (1 : Int) (1 : Int)
  (calmO
  (Ses.mk s0
  (List.take s1.length
  (List.drop (0 : Nat) s1))
  s2
  (List.take s3.length
  (List.drop (0 : Nat) s3))
  (List.take s4.length
  (List.drop (0 : Nat) s4))
  (List.take s5.length
  (List.drop (0 : Nat)
  s5)))).it.length ++
  List.drop
  ((0 : Nat) +
  (calmO
  (Ses.mk s0
  (List.take s1.length
  (List.drop (0 : Nat) s1))
  s2
  (List.take s3.length
  (List.drop (0 : Nat) s3))
  (List.take s4.length
  (List.drop (0 : Nat) s4))
  (List.take s5.length
  (List.drop (0 : Nat)
  s5)))).it.length)
  (calmO
  (Ses.mk s0
  (List.take s1.length
  (List.drop (0 : Nat) s1))
  s2
  (List.take s3.length
  (List.drop (0 : Nat) s3))
  (List.take s4.length
  (List.drop (0 : Nat) s4))
  (List.take s5.length
  (List.drop (0 : Nat)
  s5)))).it))).length :
  Int) +
  (1 : Int) *
  (↑(List.take
  (calmO
  (Ses.mk s0
  (List.take s1.length (List.drop (0 : Nat) s1))
  s2
  (List.take s3.length (List.drop (0 : Nat) s3))
  (List.take s4.length (List.drop (0 : Nat) s4))
  (List.take s5.length
  (List.drop (0 : Nat) s5)))).ha.length
  (List.drop (0 : Nat)
  (nilT Cd.str.den ++
  marks markStr1 (1 : Int)
  ((1 : Int) +
  (1 : Int) *
  (↑(calmO
  (Ses.mk s0
  (List.take s1.length
  (List.drop (0 : Nat) s1))
  s2
  (List.take s3.length
  (List.drop (0 : Nat) s3))
  (List.take s4.length
  (List.drop (0 : Nat) s4))
  (List.take s5.length
  (List.drop (0 : Nat)
  s5)))).it.length :
  Int))
  (calmO
  (Ses.mk s0
  (List.take s1.length
  (List.drop (0 : Nat) s1))
  s2
  (List.take s3.length
  (List.drop (0 : Nat) s3))
  (List.take s4.length
  (List.drop (0 : Nat) s4))
  (List.take s5.length
  (List.drop (0 : Nat)
  s5)))).ha.length ++
  List.drop
  ((0 : Nat) +
  (calmO
  (Ses.mk s0
  (List.take s1.length
  (List.drop (0 : Nat) s1))
  s2
  (List.take s3.length
  (List.drop (0 : Nat) s3))
  (List.take s4.length
  (List.drop (0 : Nat) s4))
  (List.take s5.length
  (List.drop (0 : Nat) s5)))).ha.length)
  (calmO
  (Ses.mk s0
  (List.take s1.length
  (List.drop (0 : Nat) s1))
  s2
  (List.take s3.length
  (List.drop (0 : Nat) s3))
  (List.take s4.length
  (List.drop (0 : Nat) s4))
  (List.take s5.length
  (List.drop (0 : Nat) s5)))).ha))).length :
  Int) +
  (3 : Int) *
  (↑(List.take
  (calmO
  (Ses.mk s0
  (List.take s1.length (List.drop (0 : Nat) s1)) s2
  (List.take s3.length (List.drop (0 : Nat) s3))
  (List.take s4.length (List.drop (0 : Nat) s4))
  (List.take s5.length
  (List.drop (0 : Nat) s5)))).w.length
  (List.drop (0 : Nat)
  (nilT
  ((Cd.int IntKind.i64).pair
  ((Cd.int IntKind.i64).pair
  (Cd.str.pair Cd.unit))).den ++
  marks markPacket1 (3 : Int)
  ((1 : Int) +
  (1 : Int) *
  (↑(calmO
  (Ses.mk s0
  (List.take s1.length
  (List.drop (0 : Nat) s1))
  s2
  (List.take s3.length
  (List.drop (0 : Nat) s3))
  (List.take s4.length
  (List.drop (0 : Nat) s4))
  (List.take s5.length
  (List.drop (0 : Nat)
  s5)))).it.length :
  Int) +
  (1 : Int) *
  (↑(calmO
  (Ses.mk s0
  (List.take s1.length
  (List.drop (0 : Nat) s1))
  s2
  (List.take s3.length
  (List.drop (0 : Nat) s3))
  (List.take s4.length
  (List.drop (0 : Nat) s4))
  (List.take s5.length
  (List.drop (0 : Nat)
  s5)))).ha.length :
  Int))
  (calmO
  (Ses.mk s0
  (List.take s1.length
  (List.drop (0 : Nat) s1))
  s2
  (List.take s3.length
  (List.drop (0 : Nat) s3))
  (List.take s4.length
  (List.drop (0 : Nat) s4))
  (List.take s5.length
  (List.drop (0 : Nat) s5)))).w.length ++
  List.drop
  ((0 : Nat) +
  (calmO
  (Ses.mk s0
  (List.take s1.length
  (List.drop (0 : Nat) s1))
  s2
  (List.take s3.length
  (List.drop (0 : Nat) s3))
  (List.take s4.length
  (List.drop (0 : Nat) s4))
  (List.take s5.length
  (List.drop (0 : Nat) s5)))).w.length)
  (calmO
  (Ses.mk s0
  (List.take s1.length (List.drop (0 : Nat) s1))
  s2
  (List.take s3.length (List.drop (0 : Nat) s3))
  (List.take s4.length (List.drop (0 : Nat) s4))
  (List.take s5.length
  (List.drop (0 : Nat) s5)))).w))).length :
  Int))
  (List.take
  (calmO
  (Ses.mk s0 (List.take s1.length (List.drop (0 : Nat) s1)) s2
  (List.take s3.length (List.drop (0 : Nat) s3))
  (List.take s4.length (List.drop (0 : Nat) s4))
  (List.take s5.length (List.drop (0 : Nat) s5)))).a.length
  (List.drop (0 : Nat)
  (nilT
  ((Cd.int IntKind.i64).pair
  ((Cd.int IntKind.i64).pair Cd.unit)).den ++
  marks markAck1 (2 : Int)
  ((1 : Int) +
  (1 : Int) *
  (↑(calmO
  (Ses.mk s0
  (List.take s1.length
  (List.drop (0 : Nat) s1))
  s2
  (List.take s3.length
  (List.drop (0 : Nat) s3))
  (List.take s4.length
  (List.drop (0 : Nat) s4))
  (List.take s5.length
  (List.drop (0 : Nat)
  s5)))).it.length :
  Int) +
  (1 : Int) *
  (↑(calmO
  (Ses.mk s0
  (List.take s1.length
  (List.drop (0 : Nat) s1))
  s2
  (List.take s3.length
  (List.drop (0 : Nat) s3))
  (List.take s4.length
  (List.drop (0 : Nat) s4))
  (List.take s5.length
  (List.drop (0 : Nat)
  s5)))).ha.length :
  Int) +
  (3 : Int) *
  (↑(calmO
  (Ses.mk s0
  (List.take s1.length
  (List.drop (0 : Nat) s1))
  s2
  (List.take s3.length
  (List.drop (0 : Nat) s3))
  (List.take s4.length
  (List.drop (0 : Nat) s4))
  (List.take s5.length
  (List.drop (0 : Nat) s5)))).w.length :
  Int))
  (calmO
  (Ses.mk s0
  (List.take s1.length (List.drop (0 : Nat) s1)) s2
  (List.take s3.length (List.drop (0 : Nat) s3))
  (List.take s4.length (List.drop (0 : Nat) s4))
  (List.take s5.length
  (List.drop (0 : Nat) s5)))).a.length ++
  List.drop
  ((0 : Nat) +
  (calmO
  (Ses.mk s0
  (List.take s1.length (List.drop (0 : Nat) s1)) s2
  (List.take s3.length (List.drop (0 : Nat) s3))
  (List.take s4.length (List.drop (0 : Nat) s4))
  (List.take s5.length
  (List.drop (0 : Nat) s5)))).a.length)
  (calmO
  (Ses.mk s0
  (List.take s1.length (List.drop (0 : Nat) s1)) s2
  (List.take s3.length (List.drop (0 : Nat) s3))
  (List.take s4.length (List.drop (0 : Nat) s4))
  (List.take s5.length
  (List.drop (0 : Nat) s5)))).a))).length))
  (ifB
  ((1 : Int) +
  (1 : Int) *
  (↑(List.take
  (calmO
  (Ses.mk s0
  (List.take s1.length (List.drop (0 : Nat) s1)) s2
  (List.take s3.length (List.drop (0 : Nat) s3))
  (List.take s4.length (List.drop (0 : Nat) s4))
  (List.take s5.length
  (List.drop (0 : Nat) s5)))).it.length
  (List.drop (0 : Nat)
  (nilT Cd.str.den ++
  marks markStr1 (1 : Int) (1 : Int)
  (calmO
  (Ses.mk s0
  (List.take s1.length
  (List.drop (0 : Nat) s1))
  s2
  (List.take s3.length
  (List.drop (0 : Nat) s3))
  (List.take s4.length
  (List.drop (0 : Nat) s4))
  (List.take s5.length
  (List.drop (0 : Nat) s5)))).it.length ++
  List.drop
  ((0 : Nat) +
  (calmO
  (Ses.mk s0
  (List.take s1.length
  (List.drop (0 : Nat) s1))
  s2
  (List.take s3.length
  (List.drop (0 : Nat) s3))
  (List.take s4.length
  (List.drop (0 : Nat) s4))
  (List.take s5.length
  (List.drop (0 : Nat) s5)))).it.length)
  (calmO
  (Ses.mk s0
  (List.take s1.length (List.drop (0 : Nat) s1))
  s2
  (List.take s3.length (List.drop (0 : Nat) s3))
  (List.take s4.length (List.drop (0 : Nat) s4))
  (List.take s5.length
  (List.drop (0 : Nat) s5)))).it))).length :
  Int) +
  (1 : Int) *
  (↑(List.take
  (calmO
  (Ses.mk s0
  (List.take s1.length (List.drop (0 : Nat) s1)) s2
  (List.take s3.length (List.drop (0 : Nat) s3))
  (List.take s4.length (List.drop (0 : Nat) s4))
  (List.take s5.length
  (List.drop (0 : Nat) s5)))).ha.length
  (List.drop (0 : Nat)
  (nilT Cd.str.den ++
  marks markStr1 (1 : Int)
  ((1 : Int) +
  (1 : Int) *
  (↑(calmO
  (Ses.mk s0
  (List.take s1.length
  (List.drop (0 : Nat) s1))
  s2
  (List.take s3.length
  (List.drop (0 : Nat) s3))
  (List.take s4.length
  (List.drop (0 : Nat) s4))
  (List.take s5.length
  (List.drop (0 : Nat)
  s5)))).it.length :
  Int))
  (calmO
  (Ses.mk s0
  (List.take s1.length (List.drop (0 : Nat) s1))
  s2
  (List.take s3.length (List.drop (0 : Nat) s3))
  (List.take s4.length (List.drop (0 : Nat) s4))
  (List.take s5.length
  (List.drop (0 : Nat) s5)))).ha.length ++
  List.drop
  ((0 : Nat) +
  (calmO
  (Ses.mk s0
  (List.take s1.length (List.drop (0 : Nat) s1))
  s2
  (List.take s3.length (List.drop (0 : Nat) s3))
  (List.take s4.length (List.drop (0 : Nat) s4))
  (List.take s5.length
  (List.drop (0 : Nat) s5)))).ha.length)
  (calmO
  (Ses.mk s0
  (List.take s1.length (List.drop (0 : Nat) s1)) s2
  (List.take s3.length (List.drop (0 : Nat) s3))
  (List.take s4.length (List.drop (0 : Nat) s4))
  (List.take s5.length
  (List.drop (0 : Nat) s5)))).ha))).length :
  Int) +
  (3 : Int) *
  (↑(List.take
  (calmO
  (Ses.mk s0 (List.take s1.length (List.drop (0 : Nat) s1))
  s2 (List.take s3.length (List.drop (0 : Nat) s3))
  (List.take s4.length (List.drop (0 : Nat) s4))
  (List.take s5.length
  (List.drop (0 : Nat) s5)))).w.length
  (List.drop (0 : Nat)
  (nilT
  ((Cd.int IntKind.i64).pair
  ((Cd.int IntKind.i64).pair
  (Cd.str.pair Cd.unit))).den ++
  marks markPacket1 (3 : Int)
  ((1 : Int) +
  (1 : Int) *
  (↑(calmO
  (Ses.mk s0
  (List.take s1.length
  (List.drop (0 : Nat) s1))
  s2
  (List.take s3.length
  (List.drop (0 : Nat) s3))
  (List.take s4.length
  (List.drop (0 : Nat) s4))
  (List.take s5.length
  (List.drop (0 : Nat)
  s5)))).it.length :
  Int) +
  (1 : Int) *
  (↑(calmO
  (Ses.mk s0
  (List.take s1.length
  (List.drop (0 : Nat) s1))
  s2
  (List.take s3.length
  (List.drop (0 : Nat) s3))
  (List.take s4.length
  (List.drop (0 : Nat) s4))
  (List.take s5.length
  (List.drop (0 : Nat)
  s5)))).ha.length :
  Int))
  (calmO
  (Ses.mk s0
  (List.take s1.length (List.drop (0 : Nat) s1))
  s2
  (List.take s3.length (List.drop (0 : Nat) s3))
  (List.take s4.length (List.drop (0 : Nat) s4))
  (List.take s5.length
  (List.drop (0 : Nat) s5)))).w.length ++
  List.drop
  ((0 : Nat) +
  (calmO
  (Ses.mk s0
  (List.take s1.length (List.drop (0 : Nat) s1))
  s2
  (List.take s3.length (List.drop (0 : Nat) s3))
  (List.take s4.length (List.drop (0 : Nat) s4))
  (List.take s5.length
  (List.drop (0 : Nat) s5)))).w.length)
  (calmO
  (Ses.mk s0
  (List.take s1.length (List.drop (0 : Nat) s1)) s2
  (List.take s3.length (List.drop (0 : Nat) s3))
  (List.take s4.length (List.drop (0 : Nat) s4))
  (List.take s5.length
  (List.drop (0 : Nat) s5)))).w))).length :
  Int) +
  (2 : Int) *
  (↑(List.take
  (calmO
  (Ses.mk s0 (List.take s1.length (List.drop (0 : Nat) s1)) s2
  (List.take s3.length (List.drop (0 : Nat) s3))
  (List.take s4.length (List.drop (0 : Nat) s4))
  (List.take s5.length (List.drop (0 : Nat) s5)))).a.length
  (List.drop (0 : Nat)
  (nilT
  ((Cd.int IntKind.i64).pair
  ((Cd.int IntKind.i64).pair Cd.unit)).den ++
  marks markAck1 (2 : Int)
  ((1 : Int) +
  (1 : Int) *
  (↑(calmO
  (Ses.mk s0
  (List.take s1.length
  (List.drop (0 : Nat) s1))
  s2
  (List.take s3.length
  (List.drop (0 : Nat) s3))
  (List.take s4.length
  (List.drop (0 : Nat) s4))
  (List.take s5.length
  (List.drop (0 : Nat)
  s5)))).it.length :
  Int) +
  (1 : Int) *
  (↑(calmO
  (Ses.mk s0
  (List.take s1.length
  (List.drop (0 : Nat) s1))
  s2
  (List.take s3.length
  (List.drop (0 : Nat) s3))
  (List.take s4.length
  (List.drop (0 : Nat) s4))
  (List.take s5.length
  (List.drop (0 : Nat)
  s5)))).ha.length :
  Int) +
  (3 : Int) *
  (↑(calmO
  (Ses.mk s0
  (List.take s1.length
  (List.drop (0 : Nat) s1))
  s2
  (List.take s3.length
  (List.drop (0 : Nat) s3))
  (List.take s4.length
  (List.drop (0 : Nat) s4))
  (List.take s5.length
  (List.drop (0 : Nat) s5)))).w.length :
  Int))
  (calmO
  (Ses.mk s0
  (List.take s1.length (List.drop (0 : Nat) s1)) s2
  (List.take s3.length (List.drop (0 : Nat) s3))
  (List.take s4.length (List.drop (0 : Nat) s4))
  (List.take s5.length
  (List.drop (0 : Nat) s5)))).a.length ++
  List.drop
  ((0 : Nat) +
  (calmO
  (Ses.mk s0
  (List.take s1.length (List.drop (0 : Nat) s1)) s2
  (List.take s3.length (List.drop (0 : Nat) s3))
  (List.take s4.length (List.drop (0 : Nat) s4))
  (List.take s5.length
  (List.drop (0 : Nat) s5)))).a.length)
  (calmO
  (Ses.mk s0
  (List.take s1.length (List.drop (0 : Nat) s1)) s2
  (List.take s3.length (List.drop (0 : Nat) s3))
  (List.take s4.length (List.drop (0 : Nat) s4))
  (List.take s5.length
  (List.drop (0 : Nat) s5)))).a))).length :
  Int) !=
  (1 : Int) +
  (1 : Int) *
  (↑(calmO
  (Ses.mk s0 (List.take s1.length (List.drop (0 : Nat) s1))
  s2 (List.take s3.length (List.drop (0 : Nat) s3))
  (List.take s4.length (List.drop (0 : Nat) s4))
  (List.take s5.length
  (List.drop (0 : Nat) s5)))).it.length :
  Int) +
  (1 : Int) *
  (↑(calmO
  (Ses.mk s0 (List.take s1.length (List.drop (0 : Nat) s1)) s2
  (List.take s3.length (List.drop (0 : Nat) s3))
  (List.take s4.length (List.drop (0 : Nat) s4))
  (List.take s5.length
  (List.drop (0 : Nat) s5)))).ha.length :
  Int) +
  (3 : Int) *
  (↑(calmO
  (Ses.mk s0 (List.take s1.length (List.drop (0 : Nat) s1)) s2
  (List.take s3.length (List.drop (0 : Nat) s3))
  (List.take s4.length (List.drop (0 : Nat) s4))
  (List.take s5.length (List.drop (0 : Nat) s5)))).w.length :
  Int) +
  (2 : Int) *
  (↑(calmO
  (Ses.mk s0 (List.take s1.length (List.drop (0 : Nat) s1)) s2
  (List.take s3.length (List.drop (0 : Nat) s3))
  (List.take s4.length (List.drop (0 : Nat) s4))
  (List.take s5.length (List.drop (0 : Nat) s5)))).a.length :
  Int))
  (some (V.b false, []))
  (ifT
  (decide
  (s1.length ≤ (1000000000 : Nat) ∧
  s3.length ≤ (1000000000 : Nat) ∧
  s4.length ≤ (1000000000 : Nat) ∧ s5.length ≤ (1000000000 : Nat)))
  (ifT
  (decide
  ((↑(List.take s3.length (List.drop (0 : Nat) s3)).length : Int) ≤ lim))
  (ifB
  (!decide
  ((calmO
  (Ses.mk s0 (List.take s1.length (List.drop (0 : Nat) s1)) s2
  (List.take s3.length (List.drop (0 : Nat) s3))
  (List.take s4.length (List.drop (0 : Nat) s4))
  (List.take s5.length (List.drop (0 : Nat) s5)))).e =
  (calmO
  (Ses.mk s0 (List.take s1.length (List.drop (0 : Nat) s1)) s2
  (List.take s3.length (List.drop (0 : Nat) s3))
  (List.take s4.length (List.drop (0 : Nat) s4))
  (List.take s5.length (List.drop (0 : Nat) s5)))).e ∧
  List.take
  (calmO
  (Ses.mk s0
  (List.take s1.length (List.drop (0 : Nat) s1)) s2
  (List.take s3.length (List.drop (0 : Nat) s3))
  (List.take s4.length (List.drop (0 : Nat) s4))
  (List.take s5.length
  (List.drop (0 : Nat) s5)))).it.length
  (List.drop (0 : Nat)
  (calmO
  (Ses.mk s0
  (List.take s1.length (List.drop (0 : Nat) s1)) s2
  (List.take s3.length (List.drop (0 : Nat) s3))
  (List.take s4.length (List.drop (0 : Nat) s4))
  (List.take s5.length (List.drop (0 : Nat) s5)))).it) =
  List.take
  (calmO
  (Ses.mk s0
  (List.take s1.length (List.drop (0 : Nat) s1)) s2
  (List.take s3.length (List.drop (0 : Nat) s3))
  (List.take s4.length (List.drop (0 : Nat) s4))
  (List.take s5.length
  (List.drop (0 : Nat) s5)))).it.length
  (List.drop (0 : Nat)
  (calmO
  (Ses.mk s0
  (List.take s1.length (List.drop (0 : Nat) s1)) s2
  (List.take s3.length (List.drop (0 : Nat) s3))
  (List.take s4.length (List.drop (0 : Nat) s4))
  (List.take s5.length (List.drop (0 : Nat) s5)))).it) ∧
  (calmO
  (Ses.mk s0 (List.take s1.length (List.drop (0 : Nat) s1))
  s2 (List.take s3.length (List.drop (0 : Nat) s3))
  (List.take s4.length (List.drop (0 : Nat) s4))
  (List.take s5.length (List.drop (0 : Nat) s5)))).b =
  (calmO
  (Ses.mk s0 (List.take s1.length (List.drop (0 : Nat) s1))
  s2 (List.take s3.length (List.drop (0 : Nat) s3))
  (List.take s4.length (List.drop (0 : Nat) s4))
  (List.take s5.length (List.drop (0 : Nat) s5)))).b ∧
  List.take
  (calmO
  (Ses.mk s0
  (List.take s1.length (List.drop (0 : Nat) s1)) s2
  (List.take s3.length (List.drop (0 : Nat) s3))
  (List.take s4.length (List.drop (0 : Nat) s4))
  (List.take s5.length
  (List.drop (0 : Nat) s5)))).ha.length
  (List.drop (0 : Nat)
  (calmO
  (Ses.mk s0
  (List.take s1.length (List.drop (0 : Nat) s1)) s2
  (List.take s3.length (List.drop (0 : Nat) s3))
  (List.take s4.length (List.drop (0 : Nat) s4))
  (List.take s5.length
  (List.drop (0 : Nat) s5)))).ha) =
  List.take
  (calmO
  (Ses.mk s0
  (List.take s1.length (List.drop (0 : Nat) s1)) s2
  (List.take s3.length (List.drop (0 : Nat) s3))
  (List.take s4.length (List.drop (0 : Nat) s4))
  (List.take s5.length
  (List.drop (0 : Nat) s5)))).ha.length
  (List.drop (0 : Nat)
  (calmO
  (Ses.mk s0
  (List.take s1.length (List.drop (0 : Nat) s1)) s2
  (List.take s3.length (List.drop (0 : Nat) s3))
  (List.take s4.length (List.drop (0 : Nat) s4))
  (List.take s5.length
  (List.drop (0 : Nat) s5)))).ha) ∧
  List.take
  (calmO
  (Ses.mk s0
  (List.take s1.length (List.drop (0 : Nat) s1))
  s2
  (List.take s3.length (List.drop (0 : Nat) s3))
  (List.take s4.length (List.drop (0 : Nat) s4))
  (List.take s5.length
  (List.drop (0 : Nat) s5)))).w.length
  (List.drop (0 : Nat)
  (calmO
  (Ses.mk s0
  (List.take s1.length (List.drop (0 : Nat) s1))
  s2
  (List.take s3.length (List.drop (0 : Nat) s3))
  (List.take s4.length (List.drop (0 : Nat) s4))
  (List.take s5.length
  (List.drop (0 : Nat) s5)))).w) =
  List.take
  (calmO
  (Ses.mk s0
  (List.take s1.length (List.drop (0 : Nat) s1))
  s2
  (List.take s3.length (List.drop (0 : Nat) s3))
  (List.take s4.length (List.drop (0 : Nat) s4))
  (List.take s5.length
  (List.drop (0 : Nat) s5)))).w.length
  (List.drop (0 : Nat)
  (calmO
  (Ses.mk s0
  (List.take s1.length (List.drop (0 : Nat) s1))
  s2
  (List.take s3.length (List.drop (0 : Nat) s3))
  (List.take s4.length (List.drop (0 : Nat) s4))
  (List.take s5.length
  (List.drop (0 : Nat) s5)))).w) ∧
  List.take
  (calmO
  (Ses.mk s0
  (List.take s1.length (List.drop (0 : Nat) s1))
  s2
  (List.take s3.length (List.drop (0 : Nat) s3))
  (List.take s4.length (List.drop (0 : Nat) s4))
  (List.take s5.length
  (List.drop (0 : Nat) s5)))).a.length
  (List.drop (0 : Nat)
  (calmO
  (Ses.mk s0
  (List.take s1.length (List.drop (0 : Nat) s1))
  s2
  (List.take s3.length (List.drop (0 : Nat) s3))
  (List.take s4.length (List.drop (0 : Nat) s4))
  (List.take s5.length
  (List.drop (0 : Nat) s5)))).a) =
  List.take
  (calmO
  (Ses.mk s0
  (List.take s1.length (List.drop (0 : Nat) s1))
  s2
  (List.take s3.length (List.drop (0 : Nat) s3))
  (List.take s4.length (List.drop (0 : Nat) s4))
  (List.take s5.length
  (List.drop (0 : Nat) s5)))).a.length
  (List.drop (0 : Nat)
  (calmO
  (Ses.mk s0
  (List.take s1.length (List.drop (0 : Nat) s1))
  s2
  (List.take s3.length (List.drop (0 : Nat) s3))
  (List.take s4.length (List.drop (0 : Nat) s4))
  (List.take s5.length
  (List.drop (0 : Nat) s5)))).a)))
  (some (V.b false, []))
  (ifB
  (calmN
  (Ses.mk s0 (List.take s1.length (List.drop (0 : Nat) s1)) s2
  (List.take s3.length (List.drop (0 : Nat) s3))
  (List.take s4.length (List.drop (0 : Nat) s4))
  (List.take s5.length (List.drop (0 : Nat) s5))) !=
  calmN
  (Ses.mk s0 (List.take s1.length (List.drop (0 : Nat) s1)) s2
  (List.take s3.length (List.drop (0 : Nat) s3))
  (List.take s4.length (List.drop (0 : Nat) s4))
  (List.take s5.length (List.drop (0 : Nat) s5))))
  (some (V.b false, []))
  (ifB
  (!goodS s0 (List.take s1.length (List.drop (0 : Nat) s1)) s2
  (List.take s3.length (List.drop (0 : Nat) s3))
  (List.take s4.length (List.drop (0 : Nat) s4))
  (List.take s5.length (List.drop (0 : Nat) s5)) ==
  goodS s0 (List.take s1.length (List.drop (0 : Nat) s1)) s2
  (List.take s3.length (List.drop (0 : Nat) s3))
  (List.take s4.length (List.drop (0 : Nat) s4))
  (List.take s5.length (List.drop (0 : Nat) s5)))
  (some (V.b false, []))
  (ifT
  (decide
  ((0 : Int) ≤ (1 : Int) ∧
  (1 : Int) +
  (1 : Int) *
  (↑(List.take
  (calmO
  (Ses.mk s0
  (List.take s1.length
  (List.drop (0 : Nat) s1))
  s2
  (List.take s3.length
  (List.drop (0 : Nat) s3))
  (List.take s4.length
  (List.drop (0 : Nat) s4))
  (List.take s5.length
  (List.drop (0 : Nat)
  s5)))).it.length
  (List.drop (0 : Nat)
  (nilT Cd.str.den ++
  marks markStr1 (1 : Int) (1 : Int)
  (calmO
  (Ses.mk s0
  (List.take s1.length
  (List.drop (0 : Nat) s1))
  s2
  (List.take s3.length
  (List.drop (0 : Nat) s3))
  (List.take s4.length
  (List.drop (0 : Nat) s4))
  (List.take s5.length
  (List.drop (0 : Nat)
  s5)))).it.length ++
  List.drop
  ((0 : Nat) +
  (calmO
  (Ses.mk s0
  (List.take s1.length
  (List.drop (0 : Nat) s1))
  s2
  (List.take s3.length
  (List.drop (0 : Nat) s3))
  (List.take s4.length
  (List.drop (0 : Nat) s4))
  (List.take s5.length
  (List.drop (0 : Nat)
  s5)))).it.length)
  (calmO
  (Ses.mk s0
  (List.take s1.length
  (List.drop (0 : Nat) s1))
  s2
  (List.take s3.length
  (List.drop (0 : Nat) s3))
  (List.take s4.length
  (List.drop (0 : Nat) s4))
  (List.take s5.length
  (List.drop (0 : Nat)
  s5)))).it))).length :
  Int) +
  (1 : Int) *
  (↑(List.take
  (calmO
  (Ses.mk s0
  (List.take s1.length
  (List.drop (0 : Nat) s1))
  s2
  (List.take s3.length
  (List.drop (0 : Nat) s3))
  (List.take s4.length
  (List.drop (0 : Nat) s4))
  (List.take s5.length
  (List.drop (0 : Nat)
  s5)))).ha.length
  (List.drop (0 : Nat)
  (nilT Cd.str.den ++
  marks markStr1 (1 : Int)
  ((1 : Int) +
  (1 : Int) *
  (↑(calmO
  (Ses.mk s0
  (List.take s1.length
  (List.drop (0 : Nat)
  s1))
  s2
  (List.take s3.length
  (List.drop (0 : Nat)
  s3))
  (List.take s4.length
  (List.drop (0 : Nat)
  s4))
  (List.take s5.length
  (List.drop (0 : Nat)
  s5)))).it.length :
  Int))
  (calmO
  (Ses.mk s0
  (List.take s1.length
  (List.drop (0 : Nat) s1))
  s2
  (List.take s3.length
  (List.drop (0 : Nat) s3))
  (List.take s4.length
  (List.drop (0 : Nat) s4))
  (List.take s5.length
  (List.drop (0 : Nat)
  s5)))).ha.length ++
  List.drop
  ((0 : Nat) +
  (calmO
  (Ses.mk s0
  (List.take s1.length
  (List.drop (0 : Nat) s1))
  s2
  (List.take s3.length
  (List.drop (0 : Nat) s3))
  (List.take s4.length
  (List.drop (0 : Nat) s4))
  (List.take s5.length
  (List.drop (0 : Nat)
  s5)))).ha.length)
  (calmO
  (Ses.mk s0
  (List.take s1.length
  (List.drop (0 : Nat) s1))
  s2
  (List.take s3.length
  (List.drop (0 : Nat) s3))
  (List.take s4.length
  (List.drop (0 : Nat) s4))
  (List.take s5.length
  (List.drop (0 : Nat)
  s5)))).ha))).length :
  Int) +
  (3 : Int) *
  (↑(List.take
  (calmO
  (Ses.mk s0
  (List.take s1.length
  (List.drop (0 : Nat) s1))
  s2
  (List.take s3.length
  (List.drop (0 : Nat) s3))
  (List.take s4.length
  (List.drop (0 : Nat) s4))
  (List.take s5.length
  (List.drop (0 : Nat) s5)))).w.length
  (List.drop (0 : Nat)
  (nilT
  ((Cd.int IntKind.i64).pair
  ((Cd.int IntKind.i64).pair
  (Cd.str.pair Cd.unit))).den ++
  marks markPacket1 (3 : Int)
  ((1 : Int) +
  (1 : Int) *
  (↑(calmO
  (Ses.mk s0
  (List.take s1.length
  (List.drop (0 : Nat)
  s1))
  s2
  (List.take s3.length
  (List.drop (0 : Nat)
  s3))
  (List.take s4.length
  (List.drop (0 : Nat)
  s4))
  (List.take s5.length
  (List.drop (0 : Nat)
  s5)))).it.length :
  Int) +
  (1 : Int) *
  (↑(calmO
  (Ses.mk s0
  (List.take s1.length
  (List.drop (0 : Nat)
  s1))
  s2
  (List.take s3.length
  (List.drop (0 : Nat)
  s3))
  (List.take s4.length
  (List.drop (0 : Nat)
  s4))
  (List.take s5.length
  (List.drop (0 : Nat)
  s5)))).ha.length :
  Int))
  (calmO
  (Ses.mk s0
  (List.take s1.length
  (List.drop (0 : Nat) s1))
  s2
  (List.take s3.length
  (List.drop (0 : Nat) s3))
  (List.take s4.length
  (List.drop (0 : Nat) s4))
  (List.take s5.length
  (List.drop (0 : Nat)
  s5)))).w.length ++
  List.drop
  ((0 : Nat) +
  (calmO
  (Ses.mk s0
  (List.take s1.length
  (List.drop (0 : Nat) s1))
  s2
  (List.take s3.length
  (List.drop (0 : Nat) s3))
  (List.take s4.length
  (List.drop (0 : Nat) s4))
  (List.take s5.length
  (List.drop (0 : Nat)
  s5)))).w.length)
  (calmO
  (Ses.mk s0
  (List.take s1.length
  (List.drop (0 : Nat) s1))
  s2
  (List.take s3.length
  (List.drop (0 : Nat) s3))
  (List.take s4.length
  (List.drop (0 : Nat) s4))
  (List.take s5.length
  (List.drop (0 : Nat)
  s5)))).w))).length :
  Int) +
  (2 : Int) *
  (↑(List.take
  (calmO
  (Ses.mk s0
  (List.take s1.length
  (List.drop (0 : Nat) s1))
  s2
  (List.take s3.length
  (List.drop (0 : Nat) s3))
  (List.take s4.length
  (List.drop (0 : Nat) s4))
  (List.take s5.length
  (List.drop (0 : Nat) s5)))).a.length
  (List.drop (0 : Nat)
  (nilT
  ((Cd.int IntKind.i64).pair
  ((Cd.int IntKind.i64).pair
  Cd.unit)).den ++
  marks markAck1 (2 : Int)
  ((1 : Int) +
  (1 : Int) *
  (↑(calmO
  (Ses.mk s0
  (List.take s1.length
  (List.drop (0 : Nat)
  s1))
  s2
  (List.take s3.length
  (List.drop (0 : Nat)
  s3))
  (List.take s4.length
  (List.drop (0 : Nat)
  s4))
  (List.take s5.length
  (List.drop (0 : Nat)
  s5)))).it.length :
  Int) +
  (1 : Int) *
  (↑(calmO
  (Ses.mk s0
  (List.take s1.length
  (List.drop (0 : Nat)
  s1))
  s2
  (List.take s3.length
  (List.drop (0 : Nat)
  s3))
  (List.take s4.length
  (List.drop (0 : Nat)
  s4))
  (List.take s5.length
  (List.drop (0 : Nat)
  s5)))).ha.length :
  Int) +
  (3 : Int) *
  (↑(calmO
  (Ses.mk s0
  (List.take s1.length
  (List.drop (0 : Nat)
  s1))
  s2
  (List.take s3.length
  (List.drop (0 : Nat)
  s3))
  (List.take s4.length
  (List.drop (0 : Nat)
  s4))
  (List.take s5.length
  (List.drop (0 : Nat)
  s5)))).w.length :
  Int))
  (calmO
  (Ses.mk s0
  (List.take s1.length
  (List.drop (0 : Nat) s1))
  s2
  (List.take s3.length
  (List.drop (0 : Nat) s3))
  (List.take s4.length
  (List.drop (0 : Nat) s4))
  (List.take s5.length
  (List.drop (0 : Nat)
  s5)))).a.length ++
  List.drop
  ((0 : Nat) +
  (calmO
  (Ses.mk s0
  (List.take s1.length
  (List.drop (0 : Nat) s1))
  s2
  (List.take s3.length
  (List.drop (0 : Nat) s3))
  (List.take s4.length
  (List.drop (0 : Nat) s4))
  (List.take s5.length
  (List.drop (0 : Nat)
  s5)))).a.length)
  (calmO
  (Ses.mk s0
  (List.take s1.length
  (List.drop (0 : Nat) s1))
  s2
  (List.take s3.length
  (List.drop (0 : Nat) s3))
  (List.take s4.length
  (List.drop (0 : Nat) s4))
  (List.take s5.length
  (List.drop (0 : Nat)
  s5)))).a))).length :
  Int) ≤
  lim))
  (ifB
  (decide
  (List.take
  (calmO
  (Ses.mk s0
  (List.take s1.length (List.drop (0 : Nat) s1)) s2
  (List.take s3.length (List.drop (0 : Nat) s3))
  (List.take s4.length (List.drop (0 : Nat) s4))
  (List.take s5.length
  (List.drop (0 : Nat) s5)))).it.length
  (List.drop (0 : Nat)
  (nilT Cd.str.den ++
  marks markStr1 (1 : Int) (1 : Int)
  (calmO
  (Ses.mk s0
  (List.take s1.length
  (List.drop (0 : Nat) s1))
  s2
  (List.take s3.length
  (List.drop (0 : Nat) s3))
  (List.take s4.length
  (List.drop (0 : Nat) s4))
  (List.take s5.length
  (List.drop (0 : Nat) s5)))).it.length ++
  List.drop
  ((0 : Nat) +
  (calmO
  (Ses.mk s0
  (List.take s1.length
  (List.drop (0 : Nat) s1))
  s2
  (List.take s3.length
  (List.drop (0 : Nat) s3))
  (List.take s4.length
  (List.drop (0 : Nat) s4))
  (List.take s5.length
  (List.drop (0 : Nat) s5)))).it.length)
  (calmO
  (Ses.mk s0
  (List.take s1.length (List.drop (0 : Nat) s1))
  s2
  (List.take s3.length (List.drop (0 : Nat) s3))
  (List.take s4.length (List.drop (0 : Nat) s4))
  (List.take s5.length
  (List.drop (0 : Nat) s5)))).it)) =
  marks markStr1 (1 : Int) (1 : Int)
  (List.take
  (calmO
  (Ses.mk s0
  (List.take s1.length (List.drop (0 : Nat) s1))
  s2
  (List.take s3.length (List.drop (0 : Nat) s3))
  (List.take s4.length (List.drop (0 : Nat) s4))
  (List.take s5.length
  (List.drop (0 : Nat) s5)))).it.length
  (List.drop (0 : Nat)
  (nilT Cd.str.den ++
  marks markStr1 (1 : Int) (1 : Int)
  (calmO
  (Ses.mk s0
  (List.take s1.length
  (List.drop (0 : Nat) s1))
  s2
  (List.take s3.length
  (List.drop (0 : Nat) s3))
  (List.take s4.length
  (List.drop (0 : Nat) s4))
  (List.take s5.length
  (List.drop (0 : Nat)
  s5)))).it.length ++
  List.drop
  ((0 : Nat) +
  (calmO
  (Ses.mk s0
  (List.take s1.length
  (List.drop (0 : Nat) s1))
  s2
  (List.take s3.length
  (List.drop (0 : Nat) s3))
  (List.take s4.length
  (List.drop (0 : Nat) s4))
  (List.take s5.length
  (List.drop (0 : Nat)
  s5)))).it.length)
  (calmO
  (Ses.mk s0
  (List.take s1.length
  (List.drop (0 : Nat) s1))
  s2
  (List.take s3.length
  (List.drop (0 : Nat) s3))
  (List.take s4.length
  (List.drop (0 : Nat) s4))
  (List.take s5.length
  (List.drop (0 : Nat)
  s5)))).it))).length ∧
  List.take
  (calmO
  (Ses.mk s0
  (List.take s1.length (List.drop (0 : Nat) s1))
  s2
  (List.take s3.length (List.drop (0 : Nat) s3))
  (List.take s4.length (List.drop (0 : Nat) s4))
  (List.take s5.length
  (List.drop (0 : Nat) s5)))).ha.length
  (List.drop (0 : Nat)
  (nilT Cd.str.den ++
  marks markStr1 (1 : Int)
  ((1 : Int) +
  (1 : Int) *
  (↑(calmO
  (Ses.mk s0
  (List.take s1.length
  (List.drop (0 : Nat) s1))
  s2
  (List.take s3.length
  (List.drop (0 : Nat) s3))
  (List.take s4.length
  (List.drop (0 : Nat) s4))
  (List.take s5.length
  (List.drop (0 : Nat)
  s5)))).it.length :
  Int))
  (calmO
  (Ses.mk s0
  (List.take s1.length
  (List.drop (0 : Nat) s1))
  s2
  (List.take s3.length
  (List.drop (0 : Nat) s3))
  (List.take s4.length
  (List.drop (0 : Nat) s4))
  (List.take s5.length
  (List.drop (0 : Nat)
  s5)))).ha.length ++
  List.drop
  ((0 : Nat) +
  (calmO
  (Ses.mk s0
  (List.take s1.length
  (List.drop (0 : Nat) s1))
  s2
  (List.take s3.length
  (List.drop (0 : Nat) s3))
  (List.take s4.length
  (List.drop (0 : Nat) s4))
  (List.take s5.length
  (List.drop (0 : Nat) s5)))).ha.length)
  (calmO
  (Ses.mk s0
  (List.take s1.length
  (List.drop (0 : Nat) s1))
  s2
  (List.take s3.length
  (List.drop (0 : Nat) s3))
  (List.take s4.length
  (List.drop (0 : Nat) s4))
  (List.take s5.length
  (List.drop (0 : Nat) s5)))).ha)) =
  marks markStr1 (1 : Int)
  ((1 : Int) +
  (1 : Int) *
  (↑(List.take
  (calmO
  (Ses.mk s0
  (List.take s1.length
  (List.drop (0 : Nat) s1))
  s2
  (List.take s3.length
  (List.drop (0 : Nat) s3))
  (List.take s4.length
  (List.drop (0 : Nat) s4))
  (List.take s5.length
  (List.drop (0 : Nat)
  s5)))).it.length
  (List.drop (0 : Nat)
  (nilT Cd.str.den ++
  marks markStr1 (1 : Int) (1 : Int)
  (calmO
  (Ses.mk s0
  (List.take s1.length
  (List.drop (0 : Nat) s1))
  s2
  (List.take s3.length
  (List.drop (0 : Nat) s3))
  (List.take s4.length
  (List.drop (0 : Nat) s4))
  (List.take s5.length
  (List.drop (0 : Nat)
  s5)))).it.length ++
  List.drop
  ((0 : Nat) +
  (calmO
  (Ses.mk s0
  (List.take s1.length
  (List.drop (0 : Nat) s1))
  s2
  (List.take s3.length
  (List.drop (0 : Nat) s3))
  (List.take s4.length
  (List.drop (0 : Nat) s4))
  (List.take s5.length
  (List.drop (0 : Nat)
  s5)))).it.length)
  (calmO
  (Ses.mk s0
  (List.take s1.length
  (List.drop (0 : Nat) s1))
  s2
  (List.take s3.length
  (List.drop (0 : Nat) s3))
  (List.take s4.length
  (List.drop (0 : Nat) s4))
  (List.take s5.length
  (List.drop (0 : Nat)
  s5)))).it))).length :
  Int))
  (List.take
  (calmO
  (Ses.mk s0
  (List.take s1.length
  (List.drop (0 : Nat) s1))
  s2
  (List.take s3.length
  (List.drop (0 : Nat) s3))
  (List.take s4.length
  (List.drop (0 : Nat) s4))
  (List.take s5.length
  (List.drop (0 : Nat) s5)))).ha.length
  (List.drop (0 : Nat)
  (nilT Cd.str.den ++
  marks markStr1 (1 : Int)
  ((1 : Int) +
  (1 : Int) *
  (↑(calmO
  (Ses.mk s0
  (List.take s1.length
  (List.drop (0 : Nat) s1))
  s2
  (List.take s3.length
  (List.drop (0 : Nat) s3))
  (List.take s4.length
  (List.drop (0 : Nat) s4))
  (List.take s5.length
  (List.drop (0 : Nat)
  s5)))).it.length :
  Int))
  (calmO
  (Ses.mk s0
  (List.take s1.length
  (List.drop (0 : Nat) s1))
  s2
  (List.take s3.length
  (List.drop (0 : Nat) s3))
  (List.take s4.length
  (List.drop (0 : Nat) s4))
  (List.take s5.length
  (List.drop (0 : Nat)
  s5)))).ha.length ++
  List.drop
  ((0 : Nat) +
  (calmO
  (Ses.mk s0
  (List.take s1.length
  (List.drop (0 : Nat) s1))
  s2
  (List.take s3.length
  (List.drop (0 : Nat) s3))
  (List.take s4.length
  (List.drop (0 : Nat) s4))
  (List.take s5.length
  (List.drop (0 : Nat)
  s5)))).ha.length)
  (calmO
  (Ses.mk s0
  (List.take s1.length
  (List.drop (0 : Nat) s1))
  s2
  (List.take s3.length
  (List.drop (0 : Nat) s3))
  (List.take s4.length
  (List.drop (0 : Nat) s4))
  (List.take s5.length
  (List.drop (0 : Nat)
  s5)))).ha))).length ∧
  List.take
  (calmO
  (Ses.mk s0
  (List.take s1.length (List.drop (0 : Nat) s1))
  s2
  (List.take s3.length (List.drop (0 : Nat) s3))
  (List.take s4.length (List.drop (0 : Nat) s4))
  (List.take s5.length
  (List.drop (0 : Nat) s5)))).w.length
  (List.drop (0 : Nat)
  (nilT
  ((Cd.int IntKind.i64).pair
  ((Cd.int IntKind.i64).pair
  (Cd.str.pair Cd.unit))).den ++
  marks markPacket1 (3 : Int)
  ((1 : Int) +
  (1 : Int) *
  (↑(calmO
  (Ses.mk s0
  (List.take s1.length
  (List.drop (0 : Nat) s1))
  s2
  (List.take s3.length
  (List.drop (0 : Nat) s3))
  (List.take s4.length
  (List.drop (0 : Nat) s4))
  (List.take s5.length
  (List.drop (0 : Nat)
  s5)))).it.length :
  Int) +
  (1 : Int) *
  (↑(calmO
  (Ses.mk s0
  (List.take s1.length
  (List.drop (0 : Nat) s1))
  s2
  (List.take s3.length
  (List.drop (0 : Nat) s3))
  (List.take s4.length
  (List.drop (0 : Nat) s4))
  (List.take s5.length
  (List.drop (0 : Nat)
  s5)))).ha.length :
  Int))
  (calmO
  (Ses.mk s0
  (List.take s1.length
  (List.drop (0 : Nat) s1))
  s2
  (List.take s3.length
  (List.drop (0 : Nat) s3))
  (List.take s4.length
  (List.drop (0 : Nat) s4))
  (List.take s5.length
  (List.drop (0 : Nat)
  s5)))).w.length ++
  List.drop
  ((0 : Nat) +
  (calmO
  (Ses.mk s0
  (List.take s1.length
  (List.drop (0 : Nat) s1))
  s2
  (List.take s3.length
  (List.drop (0 : Nat) s3))
  (List.take s4.length
  (List.drop (0 : Nat) s4))
  (List.take s5.length
  (List.drop (0 : Nat)
  s5)))).w.length)
  (calmO
  (Ses.mk s0
  (List.take s1.length
  (List.drop (0 : Nat) s1))
  s2
  (List.take s3.length
  (List.drop (0 : Nat) s3))
  (List.take s4.length
  (List.drop (0 : Nat) s4))
  (List.take s5.length
  (List.drop (0 : Nat) s5)))).w)) =
  marks markPacket1 (3 : Int)
  ((1 : Int) +
  (1 : Int) *
  (↑(List.take
  (calmO
  (Ses.mk s0
  (List.take s1.length
  (List.drop (0 : Nat) s1))
  s2
  (List.take s3.length
  (List.drop (0 : Nat) s3))
  (List.take s4.length
  (List.drop (0 : Nat) s4))
  (List.take s5.length
  (List.drop (0 : Nat)
  s5)))).it.length
  (List.drop (0 : Nat)
  (nilT Cd.str.den ++
  marks markStr1 (1 : Int) (1 : Int)
  (calmO
  (Ses.mk s0
  (List.take s1.length
  (List.drop (0 : Nat)
  s1))
  s2
  (List.take s3.length
  (List.drop (0 : Nat)
  s3))
  (List.take s4.length
  (List.drop (0 : Nat)
  s4))
  (List.take s5.length
  (List.drop (0 : Nat)
  s5)))).it.length ++
  List.drop
  ((0 : Nat) +
  (calmO
  (Ses.mk s0
  (List.take s1.length
  (List.drop (0 : Nat)
  s1))
  s2
  (List.take s3.length
  (List.drop (0 : Nat)
  s3))
  (List.take s4.length
  (List.drop (0 : Nat)
  s4))
  (List.take s5.length
  (List.drop (0 : Nat)
  s5)))).it.length)
  (calmO
  (Ses.mk s0
  (List.take s1.length
  (List.drop (0 : Nat) s1))
  s2
  (List.take s3.length
  (List.drop (0 : Nat) s3))
  (List.take s4.length
  (List.drop (0 : Nat) s4))
  (List.take s5.length
  (List.drop (0 : Nat)
  s5)))).it))).length :
  Int) +
  (1 : Int) *
  (↑(List.take
  (calmO
  (Ses.mk s0
  (List.take s1.length
  (List.drop (0 : Nat) s1))
  s2
  (List.take s3.length
  (List.drop (0 : Nat) s3))
  (List.take s4.length
  (List.drop (0 : Nat) s4))
  (List.take s5.length
  (List.drop (0 : Nat)
  s5)))).ha.length
  (List.drop (0 : Nat)
  (nilT Cd.str.den ++
  marks markStr1 (1 : Int)
  ((1 : Int) +
  (1 : Int) *
  (↑(calmO
  (Ses.mk s0
  (List.take
  s1.length
  (List.drop
  (0 : Nat) s1))
  s2
  (List.take
  s3.length
  (List.drop
  (0 : Nat) s3))
  (List.take
  s4.length
  (List.drop
  (0 : Nat) s4))
  (List.take
  s5.length
  (List.drop
  (0 : Nat)
  s5)))).it.length :
  Int))
  (calmO
  (Ses.mk s0
  (List.take s1.length
  (List.drop (0 : Nat)
  s1))
  s2
  (List.take s3.length
  (List.drop (0 : Nat)
  s3))
  (List.take s4.length
  (List.drop (0 : Nat)
  s4))
  (List.take s5.length
  (List.drop (0 : Nat)
  s5)))).ha.length ++
  List.drop
  ((0 : Nat) +
  (calmO
  (Ses.mk s0
  (List.take s1.length
  (List.drop (0 : Nat)
  s1))
  s2
  (List.take s3.length
  (List.drop (0 : Nat)
  s3))
  (List.take s4.length
  (List.drop (0 : Nat)
  s4))
  (List.take s5.length
  (List.drop (0 : Nat)
  s5)))).ha.length)
  (calmO
  (Ses.mk s0
  (List.take s1.length
  (List.drop (0 : Nat) s1))
  s2
  (List.take s3.length
  (List.drop (0 : Nat) s3))
  (List.take s4.length
  (List.drop (0 : Nat) s4))
  (List.take s5.length
  (List.drop (0 : Nat)
  s5)))).ha))).length :
  Int))
  (List.take
  (calmO
  (Ses.mk s0
  (List.take s1.length
  (List.drop (0 : Nat) s1))
  s2
  (List.take s3.length
  (List.drop (0 : Nat) s3))
  (List.take s4.length
  (List.drop (0 : Nat) s4))
  (List.take s5.length
  (List.drop (0 : Nat) s5)))).w.length
  (List.drop (0 : Nat)
  (nilT
  ((Cd.int IntKind.i64).pair
  ((Cd.int IntKind.i64).pair
  (Cd.str.pair Cd.unit))).den ++
  marks markPacket1 (3 : Int)
  ((1 : Int) +
  (1 : Int) *
  (↑(calmO
  (Ses.mk s0
  (List.take s1.length
  (List.drop (0 : Nat)
  s1))
  s2
  (List.take s3.length
  (List.drop (0 : Nat)
  s3))
  (List.take s4.length
  (List.drop (0 : Nat)
  s4))
  (List.take s5.length
  (List.drop (0 : Nat)
  s5)))).it.length :
  Int) +
  (1 : Int) *
  (↑(calmO
  (Ses.mk s0
  (List.take s1.length
  (List.drop (0 : Nat)
  s1))
  s2
  (List.take s3.length
  (List.drop (0 : Nat)
  s3))
  (List.take s4.length
  (List.drop (0 : Nat)
  s4))
  (List.take s5.length
  (List.drop (0 : Nat)
  s5)))).ha.length :
  Int))
  (calmO
  (Ses.mk s0
  (List.take s1.length
  (List.drop (0 : Nat) s1))
  s2
  (List.take s3.length
  (List.drop (0 : Nat) s3))
  (List.take s4.length
  (List.drop (0 : Nat) s4))
  (List.take s5.length
  (List.drop (0 : Nat)
  s5)))).w.length ++
  List.drop
  ((0 : Nat) +
  (calmO
  (Ses.mk s0
  (List.take s1.length
  (List.drop (0 : Nat) s1))
  s2
  (List.take s3.length
  (List.drop (0 : Nat) s3))
  (List.take s4.length
  (List.drop (0 : Nat) s4))
  (List.take s5.length
  (List.drop (0 : Nat)
  s5)))).w.length)
  (calmO
  (Ses.mk s0
  (List.take s1.length
  (List.drop (0 : Nat) s1))
  s2
  (List.take s3.length
  (List.drop (0 : Nat) s3))
  (List.take s4.length
  (List.drop (0 : Nat) s4))
  (List.take s5.length
  (List.drop (0 : Nat)
  s5)))).w))).length ∧
  List.take
  (calmO
  (Ses.mk s0
  (List.take s1.length (List.drop (0 : Nat) s1))
  s2
  (List.take s3.length (List.drop (0 : Nat) s3))
  (List.take s4.length (List.drop (0 : Nat) s4))
  (List.take s5.length
  (List.drop (0 : Nat) s5)))).a.length
  (List.drop (0 : Nat)
  (nilT
  ((Cd.int IntKind.i64).pair
  ((Cd.int IntKind.i64).pair
  Cd.unit)).den ++
  marks markAck1 (2 : Int)
  ((1 : Int) +
  (1 : Int) *
  (↑(calmO
  (Ses.mk s0
  (List.take s1.length
  (List.drop (0 : Nat)
  s1))
  s2
  (List.take s3.length
  (List.drop (0 : Nat)
  s3))
  (List.take s4.length
  (List.drop (0 : Nat)
  s4))
  (List.take s5.length
  (List.drop (0 : Nat)
  s5)))).it.length :
  Int) +
  (1 : Int) *
  (↑(calmO
  (Ses.mk s0
  (List.take s1.length
  (List.drop (0 : Nat) s1))
  s2
  (List.take s3.length
  (List.drop (0 : Nat) s3))
  (List.take s4.length
  (List.drop (0 : Nat) s4))
  (List.take s5.length
  (List.drop (0 : Nat)
  s5)))).ha.length :
  Int) +
  (3 : Int) *
  (↑(calmO
  (Ses.mk s0
  (List.take s1.length
  (List.drop (0 : Nat) s1))
  s2
  (List.take s3.length
  (List.drop (0 : Nat) s3))
  (List.take s4.length
  (List.drop (0 : Nat) s4))
  (List.take s5.length
  (List.drop (0 : Nat)
  s5)))).w.length :
  Int))
  (calmO
  (Ses.mk s0
  (List.take s1.length
  (List.drop (0 : Nat) s1))
  s2
  (List.take s3.length
  (List.drop (0 : Nat) s3))
  (List.take s4.length
  (List.drop (0 : Nat) s4))
  (List.take s5.length
  (List.drop (0 : Nat)
  s5)))).a.length ++
  List.drop
  ((0 : Nat) +
  (calmO
  (Ses.mk s0
  (List.take s1.length
  (List.drop (0 : Nat) s1))
  s2
  (List.take s3.length
  (List.drop (0 : Nat) s3))
  (List.take s4.length
  (List.drop (0 : Nat) s4))
  (List.take s5.length
  (List.drop (0 : Nat)
  s5)))).a.length)
  (calmO
  (Ses.mk s0
  (List.take s1.length
  (List.drop (0 : Nat) s1))
  s2
  (List.take s3.length
  (List.drop (0 : Nat) s3))
  (List.take s4.length
  (List.drop (0 : Nat) s4))
  (List.take s5.length
  (List.drop (0 : Nat) s5)))).a)) =
  marks markAck1 (2 : Int)
  ((1 : Int) +
  (1 : Int) *
  (↑(List.take
  (calmO
  (Ses.mk s0
  (List.take s1.length
  (List.drop (0 : Nat) s1))
  s2
  (List.take s3.length
  (List.drop (0 : Nat) s3))
  (List.take s4.length
  (List.drop (0 : Nat) s4))
  (List.take s5.length
  (List.drop (0 : Nat)
  s5)))).it.length
  (List.drop (0 : Nat)
  (nilT Cd.str.den ++
  marks markStr1 (1 : Int)
  (1 : Int)
  (calmO
  (Ses.mk s0
  (List.take s1.length
  (List.drop (0 : Nat)
  s1))
  s2
  (List.take s3.length
  (List.drop (0 : Nat)
  s3))
  (List.take s4.length
  (List.drop (0 : Nat)
  s4))
  (List.take s5.length
  (List.drop (0 : Nat)
  s5)))).it.length ++
  List.drop
  ((0 : Nat) +
  (calmO
  (Ses.mk s0
  (List.take s1.length
  (List.drop (0 : Nat)
  s1))
  s2
  (List.take s3.length
  (List.drop (0 : Nat)
  s3))
  (List.take s4.length
  (List.drop (0 : Nat)
  s4))
  (List.take s5.length
  (List.drop (0 : Nat)
  s5)))).it.length)
  (calmO
  (Ses.mk s0
  (List.take s1.length
  (List.drop (0 : Nat)
  s1))
  s2
  (List.take s3.length
  (List.drop (0 : Nat)
  s3))
  (List.take s4.length
  (List.drop (0 : Nat)
  s4))
  (List.take s5.length
  (List.drop (0 : Nat)
  s5)))).it))).length :
  Int) +
  (1 : Int) *
  (↑(List.take
  (calmO
  (Ses.mk s0
  (List.take s1.length
  (List.drop (0 : Nat) s1))
  s2
  (List.take s3.length
  (List.drop (0 : Nat) s3))
  (List.take s4.length
  (List.drop (0 : Nat) s4))
  (List.take s5.length
  (List.drop (0 : Nat)
  s5)))).ha.length
  (List.drop (0 : Nat)
  (nilT Cd.str.den ++
  marks markStr1 (1 : Int)
  ((1 : Int) +
  (1 : Int) *
  (↑(calmO
  (Ses.mk s0
  (List.take
  s1.length
  (List.drop
  (0 : Nat)
  s1))
  s2
  (List.take
  s3.length
  (List.drop
  (0 : Nat)
  s3))
  (List.take
  s4.length
  (List.drop
  (0 : Nat)
  s4))
  (List.take
  s5.length
  (List.drop
  (0 : Nat)
  s5)))).it.length :
  Int))
  (calmO
  (Ses.mk s0
  (List.take s1.length
  (List.drop (0 : Nat)
  s1))
  s2
  (List.take s3.length
  (List.drop (0 : Nat)
  s3))
  (List.take s4.length
  (List.drop (0 : Nat)
  s4))
  (List.take s5.length
  (List.drop (0 : Nat)
  s5)))).ha.length ++
  List.drop
  ((0 : Nat) +
  (calmO
  (Ses.mk s0
  (List.take s1.length
  (List.drop (0 : Nat)
  s1))
  s2
  (List.take s3.length
  (List.drop (0 : Nat)
  s3))
  (List.take s4.length
  (List.drop (0 : Nat)
  s4))
  (List.take s5.length
  (List.drop (0 : Nat)
  s5)))).ha.length)
  (calmO
  (Ses.mk s0
  (List.take s1.length
  (List.drop (0 : Nat) s1))
  s2
  (List.take s3.length
  (List.drop (0 : Nat) s3))
  (List.take s4.length
  (List.drop (0 : Nat) s4))
  (List.take s5.length
  (List.drop (0 : Nat)
  s5)))).ha))).length :
  Int) +
  (3 : Int) *
  (↑(List.take
  (calmO
  (Ses.mk s0
  (List.take s1.length
  (List.drop (0 : Nat) s1))
  s2
  (List.take s3.length
  (List.drop (0 : Nat) s3))
  (List.take s4.length
  (List.drop (0 : Nat) s4))
  (List.take s5.length
  (List.drop (0 : Nat)
  s5)))).w.length
  (List.drop (0 : Nat)
  (nilT
  ((Cd.int IntKind.i64).pair
  ((Cd.int IntKind.i64).pair
  (Cd.str.pair
  Cd.unit))).den ++
  marks markPacket1 (3 : Int)
  ((1 : Int) +
  (1 : Int) *
  (↑(calmO
  (Ses.mk s0
  (List.take
  s1.length
  (List.drop
  (0 : Nat)
  s1))
  s2
  (List.take
  s3.length
  (List.drop
  (0 : Nat)
  s3))
  (List.take
  s4.length
  (List.drop
  (0 : Nat)
  s4))
  (List.take
  s5.length
  (List.drop
  (0 : Nat)
  s5)))).it.length :
  Int) +
  (1 : Int) *
  (↑(calmO
  (Ses.mk s0
  (List.take
  s1.length
  (List.drop
  (0 : Nat) s1))
  s2
  (List.take
  s3.length
  (List.drop
  (0 : Nat) s3))
  (List.take
  s4.length
  (List.drop
  (0 : Nat) s4))
  (List.take
  s5.length
  (List.drop
  (0 : Nat)
  s5)))).ha.length :
  Int))
  (calmO
  (Ses.mk s0
  (List.take s1.length
  (List.drop (0 : Nat)
  s1))
  s2
  (List.take s3.length
  (List.drop (0 : Nat)
  s3))
  (List.take s4.length
  (List.drop (0 : Nat)
  s4))
  (List.take s5.length
  (List.drop (0 : Nat)
  s5)))).w.length ++
  List.drop
  ((0 : Nat) +
  (calmO
  (Ses.mk s0
  (List.take s1.length
  (List.drop (0 : Nat)
  s1))
  s2
  (List.take s3.length
  (List.drop (0 : Nat)
  s3))
  (List.take s4.length
  (List.drop (0 : Nat)
  s4))
  (List.take s5.length
  (List.drop (0 : Nat)
  s5)))).w.length)
  (calmO
  (Ses.mk s0
  (List.take s1.length
  (List.drop (0 : Nat) s1))
  s2
  (List.take s3.length
  (List.drop (0 : Nat) s3))
  (List.take s4.length
  (List.drop (0 : Nat) s4))
  (List.take s5.length
  (List.drop (0 : Nat)
  s5)))).w))).length :
  Int))
  (List.take
  (calmO
  (Ses.mk s0
  (List.take s1.length
  (List.drop (0 : Nat) s1))
  s2
  (List.take s3.length
  (List.drop (0 : Nat) s3))
  (List.take s4.length
  (List.drop (0 : Nat) s4))
  (List.take s5.length
  (List.drop (0 : Nat) s5)))).a.length
  (List.drop (0 : Nat)
  (nilT
  ((Cd.int IntKind.i64).pair
  ((Cd.int IntKind.i64).pair
  Cd.unit)).den ++
  marks markAck1 (2 : Int)
  ((1 : Int) +
  (1 : Int) *
  (↑(calmO
  (Ses.mk s0
  (List.take s1.length
  (List.drop (0 : Nat)
  s1))
  s2
  (List.take s3.length
  (List.drop (0 : Nat)
  s3))
  (List.take s4.length
  (List.drop (0 : Nat)
  s4))
  (List.take s5.length
  (List.drop (0 : Nat)
  s5)))).it.length :
  Int) +
  (1 : Int) *
  (↑(calmO
  (Ses.mk s0
  (List.take s1.length
  (List.drop (0 : Nat)
  s1))
  s2
  (List.take s3.length
  (List.drop (0 : Nat)
  s3))
  (List.take s4.length
  (List.drop (0 : Nat)
  s4))
  (List.take s5.length
  (List.drop (0 : Nat)
  s5)))).ha.length :
  Int) +
  (3 : Int) *
  (↑(calmO
  (Ses.mk s0
  (List.take s1.length
  (List.drop (0 : Nat)
  s1))
  s2
  (List.take s3.length
  (List.drop (0 : Nat)
  s3))
  (List.take s4.length
  (List.drop (0 : Nat)
  s4))
  (List.take s5.length
  (List.drop (0 : Nat)
  s5)))).w.length :
  Int))
  (calmO
  (Ses.mk s0
  (List.take s1.length
  (List.drop (0 : Nat) s1))
  s2
  (List.take s3.length
  (List.drop (0 : Nat) s3))
  (List.take s4.length
  (List.drop (0 : Nat) s4))
  (List.take s5.length
  (List.drop (0 : Nat)
  s5)))).a.length ++
  List.drop
  ((0 : Nat) +
  (calmO
  (Ses.mk s0
  (List.take s1.length
  (List.drop (0 : Nat) s1))
  s2
  (List.take s3.length
  (List.drop (0 : Nat) s3))
  (List.take s4.length
  (List.drop (0 : Nat) s4))
  (List.take s5.length
  (List.drop (0 : Nat)
  s5)))).a.length)
  (calmO
  (Ses.mk s0
  (List.take s1.length
  (List.drop (0 : Nat) s1))
  s2
  (List.take s3.length
  (List.drop (0 : Nat) s3))
  (List.take s4.length
  (List.drop (0 : Nat) s4))
  (List.take s5.length
  (List.drop (0 : Nat)
  s5)))).a))).length))
  (ifB
  ((1 : Int) +
  (1 : Int) *
  (↑(List.take
  (calmO
  (Ses.mk s0
  (List.take s1.length
  (List.drop (0 : Nat) s1))
  s2
  (List.take s3.length
  (List.drop (0 : Nat) s3))
  (List.take s4.length
  (List.drop (0 : Nat) s4))
  (List.take s5.length
  (List.drop (0 : Nat)
  s5)))).it.length
  (List.drop (0 : Nat)
  (nilT Cd.str.den ++
  marks markStr1 (1 : Int) (1 : Int)
  (calmO
  (Ses.mk s0
  (List.take s1.length
  (List.drop (0 : Nat) s1))
  s2
  (List.take s3.length
  (List.drop (0 : Nat) s3))
  (List.take s4.length
  (List.drop (0 : Nat) s4))
  (List.take s5.length
  (List.drop (0 : Nat)
  s5)))).it.length ++
  List.drop
  ((0 : Nat) +
  (calmO
  (Ses.mk s0
  (List.take s1.length
  (List.drop (0 : Nat) s1))
  s2
  (List.take s3.length
  (List.drop (0 : Nat) s3))
  (List.take s4.length
  (List.drop (0 : Nat) s4))
  (List.take s5.length
  (List.drop (0 : Nat)
  s5)))).it.length)
  (calmO
  (Ses.mk s0
  (List.take s1.length
  (List.drop (0 : Nat) s1))
  s2
  (List.take s3.length
  (List.drop (0 : Nat) s3))
  (List.take s4.length
  (List.drop (0 : Nat) s4))
  (List.take s5.length
  (List.drop (0 : Nat)
  s5)))).it))).length :
  Int) +
  (1 : Int) *
  (↑(List.take
  (calmO
  (Ses.mk s0
  (List.take s1.length
  (List.drop (0 : Nat) s1))
  s2
  (List.take s3.length
  (List.drop (0 : Nat) s3))
  (List.take s4.length
  (List.drop (0 : Nat) s4))
  (List.take s5.length
  (List.drop (0 : Nat)
  s5)))).ha.length
  (List.drop (0 : Nat)
  (nilT Cd.str.den ++
  marks markStr1 (1 : Int)
  ((1 : Int) +
  (1 : Int) *
  (↑(calmO
  (Ses.mk s0
  (List.take s1.length
  (List.drop (0 : Nat)
  s1))
  s2
  (List.take s3.length
  (List.drop (0 : Nat)
  s3))
  (List.take s4.length
  (List.drop (0 : Nat)
  s4))
  (List.take s5.length
  (List.drop (0 : Nat)
  s5)))).it.length :
  Int))
  (calmO
  (Ses.mk s0
  (List.take s1.length
  (List.drop (0 : Nat) s1))
  s2
  (List.take s3.length
  (List.drop (0 : Nat) s3))
  (List.take s4.length
  (List.drop (0 : Nat) s4))
  (List.take s5.length
  (List.drop (0 : Nat)
  s5)))).ha.length ++
  List.drop
  ((0 : Nat) +
  (calmO
  (Ses.mk s0
  (List.take s1.length
  (List.drop (0 : Nat) s1))
  s2
  (List.take s3.length
  (List.drop (0 : Nat) s3))
  (List.take s4.length
  (List.drop (0 : Nat) s4))
  (List.take s5.length
  (List.drop (0 : Nat)
  s5)))).ha.length)
  (calmO
  (Ses.mk s0
  (List.take s1.length
  (List.drop (0 : Nat) s1))
  s2
  (List.take s3.length
  (List.drop (0 : Nat) s3))
  (List.take s4.length
  (List.drop (0 : Nat) s4))
  (List.take s5.length
  (List.drop (0 : Nat)
  s5)))).ha))).length :
  Int) +
  (3 : Int) *
  (↑(List.take
  (calmO
  (Ses.mk s0
  (List.take s1.length
  (List.drop (0 : Nat) s1))
  s2
  (List.take s3.length
  (List.drop (0 : Nat) s3))
  (List.take s4.length
  (List.drop (0 : Nat) s4))
  (List.take s5.length
  (List.drop (0 : Nat) s5)))).w.length
  (List.drop (0 : Nat)
  (nilT
  ((Cd.int IntKind.i64).pair
  ((Cd.int IntKind.i64).pair
  (Cd.str.pair Cd.unit))).den ++
  marks markPacket1 (3 : Int)
  ((1 : Int) +
  (1 : Int) *
  (↑(calmO
  (Ses.mk s0
  (List.take s1.length
  (List.drop (0 : Nat)
  s1))
  s2
  (List.take s3.length
  (List.drop (0 : Nat)
  s3))
  (List.take s4.length
  (List.drop (0 : Nat)
  s4))
  (List.take s5.length
  (List.drop (0 : Nat)
  s5)))).it.length :
  Int) +
  (1 : Int) *
  (↑(calmO
  (Ses.mk s0
  (List.take s1.length
  (List.drop (0 : Nat)
  s1))
  s2
  (List.take s3.length
  (List.drop (0 : Nat)
  s3))
  (List.take s4.length
  (List.drop (0 : Nat)
  s4))
  (List.take s5.length
  (List.drop (0 : Nat)
  s5)))).ha.length :
  Int))
  (calmO
  (Ses.mk s0
  (List.take s1.length
  (List.drop (0 : Nat) s1))
  s2
  (List.take s3.length
  (List.drop (0 : Nat) s3))
  (List.take s4.length
  (List.drop (0 : Nat) s4))
  (List.take s5.length
  (List.drop (0 : Nat)
  s5)))).w.length ++
  List.drop
  ((0 : Nat) +
  (calmO
  (Ses.mk s0
  (List.take s1.length
  (List.drop (0 : Nat) s1))
  s2
  (List.take s3.length
  (List.drop (0 : Nat) s3))
  (List.take s4.length
  (List.drop (0 : Nat) s4))
  (List.take s5.length
  (List.drop (0 : Nat)
  s5)))).w.length)
  (calmO
  (Ses.mk s0
  (List.take s1.length
  (List.drop (0 : Nat) s1))
  s2
  (List.take s3.length
  (List.drop (0 : Nat) s3))
  (List.take s4.length
  (List.drop (0 : Nat) s4))
  (List.take s5.length
  (List.drop (0 : Nat)
  s5)))).w))).length :
  Int) +
  (2 : Int) *
  (↑(List.take
  (calmO
  (Ses.mk s0
  (List.take s1.length
  (List.drop (0 : Nat) s1))
  s2
  (List.take s3.length
  (List.drop (0 : Nat) s3))
  (List.take s4.length
  (List.drop (0 : Nat) s4))
  (List.take s5.length
  (List.drop (0 : Nat) s5)))).a.length
  (List.drop (0 : Nat)
  (nilT
  ((Cd.int IntKind.i64).pair
  ((Cd.int IntKind.i64).pair
  Cd.unit)).den ++
  marks markAck1 (2 : Int)
  ((1 : Int) +
  (1 : Int) *
  (↑(calmO
  (Ses.mk s0
  (List.take s1.length
  (List.drop (0 : Nat)
  s1))
  s2
  (List.take s3.length
  (List.drop (0 : Nat)
  s3))
  (List.take s4.length
  (List.drop (0 : Nat)
  s4))
  (List.take s5.length
  (List.drop (0 : Nat)
  s5)))).it.length :
  Int) +
  (1 : Int) *
  (↑(calmO
  (Ses.mk s0
  (List.take s1.length
  (List.drop (0 : Nat)
  s1))
  s2
  (List.take s3.length
  (List.drop (0 : Nat)
  s3))
  (List.take s4.length
  (List.drop (0 : Nat)
  s4))
  (List.take s5.length
  (List.drop (0 : Nat)
  s5)))).ha.length :
  Int) +
  (3 : Int) *
  (↑(calmO
  (Ses.mk s0
  (List.take s1.length
  (List.drop (0 : Nat)
  s1))
  s2
  (List.take s3.length
  (List.drop (0 : Nat)
  s3))
  (List.take s4.length
  (List.drop (0 : Nat)
  s4))
  (List.take s5.length
  (List.drop (0 : Nat)
  s5)))).w.length :
  Int))
  (calmO
  (Ses.mk s0
  (List.take s1.length
  (List.drop (0 : Nat) s1))
  s2
  (List.take s3.length
  (List.drop (0 : Nat) s3))
  (List.take s4.length
  (List.drop (0 : Nat) s4))
  (List.take s5.length
  (List.drop (0 : Nat)
  s5)))).a.length ++
  List.drop
  ((0 : Nat) +
  (calmO
  (Ses.mk s0
  (List.take s1.length
  (List.drop (0 : Nat) s1))
  s2
  (List.take s3.length
  (List.drop (0 : Nat) s3))
  (List.take s4.length
  (List.drop (0 : Nat) s4))
  (List.take s5.length
  (List.drop (0 : Nat)
  s5)))).a.length)
  (calmO
  (Ses.mk s0
  (List.take s1.length
  (List.drop (0 : Nat) s1))
  s2
  (List.take s3.length
  (List.drop (0 : Nat) s3))
  (List.take s4.length
  (List.drop (0 : Nat) s4))
  (List.take s5.length
  (List.drop (0 : Nat)
  s5)))).a))).length :
  Int) !=
  (1 : Int) +
  (1 : Int) *
  (↑(calmO
  (Ses.mk s0
  (List.take s1.length
  (List.drop (0 : Nat) s1))
  s2
  (List.take s3.length
  (List.drop (0 : Nat) s3))
  (List.take s4.length
  (List.drop (0 : Nat) s4))
  (List.take s5.length
  (List.drop (0 : Nat)
  s5)))).it.length :
  Int) +
  (1 : Int) *
  (↑(calmO
  (Ses.mk s0
  (List.take s1.length
  (List.drop (0 : Nat) s1))
  s2
  (List.take s3.length
  (List.drop (0 : Nat) s3))
  (List.take s4.length
  (List.drop (0 : Nat) s4))
  (List.take s5.length
  (List.drop (0 : Nat) s5)))).ha.length :
  Int) +
  (3 : Int) *
  (↑(calmO
  (Ses.mk s0
  (List.take s1.length
  (List.drop (0 : Nat) s1))
  s2
  (List.take s3.length
  (List.drop (0 : Nat) s3))
  (List.take s4.length
  (List.drop (0 : Nat) s4))
  (List.take s5.length
  (List.drop (0 : Nat) s5)))).w.length :
  Int) +
  (2 : Int) *
  (↑(calmO
  (Ses.mk s0
  (List.take s1.length (List.drop (0 : Nat) s1))
  s2
  (List.take s3.length (List.drop (0 : Nat) s3))
  (List.take s4.length (List.drop (0 : Nat) s4))
  (List.take s5.length
  (List.drop (0 : Nat) s5)))).a.length :
  Int))
  (some (V.b false, [])) (some (V.b true, [])))
  (some (V.b false, []))))))))))
  (some (V.b false, []))))))))))))))))))))) : _) := by kernel_rfl
  rw [e, ifT_true (decide_eq_true ⟨by omega, by unfold lim; omega, h1, h3, h4⟩)]
  clear e
  by_cases q : (((((1048576 : Int) - (↑s1.length : Int) - szStrsW s1) - (↑s3.length : Int) - szStrsW s3) - (↑s4.length : Int) - szPacketsW s4) - (↑s5.length : Int)) < 0
  · simp [q]
  have w1 := szStrsW_nonneg s1
  have w3 := szStrsW_nonneg s3
  have w4 := szPacketsW_nonneg s4
  have l1 : s1.length ≤ 1000000000 := by omega
  have l3 : s3.length ≤ 1000000000 := by omega
  have l4 : s4.length ≤ 1000000000 := by omega
  have l5 : s5.length ≤ 1000000000 := by omega
  have m3 : (↑s3.length : Int) ≤ lim := by unfold lim; omega
  have l135 : s1.length + s3.length + s4.length + s5.length ≤ 1048576 := by omega
  have hO : (calmO (Ses.mk s0 s1 s2 s3 s4 s5)).it.length ≤ 1000 ∧ (calmO (Ses.mk s0 s1 s2 s3 s4 s5)).ha.length ≤ 1000 ∧ (calmO (Ses.mk s0 s1 s2 s3 s4 s5)).w.length ≤ 1000 ∧ (calmO (Ses.mk s0 s1 s2 s3 s4 s5)).a.length ≤ 1000 := by
    unfold calmO
    dsimp only
    cases hg : goodS s0 s1 s2 s3 s4 s5 with
    | false => simp
    | true =>
      obtain ⟨he, g1, -, g2, -, hb, g4, g5, -⟩ := good_len hg
      obtain ⟨c1, c2, c3, c4⟩ := Ses.calm_inv (good_inv hg)
      obtain ⟨-, -, -, r4, r5, r6, r7⟩ := Ses.run_inv s1.length c1 c2 c3
      dsimp only at r4 r5 r6 r7
      simp only [cond_true]
      omega
  simp only [List.drop_zero, List.take_length, List.take_zero, List.nil_append, Nat.zero_add, List.drop_length, List.append_nil]
  generalize calmO (Ses.mk s0 s1 s2 s3 s4 s5) = t at *
  generalize calmN (Ses.mk s0 s1 s2 s3 s4 s5) = cn at *
  have e6 : ∀ (k : Int) (n : Nat), List.take n (marks markStr1 1 k n) = marks markStr1 1 k n := fun k n => List.take_of_length_le (by rw [marks_length]; exact Nat.le_refl _)
  have e7 : ∀ (k : Int) (n : Nat), List.take n (marks markPacket1 3 k n) = marks markPacket1 3 k n := fun k n => List.take_of_length_le (by rw [marks_length]; exact Nat.le_refl _)
  have e8 : ∀ (k : Int) (n : Nat), List.take n (marks markAck1 2 k n) = marks markAck1 2 k n := fun k n => List.take_of_length_le (by rw [marks_length]; exact Nat.le_refl _)
  simp only [e6, e7, e8, marks_length]
  have hlim : lim = 1000000000000 := rfl
  simp [q, l1, l3, l4, l5, m3]
  rw [hlim]
  omega

theorem law_loops : LoopsOk Try.prog (look [(9, .rd1 szSessionG), (10, .rd1 calmG), (11, .rd1 toSessionG), (12, .rd1 calmG), (13, .rd1 eqSessionG), (14, .own markSessionG), (15, .rd1 heldSessionG)]) (look []) 0 (Try.f3.body.getD .skip) := loopsOk_nil _
end Go.Proofs.Ytjghbihlgfjebaa.Den
