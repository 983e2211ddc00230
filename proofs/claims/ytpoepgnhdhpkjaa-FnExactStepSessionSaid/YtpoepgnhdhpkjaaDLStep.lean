/- What functions of the program do, by the machine: LStep. -/
import Derived.Test.YtpoepgnhdhpkjaaDSzT
import Derived.KernelRfl
import Derived.Test.YtpoepgnhdhpkjaaRows
namespace Go.Proofs.Ytpoepgnhdhpkjaa.Den
open Go.Proofs
set_option maxRecDepth 100000
theorem marks_length {α : Type} (g : Int → α) (st : Int) : ∀ (k : Int) (n : Nat), (marks g st k n).length = n
  | _, 0 => rfl
  | k, n + 1 => by simp [marks, marks_length g st (k + st) n]
theorem stepO_len (s : Ses) (x0 x1 : Int) (x2 : List UInt8) : (stepO s x0 x1 x2).it.length ≤ s.it.length + 1 ∧ (stepO s x0 x1 x2).ha.length ≤ s.ha.length + 1 ∧ (stepO s x0 x1 x2).w.length ≤ s.w.length + 1 ∧ (stepO s x0 x1 x2).a.length ≤ s.a.length + 1 := by
  unfold stepO
  cases stepB s x0 x1 x2 with
  | true => exact next_len s x0 x1 x2
  | false => simp
theorem law_knows : Knows Try.prog (look [(9, .rd1 szSessionG), (43, .rd1 szSesStepG), (44, .rd1 specStepG), (11, .rd1 toSessionG), (45, .rd1 toSesStepG), (46, .rd1 implStepG), (14, .rd1 eqSessionG), (15, .own markSessionG), (41, .rd1 heldSessionG)]) := KnowsL.knows (KnowsL.cons (enters_fn Try.func9 (by kernel_rfl) (by kernel_rfl)) szSession (KnowsL.cons (enters_fn Try.func43 (by kernel_rfl) (by kernel_rfl)) szSesStep (KnowsL.cons (enters_fn Try.func44 (by kernel_rfl) (by kernel_rfl)) specStep (KnowsL.cons (enters_fn Try.func11 (by kernel_rfl) (by kernel_rfl)) toSession (KnowsL.cons (enters_fn Try.func45 (by kernel_rfl) (by kernel_rfl)) toSesStep (KnowsL.cons (enters_fn Try.func46 (by kernel_rfl) (by kernel_rfl)) implStep (KnowsL.cons (enters_fn Try.func14 (by kernel_rfl) (by kernel_rfl)) eqSession (KnowsL.cons (enters_fn Try.func15 (by kernel_rfl) (by kernel_rfl)) markSession (KnowsL.cons (enters_fn Try.func41 (by kernel_rfl) (by kernel_rfl)) heldSession KnowsL.nil)))))))))
theorem law_fun (s0 : Int) (s1 : List (List UInt8)) (s2 : Int) (s3 : List (List UInt8)) (s4 : List (Int × Int × List UInt8 × Unit)) (s5 : List (Int × Int × Unit)) (x0 x1 : Int) (x2 : List UInt8) (h1 : ∀ z ∈ s1, z.length ≤ maxI) (h3 : ∀ z ∈ s3, z.length ≤ maxI) (h4 : ∀ z ∈ s4, z.2.2.1.length ≤ maxI) (hx : x2.length ≤ maxI) : funK Try.prog (look [(9, .rd1 szSessionG), (43, .rd1 szSesStepG), (44, .rd1 specStepG), (11, .rd1 toSessionG), (45, .rd1 toSesStepG), (46, .rd1 implStepG), (14, .rd1 eqSessionG), (15, .own markSessionG), (41, .rd1 heldSessionG)]) (look []) Try.f8 [.agg [.i .i64 s0, .sl .str s1, .i .i64 s2, .sl .str s3, .sl (.pair (.int .i64) (.pair (.int .i64) (.pair .str .unit))) s4, .sl (.pair (.int .i64) (.pair (.int .i64) .unit)) s5], .agg [.i .i64 x0, .i .i64 x1, .s x2]] [] = some (.b true, []) := by
  have e : funK Try.prog (look [(9, .rd1 szSessionG), (43, .rd1 szSesStepG), (44, .rd1 specStepG), (11, .rd1 toSessionG), (45, .rd1 toSesStepG), (46, .rd1 implStepG), (14, .rd1 eqSessionG), (15, .own markSessionG), (41, .rd1 heldSessionG)]) (look []) Try.f8 [.agg [.i .i64 s0, .sl .str s1, .i .i64 s2, .sl .str s3, .sl (.pair (.int .i64) (.pair (.int .i64) (.pair .str .unit))) s4, .sl (.pair (.int .i64) (.pair (.int .i64) .unit)) s5], .agg [.i .i64 x0, .i .i64 x1, .s x2]] [] = ((ifT
  (decide
  ((0 : Int) ≤ (1048576 : Int) ∧
  (1048576 : Int) ≤ lim ∧
  (∀ (z : Cd.str.den), z ∈ s1 → List.length z ≤ maxI) ∧
  (∀ (z : Cd.str.den), z ∈ s3 → List.length z ≤ maxI) ∧
  ∀ (z : ((Cd.int IntKind.i64).pair ((Cd.int IntKind.i64).pair (Cd.str.pair Cd.unit))).den),
  z ∈ s4 → List.length z.snd.snd.fst ≤ maxI))
  (ifB
  (decide
  ((1048576 : Int) - (↑s1.length : Int) - szStrsW s1 - (↑s3.length : Int) - szStrsW s3 - (↑s4.length : Int) -
  szPacketsW s4 -
  (↑s5.length : Int) <
  (0 : Int)))
  (some (V.b true, []))
  (ifB
  (decide
  ((1048576 : Int) - (↑s1.length : Int) - szStrsW s1 - (↑s3.length : Int) - szStrsW s3 - (↑s4.length : Int) -
  szPacketsW s4 -
  (↑s5.length : Int) <
  (0 : Int)))
  (some (V.b true, []))
  (ifT
  (decide
  ((0 : Int) ≤
  (1048576 : Int) - (↑s1.length : Int) - szStrsW s1 - (↑s3.length : Int) - szStrsW s3 - (↑s4.length : Int) -
  szPacketsW s4 -
  (↑s5.length : Int) ∧
  (1048576 : Int) - (↑s1.length : Int) - szStrsW s1 - (↑s3.length : Int) - szStrsW s3 - (↑s4.length : Int) -
  szPacketsW s4 -
  (↑s5.length : Int) ≤
  lim ∧
  x2.length ≤ maxI))
  (ifB
  (decide
  ((1048576 : Int) - (↑s1.length : Int) - szStrsW s1 - (↑s3.length : Int) - szStrsW s3 - (↑s4.length : Int) -
  szPacketsW s4 -
  (↑s5.length : Int) -
  (↑x2.length : Int) <
  (0 : Int)))
  (some (V.b true, []))
  (ifB
  (decide
  ((1048576 : Int) - (↑s1.length : Int) - szStrsW s1 - (↑s3.length : Int) - szStrsW s3 -
  (↑s4.length : Int) -
  szPacketsW s4 -
  (↑s5.length : Int) -
  (↑x2.length : Int) <
  (0 : Int)))
  (some (V.b true, []))
  (ifT
  (decide
  (s1.length ≤ (1000000000 : Nat) ∧
  s3.length ≤ (1000000000 : Nat) ∧ s4.length ≤ (1000000000 : Nat) ∧ s5.length ≤ (1000000000 : Nat)))
  (ifT (decide ((↑(List.take s3.length (List.drop (0 : Nat) s3)).length : Int) ≤ lim))
  (ifT
  (decide
  (s1.length ≤ (1000000000 : Nat) ∧
  s3.length ≤ (1000000000 : Nat) ∧ s4.length ≤ (1000000000 : Nat) ∧ s5.length ≤ (1000000000 : Nat)))
  (ifT (decide ((↑(List.take s3.length (List.drop (0 : Nat) s3)).length : Int) ≤ lim))
  (ifB
  (!decide
  ((stepO
  (Ses.mk s0 (List.take s1.length (List.drop (0 : Nat) s1)) s2
  (List.take s3.length (List.drop (0 : Nat) s3))
  (List.take s4.length (List.drop (0 : Nat) s4))
  (List.take s5.length (List.drop (0 : Nat) s5)))
  x0 x1 x2).e =
  (stepO
  (Ses.mk s0 (List.take s1.length (List.drop (0 : Nat) s1)) s2
  (List.take s3.length (List.drop (0 : Nat) s3))
  (List.take s4.length (List.drop (0 : Nat) s4))
  (List.take s5.length (List.drop (0 : Nat) s5)))
  x0 x1 x2).e ∧
  List.take
  (stepO
  (Ses.mk s0 (List.take s1.length (List.drop (0 : Nat) s1)) s2
  (List.take s3.length (List.drop (0 : Nat) s3))
  (List.take s4.length (List.drop (0 : Nat) s4))
  (List.take s5.length (List.drop (0 : Nat) s5)))
  x0 x1 x2).it.length
  (List.drop (0 : Nat)
  (stepO
  (Ses.mk s0 (List.take s1.length (List.drop (0 : Nat) s1)) s2
  (List.take s3.length (List.drop (0 : Nat) s3))
  (List.take s4.length (List.drop (0 : Nat) s4))
  (List.take s5.length (List.drop (0 : Nat) s5)))
  x0 x1 x2).it) =
  List.take
  (stepO
  (Ses.mk s0 (List.take s1.length (List.drop (0 : Nat) s1)) s2
  (List.take s3.length (List.drop (0 : Nat) s3))
  (List.take s4.length (List.drop (0 : Nat) s4))
  (List.take s5.length (List.drop (0 : Nat) s5)))
  x0 x1 x2).it.length
  (List.drop (0 : Nat)
  (stepO
  (Ses.mk s0 (List.take s1.length (List.drop (0 : Nat) s1)) s2
  (List.take s3.length (List.drop (0 : Nat) s3))
  (List.take s4.length (List.drop (0 : Nat) s4))
  (List.take s5.length (List.drop (0 : Nat) s5)))
  x0 x1 x2).it) ∧
  (stepO
  (Ses.mk s0 (List.take s1.length (List.drop (0 : Nat) s1)) s2
  (List.take s3.length (List.drop (0 : Nat) s3))
  (List.take s4.length (List.drop (0 : Nat) s4))
  (List.take s5.length (List.drop (0 : Nat) s5)))
  x0 x1 x2).b =
  (stepO
  (Ses.mk s0 (List.take s1.length (List.drop (0 : Nat) s1)) s2
  (List.take s3.length (List.drop (0 : Nat) s3))
  (List.take s4.length (List.drop (0 : Nat) s4))
  (List.take s5.length (List.drop (0 : Nat) s5)))
  x0 x1 x2).b ∧
  List.take
  (stepO
  (Ses.mk s0 (List.take s1.length (List.drop (0 : Nat) s1)) s2
  (List.take s3.length (List.drop (0 : Nat) s3))
  (List.take s4.length (List.drop (0 : Nat) s4))
  (List.take s5.length (List.drop (0 : Nat) s5)))
  x0 x1 x2).ha.length
  (List.drop (0 : Nat)
  (stepO
  (Ses.mk s0 (List.take s1.length (List.drop (0 : Nat) s1)) s2
  (List.take s3.length (List.drop (0 : Nat) s3))
  (List.take s4.length (List.drop (0 : Nat) s4))
  (List.take s5.length (List.drop (0 : Nat) s5)))
  x0 x1 x2).ha) =
  List.take
  (stepO
  (Ses.mk s0 (List.take s1.length (List.drop (0 : Nat) s1)) s2
  (List.take s3.length (List.drop (0 : Nat) s3))
  (List.take s4.length (List.drop (0 : Nat) s4))
  (List.take s5.length (List.drop (0 : Nat) s5)))
  x0 x1 x2).ha.length
  (List.drop (0 : Nat)
  (stepO
  (Ses.mk s0 (List.take s1.length (List.drop (0 : Nat) s1)) s2
  (List.take s3.length (List.drop (0 : Nat) s3))
  (List.take s4.length (List.drop (0 : Nat) s4))
  (List.take s5.length (List.drop (0 : Nat) s5)))
  x0 x1 x2).ha) ∧
  List.take
  (stepO
  (Ses.mk s0 (List.take s1.length (List.drop (0 : Nat) s1)) s2
  (List.take s3.length (List.drop (0 : Nat) s3))
  (List.take s4.length (List.drop (0 : Nat) s4))
  (List.take s5.length (List.drop (0 : Nat) s5)))
  x0 x1 x2).w.length
  (List.drop (0 : Nat)
  (stepO
  (Ses.mk s0 (List.take s1.length (List.drop (0 : Nat) s1)) s2
  (List.take s3.length (List.drop (0 : Nat) s3))
  (List.take s4.length (List.drop (0 : Nat) s4))
  (List.take s5.length (List.drop (0 : Nat) s5)))
  x0 x1 x2).w) =
  List.take
  (stepO
  (Ses.mk s0 (List.take s1.length (List.drop (0 : Nat) s1)) s2
  (List.take s3.length (List.drop (0 : Nat) s3))
  (List.take s4.length (List.drop (0 : Nat) s4))
  (List.take s5.length (List.drop (0 : Nat) s5)))
  x0 x1 x2).w.length
  (List.drop (0 : Nat)
  (stepO
  (Ses.mk s0 (List.take s1.length (List.drop (0 : Nat) s1)) s2
  (List.take s3.length (List.drop (0 : Nat) s3))
  (List.take s4.length (List.drop (0 : Nat) s4))
  (List.take s5.length (List.drop (0 : Nat) s5)))
  x0 x1 x2).w) ∧
  List.take
  (stepO
  (Ses.mk s0 (List.take s1.length (List.drop (0 : Nat) s1)) s2
  (List.take s3.length (List.drop (0 : Nat) s3))
  (List.take s4.length (List.drop (0 : Nat) s4))
  (List.take s5.length (List.drop (0 : Nat) s5)))
  x0 x1 x2).a.length
  (List.drop (0 : Nat)
  (stepO
  (Ses.mk s0 (List.take s1.length (List.drop (0 : Nat) s1)) s2
  (List.take s3.length (List.drop (0 : Nat) s3))
  (List.take s4.length (List.drop (0 : Nat) s4))
  (List.take s5.length (List.drop (0 : Nat) s5)))
  x0 x1 x2).a) =
  List.take
  (stepO
  (Ses.mk s0 (List.take s1.length (List.drop (0 : Nat) s1)) s2
  (List.take s3.length (List.drop (0 : Nat) s3))
  (List.take s4.length (List.drop (0 : Nat) s4))
  (List.take s5.length (List.drop (0 : Nat) s5)))
  x0 x1 x2).a.length
  (List.drop (0 : Nat)
  (stepO
  (Ses.mk s0 (List.take s1.length (List.drop (0 : Nat) s1)) s2
  (List.take s3.length (List.drop (0 : Nat) s3))
  (List.take s4.length (List.drop (0 : Nat) s4))
  (List.take s5.length (List.drop (0 : Nat) s5)))
  x0 x1 x2).a)))
  (some (V.b false, []))
  (ifB
  (!stepB
  (Ses.mk s0 (List.take s1.length (List.drop (0 : Nat) s1)) s2
  (List.take s3.length (List.drop (0 : Nat) s3))
  (List.take s4.length (List.drop (0 : Nat) s4))
  (List.take s5.length (List.drop (0 : Nat) s5)))
  x0 x1 x2 ==
  stepB
  (Ses.mk s0 (List.take s1.length (List.drop (0 : Nat) s1)) s2
  (List.take s3.length (List.drop (0 : Nat) s3))
  (List.take s4.length (List.drop (0 : Nat) s4))
  (List.take s5.length (List.drop (0 : Nat) s5)))
  x0 x1 x2)
  (some (V.b false, []))
  (ifT
  (decide
  (s1.length ≤ (1000000000 : Nat) ∧
  s3.length ≤ (1000000000 : Nat) ∧
  s4.length ≤ (1000000000 : Nat) ∧ s5.length ≤ (1000000000 : Nat)))
  (ifB
  (!decide
  (s0 = s0 ∧
  List.take s1.length (List.drop (0 : Nat) s1) =
  List.take s1.length (List.drop (0 : Nat) s1) ∧
  s2 = s2 ∧
  List.take s3.length (List.drop (0 : Nat) s3) =
  List.take s3.length (List.drop (0 : Nat) s3) ∧
  List.take s4.length (List.drop (0 : Nat) s4) =
  List.take s4.length (List.drop (0 : Nat) s4) ∧
  List.take s5.length (List.drop (0 : Nat) s5) =
  List.take s5.length (List.drop (0 : Nat) s5)))
  (some (V.b false, []))
  (ifT
  (decide
  ((0 : Nat) + s1.length ≤ s1.length ∧
  (0 : Nat) + s3.length ≤ s3.length ∧
  (0 : Nat) + s4.length ≤ s4.length ∧
  (0 : Nat) + s5.length ≤ s5.length ∧
  (0 : Int) ≤ (1 : Int) ∧
  (1 : Int) + (1 : Int) * (↑s1.length : Int) + (1 : Int) * (↑s3.length : Int) +
  (3 : Int) * (↑s4.length : Int) +
  (2 : Int) * (↑s5.length : Int) ≤
  lim))
  (ifB
  (!decide
  ((stepO
  (Ses.mk s0 (List.take s1.length (List.drop (0 : Nat) s1)) s2
  (List.take s3.length (List.drop (0 : Nat) s3))
  (List.take s4.length (List.drop (0 : Nat) s4))
  (List.take s5.length (List.drop (0 : Nat) s5)))
  x0 x1 x2).e =
  (stepO
  (Ses.mk s0 (List.take s1.length (List.drop (0 : Nat) s1)) s2
  (List.take s3.length (List.drop (0 : Nat) s3))
  (List.take s4.length (List.drop (0 : Nat) s4))
  (List.take s5.length (List.drop (0 : Nat) s5)))
  x0 x1 x2).e ∧
  List.take
  (stepO
  (Ses.mk s0 (List.take s1.length (List.drop (0 : Nat) s1)) s2
  (List.take s3.length (List.drop (0 : Nat) s3))
  (List.take s4.length (List.drop (0 : Nat) s4))
  (List.take s5.length (List.drop (0 : Nat) s5)))
  x0 x1 x2).it.length
  (List.drop (0 : Nat)
  (stepO
  (Ses.mk s0 (List.take s1.length (List.drop (0 : Nat) s1)) s2
  (List.take s3.length (List.drop (0 : Nat) s3))
  (List.take s4.length (List.drop (0 : Nat) s4))
  (List.take s5.length (List.drop (0 : Nat) s5)))
  x0 x1 x2).it) =
  List.take
  (stepO
  (Ses.mk s0 (List.take s1.length (List.drop (0 : Nat) s1)) s2
  (List.take s3.length (List.drop (0 : Nat) s3))
  (List.take s4.length (List.drop (0 : Nat) s4))
  (List.take s5.length (List.drop (0 : Nat) s5)))
  x0 x1 x2).it.length
  (List.drop (0 : Nat)
  (stepO
  (Ses.mk s0 (List.take s1.length (List.drop (0 : Nat) s1)) s2
  (List.take s3.length (List.drop (0 : Nat) s3))
  (List.take s4.length (List.drop (0 : Nat) s4))
  (List.take s5.length (List.drop (0 : Nat) s5)))
  x0 x1 x2).it) ∧
  (stepO
  (Ses.mk s0 (List.take s1.length (List.drop (0 : Nat) s1)) s2
  (List.take s3.length (List.drop (0 : Nat) s3))
  (List.take s4.length (List.drop (0 : Nat) s4))
  (List.take s5.length (List.drop (0 : Nat) s5)))
  x0 x1 x2).b =
  (stepO
  (Ses.mk s0 (List.take s1.length (List.drop (0 : Nat) s1)) s2
  (List.take s3.length (List.drop (0 : Nat) s3))
  (List.take s4.length (List.drop (0 : Nat) s4))
  (List.take s5.length (List.drop (0 : Nat) s5)))
  x0 x1 x2).b ∧
  List.take
  (stepO
  (Ses.mk s0 (List.take s1.length (List.drop (0 : Nat) s1)) s2
  (List.take s3.length (List.drop (0 : Nat) s3))
  (List.take s4.length (List.drop (0 : Nat) s4))
  (List.take s5.length (List.drop (0 : Nat) s5)))
  x0 x1 x2).ha.length
  (List.drop (0 : Nat)
  (stepO
  (Ses.mk s0 (List.take s1.length (List.drop (0 : Nat) s1)) s2
  (List.take s3.length (List.drop (0 : Nat) s3))
  (List.take s4.length (List.drop (0 : Nat) s4))
  (List.take s5.length (List.drop (0 : Nat) s5)))
  x0 x1 x2).ha) =
  List.take
  (stepO
  (Ses.mk s0 (List.take s1.length (List.drop (0 : Nat) s1)) s2
  (List.take s3.length (List.drop (0 : Nat) s3))
  (List.take s4.length (List.drop (0 : Nat) s4))
  (List.take s5.length (List.drop (0 : Nat) s5)))
  x0 x1 x2).ha.length
  (List.drop (0 : Nat)
  (stepO
  (Ses.mk s0 (List.take s1.length (List.drop (0 : Nat) s1)) s2
  (List.take s3.length (List.drop (0 : Nat) s3))
  (List.take s4.length (List.drop (0 : Nat) s4))
  (List.take s5.length (List.drop (0 : Nat) s5)))
  x0 x1 x2).ha) ∧
  List.take
  (stepO
  (Ses.mk s0 (List.take s1.length (List.drop (0 : Nat) s1)) s2
  (List.take s3.length (List.drop (0 : Nat) s3))
  (List.take s4.length (List.drop (0 : Nat) s4))
  (List.take s5.length (List.drop (0 : Nat) s5)))
  x0 x1 x2).w.length
  (List.drop (0 : Nat)
  (stepO
  (Ses.mk s0 (List.take s1.length (List.drop (0 : Nat) s1)) s2
  (List.take s3.length (List.drop (0 : Nat) s3))
  (List.take s4.length (List.drop (0 : Nat) s4))
  (List.take s5.length (List.drop (0 : Nat) s5)))
  x0 x1 x2).w) =
  List.take
  (stepO
  (Ses.mk s0 (List.take s1.length (List.drop (0 : Nat) s1)) s2
  (List.take s3.length (List.drop (0 : Nat) s3))
  (List.take s4.length (List.drop (0 : Nat) s4))
  (List.take s5.length (List.drop (0 : Nat) s5)))
  x0 x1 x2).w.length
  (List.drop (0 : Nat)
  (stepO
  (Ses.mk s0 (List.take s1.length (List.drop (0 : Nat) s1)) s2
  (List.take s3.length (List.drop (0 : Nat) s3))
  (List.take s4.length (List.drop (0 : Nat) s4))
  (List.take s5.length (List.drop (0 : Nat) s5)))
  x0 x1 x2).w) ∧
  List.take
  (stepO
  (Ses.mk s0 (List.take s1.length (List.drop (0 : Nat) s1)) s2
  (List.take s3.length (List.drop (0 : Nat) s3))
  (List.take s4.length (List.drop (0 : Nat) s4))
  (List.take s5.length (List.drop (0 : Nat) s5)))
  x0 x1 x2).a.length
  (List.drop (0 : Nat)
  (stepO
  (Ses.mk s0 (List.take s1.length (List.drop (0 : Nat) s1)) s2
  (List.take s3.length (List.drop (0 : Nat) s3))
  (List.take s4.length (List.drop (0 : Nat) s4))
  (List.take s5.length (List.drop (0 : Nat) s5)))
  x0 x1 x2).a) =
  List.take
  (stepO
  (Ses.mk s0 (List.take s1.length (List.drop (0 : Nat) s1)) s2
  (List.take s3.length (List.drop (0 : Nat) s3))
  (List.take s4.length (List.drop (0 : Nat) s4))
  (List.take s5.length (List.drop (0 : Nat) s5)))
  x0 x1 x2).a.length
  (List.drop (0 : Nat)
  (stepO
  (Ses.mk s0 (List.take s1.length (List.drop (0 : Nat) s1)) s2
  (List.take s3.length (List.drop (0 : Nat) s3))
  (List.take s4.length (List.drop (0 : Nat) s4))
  (List.take s5.length (List.drop (0 : Nat) s5)))
  x0 x1 x2).a)))
  (some (V.b false, []))
  (ifB
  (!stepB
  (Ses.mk s0 (List.take s1.length (List.drop (0 : Nat) s1)) s2
  (List.take s3.length (List.drop (0 : Nat) s3))
  (List.take s4.length (List.drop (0 : Nat) s4))
  (List.take s5.length (List.drop (0 : Nat) s5)))
  x0 x1 x2 ==
  stepB
  (Ses.mk s0 (List.take s1.length (List.drop (0 : Nat) s1)) s2
  (List.take s3.length (List.drop (0 : Nat) s3))
  (List.take s4.length (List.drop (0 : Nat) s4))
  (List.take s5.length (List.drop (0 : Nat) s5)))
  x0 x1 x2)
  (some (V.b false, []))
  (ifT
  (decide
  ((0 : Nat) +
  (stepO
  (Ses.mk s0 (List.take s1.length (List.drop (0 : Nat) s1)) s2
  (List.take s3.length (List.drop (0 : Nat) s3))
  (List.take s4.length (List.drop (0 : Nat) s4))
  (List.take s5.length (List.drop (0 : Nat) s5)))
  x0 x1 x2).it.length ≤
  (stepO
  (Ses.mk s0 (List.take s1.length (List.drop (0 : Nat) s1)) s2
  (List.take s3.length (List.drop (0 : Nat) s3))
  (List.take s4.length (List.drop (0 : Nat) s4))
  (List.take s5.length (List.drop (0 : Nat) s5)))
  x0 x1 x2).it.length ∧
  (0 : Nat) +
  (stepO
  (Ses.mk s0 (List.take s1.length (List.drop (0 : Nat) s1)) s2
  (List.take s3.length (List.drop (0 : Nat) s3))
  (List.take s4.length (List.drop (0 : Nat) s4))
  (List.take s5.length (List.drop (0 : Nat) s5)))
  x0 x1 x2).ha.length ≤
  (stepO
  (Ses.mk s0 (List.take s1.length (List.drop (0 : Nat) s1)) s2
  (List.take s3.length (List.drop (0 : Nat) s3))
  (List.take s4.length (List.drop (0 : Nat) s4))
  (List.take s5.length (List.drop (0 : Nat) s5)))
  x0 x1 x2).ha.length ∧
  (0 : Nat) +
  (stepO
  (Ses.mk s0 (List.take s1.length (List.drop (0 : Nat) s1)) s2
  (List.take s3.length (List.drop (0 : Nat) s3))
  (List.take s4.length (List.drop (0 : Nat) s4))
  (List.take s5.length (List.drop (0 : Nat) s5)))
  x0 x1 x2).w.length ≤
  (stepO
  (Ses.mk s0 (List.take s1.length (List.drop (0 : Nat) s1)) s2
  (List.take s3.length (List.drop (0 : Nat) s3))
  (List.take s4.length (List.drop (0 : Nat) s4))
  (List.take s5.length (List.drop (0 : Nat) s5)))
  x0 x1 x2).w.length ∧
  (0 : Nat) +
  (stepO
  (Ses.mk s0 (List.take s1.length (List.drop (0 : Nat) s1)) s2
  (List.take s3.length (List.drop (0 : Nat) s3))
  (List.take s4.length (List.drop (0 : Nat) s4))
  (List.take s5.length (List.drop (0 : Nat) s5)))
  x0 x1 x2).a.length ≤
  (stepO
  (Ses.mk s0 (List.take s1.length (List.drop (0 : Nat) s1)) s2
  (List.take s3.length (List.drop (0 : Nat) s3))
  (List.take s4.length (List.drop (0 : Nat) s4))
  (List.take s5.length (List.drop (0 : Nat) s5)))
  x0 x1 x2).a.length ∧
  (0 : Int) ≤ (1 : Int) ∧
  (1 : Int) +
  (1 : Int) *
  (↑(stepO
  (Ses.mk s0
  (List.take s1.length (List.drop (0 : Nat) s1))
  s2
  (List.take s3.length (List.drop (0 : Nat) s3))
  (List.take s4.length (List.drop (0 : Nat) s4))
  (List.take s5.length (List.drop (0 : Nat) s5)))
  x0 x1 x2).it.length :
  Int) +
  (1 : Int) *
  (↑(stepO
  (Ses.mk s0
  (List.take s1.length (List.drop (0 : Nat) s1)) s2
  (List.take s3.length (List.drop (0 : Nat) s3))
  (List.take s4.length (List.drop (0 : Nat) s4))
  (List.take s5.length (List.drop (0 : Nat) s5)))
  x0 x1 x2).ha.length :
  Int) +
  (3 : Int) *
  (↑(stepO
  (Ses.mk s0
  (List.take s1.length (List.drop (0 : Nat) s1)) s2
  (List.take s3.length (List.drop (0 : Nat) s3))
  (List.take s4.length (List.drop (0 : Nat) s4))
  (List.take s5.length (List.drop (0 : Nat) s5)))
  x0 x1 x2).w.length :
  Int) +
  (2 : Int) *
  (↑(stepO
  (Ses.mk s0
  (List.take s1.length (List.drop (0 : Nat) s1)) s2
  (List.take s3.length (List.drop (0 : Nat) s3))
  (List.take s4.length (List.drop (0 : Nat) s4))
  (List.take s5.length (List.drop (0 : Nat) s5)))
  x0 x1 x2).a.length :
  Int) ≤
  lim))
  (ifT
  (decide
  ((0 : Int) ≤ (1 : Int) ∧
  (1 : Int) +
  (1 : Int) *
  (↑(List.take
  (stepO
  (Ses.mk s0
  (List.take s1.length (List.drop (0 : Nat) s1)) s2
  (List.take s3.length (List.drop (0 : Nat) s3))
  (List.take s4.length (List.drop (0 : Nat) s4))
  (List.take s5.length (List.drop (0 : Nat) s5)))
  x0 x1 x2).it.length
  (List.drop (0 : Nat)
  (nilT Cd.str.den ++
  marks markStr1 (1 : Int) (1 : Int)
  (stepO
  (Ses.mk s0
  (List.take s1.length
  (List.drop (0 : Nat) s1))
  s2
  (List.take s3.length
  (List.drop (0 : Nat) s3))
  (List.take s4.length
  (List.drop (0 : Nat) s4))
  (List.take s5.length
  (List.drop (0 : Nat) s5)))
  x0 x1 x2).it.length ++
  List.drop
  ((0 : Nat) +
  (stepO
  (Ses.mk s0
  (List.take s1.length
  (List.drop (0 : Nat) s1))
  s2
  (List.take s3.length
  (List.drop (0 : Nat) s3))
  (List.take s4.length
  (List.drop (0 : Nat) s4))
  (List.take s5.length
  (List.drop (0 : Nat) s5)))
  x0 x1 x2).it.length)
  (stepO
  (Ses.mk s0
  (List.take s1.length (List.drop (0 : Nat) s1))
  s2
  (List.take s3.length (List.drop (0 : Nat) s3))
  (List.take s4.length (List.drop (0 : Nat) s4))
  (List.take s5.length
  (List.drop (0 : Nat) s5)))
  x0 x1 x2).it))).length :
  Int) +
  (1 : Int) *
  (↑(List.take
  (stepO
  (Ses.mk s0
  (List.take s1.length (List.drop (0 : Nat) s1)) s2
  (List.take s3.length (List.drop (0 : Nat) s3))
  (List.take s4.length (List.drop (0 : Nat) s4))
  (List.take s5.length (List.drop (0 : Nat) s5)))
  x0 x1 x2).ha.length
  (List.drop (0 : Nat)
  (nilT Cd.str.den ++
  marks markStr1 (1 : Int)
  ((1 : Int) +
  (1 : Int) *
  (↑(stepO
  (Ses.mk s0
  (List.take s1.length
  (List.drop (0 : Nat) s1))
  s2
  (List.take s3.length
  (List.drop (0 : Nat) s3))
  (List.take s4.length
  (List.drop (0 : Nat) s4))
  (List.take s5.length
  (List.drop (0 : Nat) s5)))
  x0 x1 x2).it.length :
  Int))
  (stepO
  (Ses.mk s0
  (List.take s1.length
  (List.drop (0 : Nat) s1))
  s2
  (List.take s3.length
  (List.drop (0 : Nat) s3))
  (List.take s4.length
  (List.drop (0 : Nat) s4))
  (List.take s5.length
  (List.drop (0 : Nat) s5)))
  x0 x1 x2).ha.length ++
  List.drop
  ((0 : Nat) +
  (stepO
  (Ses.mk s0
  (List.take s1.length
  (List.drop (0 : Nat) s1))
  s2
  (List.take s3.length
  (List.drop (0 : Nat) s3))
  (List.take s4.length
  (List.drop (0 : Nat) s4))
  (List.take s5.length
  (List.drop (0 : Nat) s5)))
  x0 x1 x2).ha.length)
  (stepO
  (Ses.mk s0
  (List.take s1.length (List.drop (0 : Nat) s1))
  s2
  (List.take s3.length (List.drop (0 : Nat) s3))
  (List.take s4.length (List.drop (0 : Nat) s4))
  (List.take s5.length (List.drop (0 : Nat) s5)))
  x0 x1 x2).ha))).length :
  Int) +
  (3 : Int) *
  (↑(List.take
  (stepO
  (Ses.mk s0
  (List.take s1.length (List.drop (0 : Nat) s1)) s2
  (List.take s3.length (List.drop (0 : Nat) s3))
  (List.take s4.length (List.drop (0 : Nat) s4))
  (List.take s5.length (List.drop (0 : Nat) s5)))
  x0 x1 x2).w.length
  (List.drop (0 : Nat)
  (nilT
  ((Cd.int IntKind.i64).pair
  ((Cd.int IntKind.i64).pair
  (Cd.str.pair Cd.unit))).den ++
  marks markPacket1 (3 : Int)
  ((1 : Int) +
  (1 : Int) *
  (↑(stepO
  (Ses.mk s0
  (List.take s1.length
  (List.drop (0 : Nat) s1))
  s2
  (List.take s3.length
  (List.drop (0 : Nat) s3))
  (List.take s4.length
  (List.drop (0 : Nat) s4))
  (List.take s5.length
  (List.drop (0 : Nat) s5)))
  x0 x1 x2).it.length :
  Int) +
  (1 : Int) *
  (↑(stepO
  (Ses.mk s0
  (List.take s1.length
  (List.drop (0 : Nat) s1))
  s2
  (List.take s3.length
  (List.drop (0 : Nat) s3))
  (List.take s4.length
  (List.drop (0 : Nat) s4))
  (List.take s5.length
  (List.drop (0 : Nat) s5)))
  x0 x1 x2).ha.length :
  Int))
  (stepO
  (Ses.mk s0
  (List.take s1.length (List.drop (0 : Nat) s1))
  s2
  (List.take s3.length (List.drop (0 : Nat) s3))
  (List.take s4.length (List.drop (0 : Nat) s4))
  (List.take s5.length
  (List.drop (0 : Nat) s5)))
  x0 x1 x2).w.length ++
  List.drop
  ((0 : Nat) +
  (stepO
  (Ses.mk s0
  (List.take s1.length (List.drop (0 : Nat) s1))
  s2
  (List.take s3.length (List.drop (0 : Nat) s3))
  (List.take s4.length (List.drop (0 : Nat) s4))
  (List.take s5.length
  (List.drop (0 : Nat) s5)))
  x0 x1 x2).w.length)
  (stepO
  (Ses.mk s0
  (List.take s1.length (List.drop (0 : Nat) s1)) s2
  (List.take s3.length (List.drop (0 : Nat) s3))
  (List.take s4.length (List.drop (0 : Nat) s4))
  (List.take s5.length (List.drop (0 : Nat) s5)))
  x0 x1 x2).w))).length :
  Int) +
  (2 : Int) *
  (↑(List.take
  (stepO
  (Ses.mk s0 (List.take s1.length (List.drop (0 : Nat) s1))
  s2 (List.take s3.length (List.drop (0 : Nat) s3))
  (List.take s4.length (List.drop (0 : Nat) s4))
  (List.take s5.length (List.drop (0 : Nat) s5)))
  x0 x1 x2).a.length
  (List.drop (0 : Nat)
  (nilT
  ((Cd.int IntKind.i64).pair
  ((Cd.int IntKind.i64).pair Cd.unit)).den ++
  marks markAck1 (2 : Int)
  ((1 : Int) +
  (1 : Int) *
  (↑(stepO
  (Ses.mk s0
  (List.take s1.length
  (List.drop (0 : Nat) s1))
  s2
  (List.take s3.length
  (List.drop (0 : Nat) s3))
  (List.take s4.length
  (List.drop (0 : Nat) s4))
  (List.take s5.length
  (List.drop (0 : Nat) s5)))
  x0 x1 x2).it.length :
  Int) +
  (1 : Int) *
  (↑(stepO
  (Ses.mk s0
  (List.take s1.length
  (List.drop (0 : Nat) s1))
  s2
  (List.take s3.length
  (List.drop (0 : Nat) s3))
  (List.take s4.length
  (List.drop (0 : Nat) s4))
  (List.take s5.length
  (List.drop (0 : Nat) s5)))
  x0 x1 x2).ha.length :
  Int) +
  (3 : Int) *
  (↑(stepO
  (Ses.mk s0
  (List.take s1.length
  (List.drop (0 : Nat) s1))
  s2
  (List.take s3.length
  (List.drop (0 : Nat) s3))
  (List.take s4.length
  (List.drop (0 : Nat) s4))
  (List.take s5.length
  (List.drop (0 : Nat) s5)))
  x0 x1 x2).w.length :
  Int))
  (stepO
  (Ses.mk s0
  (List.take s1.length (List.drop (0 : Nat) s1))
  s2
  (List.take s3.length (List.drop (0 : Nat) s3))
  (List.take s4.length (List.drop (0 : Nat) s4))
  (List.take s5.length (List.drop (0 : Nat) s5)))
  x0 x1 x2).a.length ++
  List.drop
  ((0 : Nat) +
  (stepO
  (Ses.mk s0
  (List.take s1.length (List.drop (0 : Nat) s1))
  s2
  (List.take s3.length (List.drop (0 : Nat) s3))
  (List.take s4.length (List.drop (0 : Nat) s4))
  (List.take s5.length (List.drop (0 : Nat) s5)))
  x0 x1 x2).a.length)
  (stepO
  (Ses.mk s0
  (List.take s1.length (List.drop (0 : Nat) s1)) s2
  (List.take s3.length (List.drop (0 : Nat) s3))
  (List.take s4.length (List.drop (0 : Nat) s4))
  (List.take s5.length (List.drop (0 : Nat) s5)))
  x0 x1 x2).a))).length :
  Int) ≤
  lim))
  (ifB
  (decide
  (List.take
  (stepO
  (Ses.mk s0 (List.take s1.length (List.drop (0 : Nat) s1)) s2
  (List.take s3.length (List.drop (0 : Nat) s3))
  (List.take s4.length (List.drop (0 : Nat) s4))
  (List.take s5.length (List.drop (0 : Nat) s5)))
  x0 x1 x2).it.length
  (List.drop (0 : Nat)
  (nilT Cd.str.den ++
  marks markStr1 (1 : Int) (1 : Int)
  (stepO
  (Ses.mk s0 (List.take s1.length (List.drop (0 : Nat) s1))
  s2 (List.take s3.length (List.drop (0 : Nat) s3))
  (List.take s4.length (List.drop (0 : Nat) s4))
  (List.take s5.length (List.drop (0 : Nat) s5)))
  x0 x1 x2).it.length ++
  List.drop
  ((0 : Nat) +
  (stepO
  (Ses.mk s0 (List.take s1.length (List.drop (0 : Nat) s1))
  s2 (List.take s3.length (List.drop (0 : Nat) s3))
  (List.take s4.length (List.drop (0 : Nat) s4))
  (List.take s5.length (List.drop (0 : Nat) s5)))
  x0 x1 x2).it.length)
  (stepO
  (Ses.mk s0 (List.take s1.length (List.drop (0 : Nat) s1)) s2
  (List.take s3.length (List.drop (0 : Nat) s3))
  (List.take s4.length (List.drop (0 : Nat) s4))
  (List.take s5.length (List.drop (0 : Nat) s5)))
  x0 x1 x2).it)) =
  marks markStr1 (1 : Int) (1 : Int)
  (List.take
  (stepO
  (Ses.mk s0 (List.take s1.length (List.drop (0 : Nat) s1)) s2
  (List.take s3.length (List.drop (0 : Nat) s3))
  (List.take s4.length (List.drop (0 : Nat) s4))
  (List.take s5.length (List.drop (0 : Nat) s5)))
  x0 x1 x2).it.length
  (List.drop (0 : Nat)
  (nilT Cd.str.den ++
  marks markStr1 (1 : Int) (1 : Int)
  (stepO
  (Ses.mk s0
  (List.take s1.length (List.drop (0 : Nat) s1)) s2
  (List.take s3.length (List.drop (0 : Nat) s3))
  (List.take s4.length (List.drop (0 : Nat) s4))
  (List.take s5.length (List.drop (0 : Nat) s5)))
  x0 x1 x2).it.length ++
  List.drop
  ((0 : Nat) +
  (stepO
  (Ses.mk s0
  (List.take s1.length (List.drop (0 : Nat) s1)) s2
  (List.take s3.length (List.drop (0 : Nat) s3))
  (List.take s4.length (List.drop (0 : Nat) s4))
  (List.take s5.length (List.drop (0 : Nat) s5)))
  x0 x1 x2).it.length)
  (stepO
  (Ses.mk s0 (List.take s1.length (List.drop (0 : Nat) s1))
  s2 (List.take s3.length (List.drop (0 : Nat) s3))
  (List.take s4.length (List.drop (0 : Nat) s4))
  (List.take s5.length (List.drop (0 : Nat) s5)))
  x0 x1 x2).it))).length ∧
  List.take
  (stepO
  (Ses.mk s0 (List.take s1.length (List.drop (0 : Nat) s1)) s2
  (List.take s3.length (List.drop (0 : Nat) s3))
  (List.take s4.length (List.drop (0 : Nat) s4))
  (List.take s5.length (List.drop (0 : Nat) s5)))
  x0 x1 x2).ha.length
  (List.drop (0 : Nat)
  (nilT Cd.str.den ++
  marks markStr1 (1 : Int)
  ((1 : Int) +
  (1 : Int) *
  (↑(stepO
  (Ses.mk s0
  (List.take s1.length (List.drop (0 : Nat) s1))
  s2
  (List.take s3.length (List.drop (0 : Nat) s3))
  (List.take s4.length (List.drop (0 : Nat) s4))
  (List.take s5.length
  (List.drop (0 : Nat) s5)))
  x0 x1 x2).it.length :
  Int))
  (stepO
  (Ses.mk s0
  (List.take s1.length (List.drop (0 : Nat) s1)) s2
  (List.take s3.length (List.drop (0 : Nat) s3))
  (List.take s4.length (List.drop (0 : Nat) s4))
  (List.take s5.length (List.drop (0 : Nat) s5)))
  x0 x1 x2).ha.length ++
  List.drop
  ((0 : Nat) +
  (stepO
  (Ses.mk s0
  (List.take s1.length (List.drop (0 : Nat) s1)) s2
  (List.take s3.length (List.drop (0 : Nat) s3))
  (List.take s4.length (List.drop (0 : Nat) s4))
  (List.take s5.length (List.drop (0 : Nat) s5)))
  x0 x1 x2).ha.length)
  (stepO
  (Ses.mk s0 (List.take s1.length (List.drop (0 : Nat) s1)) s2
  (List.take s3.length (List.drop (0 : Nat) s3))
  (List.take s4.length (List.drop (0 : Nat) s4))
  (List.take s5.length (List.drop (0 : Nat) s5)))
  x0 x1 x2).ha)) =
  marks markStr1 (1 : Int)
  ((1 : Int) +
  (1 : Int) *
  (↑(List.take
  (stepO
  (Ses.mk s0
  (List.take s1.length (List.drop (0 : Nat) s1)) s2
  (List.take s3.length (List.drop (0 : Nat) s3))
  (List.take s4.length (List.drop (0 : Nat) s4))
  (List.take s5.length (List.drop (0 : Nat) s5)))
  x0 x1 x2).it.length
  (List.drop (0 : Nat)
  (nilT Cd.str.den ++
  marks markStr1 (1 : Int) (1 : Int)
  (stepO
  (Ses.mk s0
  (List.take s1.length
  (List.drop (0 : Nat) s1))
  s2
  (List.take s3.length
  (List.drop (0 : Nat) s3))
  (List.take s4.length
  (List.drop (0 : Nat) s4))
  (List.take s5.length
  (List.drop (0 : Nat) s5)))
  x0 x1 x2).it.length ++
  List.drop
  ((0 : Nat) +
  (stepO
  (Ses.mk s0
  (List.take s1.length
  (List.drop (0 : Nat) s1))
  s2
  (List.take s3.length
  (List.drop (0 : Nat) s3))
  (List.take s4.length
  (List.drop (0 : Nat) s4))
  (List.take s5.length
  (List.drop (0 : Nat) s5)))
  x0 x1 x2).it.length)
  (stepO
  (Ses.mk s0
  (List.take s1.length (List.drop (0 : Nat) s1))
  s2
  (List.take s3.length (List.drop (0 : Nat) s3))
  (List.take s4.length (List.drop (0 : Nat) s4))
  (List.take s5.length
  (List.drop (0 : Nat) s5)))
  x0 x1 x2).it))).length :
  Int))
  (List.take
  (stepO
  (Ses.mk s0 (List.take s1.length (List.drop (0 : Nat) s1)) s2
  (List.take s3.length (List.drop (0 : Nat) s3))
  (List.take s4.length (List.drop (0 : Nat) s4))
  (List.take s5.length (List.drop (0 : Nat) s5)))
  x0 x1 x2).ha.length
  (List.drop (0 : Nat)
  (nilT Cd.str.den ++
  marks markStr1 (1 : Int)
  ((1 : Int) +
  (1 : Int) *
  (↑(stepO
  (Ses.mk s0
  (List.take s1.length
  (List.drop (0 : Nat) s1))
  s2
  (List.take s3.length
  (List.drop (0 : Nat) s3))
  (List.take s4.length
  (List.drop (0 : Nat) s4))
  (List.take s5.length
  (List.drop (0 : Nat) s5)))
  x0 x1 x2).it.length :
  Int))
  (stepO
  (Ses.mk s0
  (List.take s1.length (List.drop (0 : Nat) s1)) s2
  (List.take s3.length (List.drop (0 : Nat) s3))
  (List.take s4.length (List.drop (0 : Nat) s4))
  (List.take s5.length (List.drop (0 : Nat) s5)))
  x0 x1 x2).ha.length ++
  List.drop
  ((0 : Nat) +
  (stepO
  (Ses.mk s0
  (List.take s1.length (List.drop (0 : Nat) s1)) s2
  (List.take s3.length (List.drop (0 : Nat) s3))
  (List.take s4.length (List.drop (0 : Nat) s4))
  (List.take s5.length (List.drop (0 : Nat) s5)))
  x0 x1 x2).ha.length)
  (stepO
  (Ses.mk s0
  (List.take s1.length (List.drop (0 : Nat) s1)) s2
  (List.take s3.length (List.drop (0 : Nat) s3))
  (List.take s4.length (List.drop (0 : Nat) s4))
  (List.take s5.length (List.drop (0 : Nat) s5)))
  x0 x1 x2).ha))).length ∧
  List.take
  (stepO
  (Ses.mk s0 (List.take s1.length (List.drop (0 : Nat) s1)) s2
  (List.take s3.length (List.drop (0 : Nat) s3))
  (List.take s4.length (List.drop (0 : Nat) s4))
  (List.take s5.length (List.drop (0 : Nat) s5)))
  x0 x1 x2).w.length
  (List.drop (0 : Nat)
  (nilT
  ((Cd.int IntKind.i64).pair
  ((Cd.int IntKind.i64).pair
  (Cd.str.pair Cd.unit))).den ++
  marks markPacket1 (3 : Int)
  ((1 : Int) +
  (1 : Int) *
  (↑(stepO
  (Ses.mk s0
  (List.take s1.length
  (List.drop (0 : Nat) s1))
  s2
  (List.take s3.length
  (List.drop (0 : Nat) s3))
  (List.take s4.length
  (List.drop (0 : Nat) s4))
  (List.take s5.length
  (List.drop (0 : Nat) s5)))
  x0 x1 x2).it.length :
  Int) +
  (1 : Int) *
  (↑(stepO
  (Ses.mk s0
  (List.take s1.length
  (List.drop (0 : Nat) s1))
  s2
  (List.take s3.length
  (List.drop (0 : Nat) s3))
  (List.take s4.length
  (List.drop (0 : Nat) s4))
  (List.take s5.length
  (List.drop (0 : Nat) s5)))
  x0 x1 x2).ha.length :
  Int))
  (stepO
  (Ses.mk s0
  (List.take s1.length (List.drop (0 : Nat) s1)) s2
  (List.take s3.length (List.drop (0 : Nat) s3))
  (List.take s4.length (List.drop (0 : Nat) s4))
  (List.take s5.length (List.drop (0 : Nat) s5)))
  x0 x1 x2).w.length ++
  List.drop
  ((0 : Nat) +
  (stepO
  (Ses.mk s0
  (List.take s1.length (List.drop (0 : Nat) s1)) s2
  (List.take s3.length (List.drop (0 : Nat) s3))
  (List.take s4.length (List.drop (0 : Nat) s4))
  (List.take s5.length (List.drop (0 : Nat) s5)))
  x0 x1 x2).w.length)
  (stepO
  (Ses.mk s0 (List.take s1.length (List.drop (0 : Nat) s1))
  s2 (List.take s3.length (List.drop (0 : Nat) s3))
  (List.take s4.length (List.drop (0 : Nat) s4))
  (List.take s5.length (List.drop (0 : Nat) s5)))
  x0 x1 x2).w)) =
  marks markPacket1 (3 : Int)
  ((1 : Int) +
  (1 : Int) *
  (↑(List.take
  (stepO
  (Ses.mk s0
  (List.take s1.length (List.drop (0 : Nat) s1))
  s2
  (List.take s3.length (List.drop (0 : Nat) s3))
  (List.take s4.length (List.drop (0 : Nat) s4))
  (List.take s5.length
  (List.drop (0 : Nat) s5)))
  x0 x1 x2).it.length
  (List.drop (0 : Nat)
  (nilT Cd.str.den ++
  marks markStr1 (1 : Int) (1 : Int)
  (stepO
  (Ses.mk s0
  (List.take s1.length
  (List.drop (0 : Nat) s1))
  s2
  (List.take s3.length
  (List.drop (0 : Nat) s3))
  (List.take s4.length
  (List.drop (0 : Nat) s4))
  (List.take s5.length
  (List.drop (0 : Nat) s5)))
  x0 x1 x2).it.length ++
  List.drop
  ((0 : Nat) +
  (stepO
  (Ses.mk s0
  (List.take s1.length
  (List.drop (0 : Nat) s1))
  s2
  (List.take s3.length
  (List.drop (0 : Nat) s3))
  (List.take s4.length
  (List.drop (0 : Nat) s4))
  (List.take s5.length
  (List.drop (0 : Nat) s5)))
  x0 x1 x2).it.length)
  (stepO
  (Ses.mk s0
  (List.take s1.length
  (List.drop (0 : Nat) s1))
  s2
  (List.take s3.length
  (List.drop (0 : Nat) s3))
  (List.take s4.length
  (List.drop (0 : Nat) s4))
  (List.take s5.length
  (List.drop (0 : Nat) s5)))
  x0 x1 x2).it))).length :
  Int) +
  (1 : Int) *
  (↑(List.take
  (stepO
  (Ses.mk s0
  (List.take s1.length (List.drop (0 : Nat) s1))
  s2
  (List.take s3.length (List.drop (0 : Nat) s3))
  (List.take s4.length (List.drop (0 : Nat) s4))
  (List.take s5.length (List.drop (0 : Nat) s5)))
  x0 x1 x2).ha.length
  (List.drop (0 : Nat)
  (nilT Cd.str.den ++
  marks markStr1 (1 : Int)
  ((1 : Int) +
  (1 : Int) *
  (↑(stepO
  (Ses.mk s0
  (List.take s1.length
  (List.drop (0 : Nat) s1))
  s2
  (List.take s3.length
  (List.drop (0 : Nat) s3))
  (List.take s4.length
  (List.drop (0 : Nat) s4))
  (List.take s5.length
  (List.drop (0 : Nat) s5)))
  x0 x1 x2).it.length :
  Int))
  (stepO
  (Ses.mk s0
  (List.take s1.length
  (List.drop (0 : Nat) s1))
  s2
  (List.take s3.length
  (List.drop (0 : Nat) s3))
  (List.take s4.length
  (List.drop (0 : Nat) s4))
  (List.take s5.length
  (List.drop (0 : Nat) s5)))
  x0 x1 x2).ha.length ++
  List.drop
  ((0 : Nat) +
  (stepO
  (Ses.mk s0
  (List.take s1.length
  (List.drop (0 : Nat) s1))
  s2
  (List.take s3.length
  (List.drop (0 : Nat) s3))
  (List.take s4.length
  (List.drop (0 : Nat) s4))
  (List.take s5.length
  (List.drop (0 : Nat) s5)))
  x0 x1 x2).ha.length)
  (stepO
  (Ses.mk s0
  (List.take s1.length
  (List.drop (0 : Nat) s1))
  s2
  (List.take s3.length
  (List.drop (0 : Nat) s3))
  (List.take s4.length
  (List.drop (0 : Nat) s4))
  (List.take s5.length
  (List.drop (0 : Nat) s5)))
  x0 x1 x2).ha))).length :
  Int))
  (List.take
  (stepO
  (Ses.mk s0 (List.take s1.length (List.drop (0 : Nat) s1))
  s2 (List.take s3.length (List.drop (0 : Nat) s3))
  (List.take s4.length (List.drop (0 : Nat) s4))
  (List.take s5.length (List.drop (0 : Nat) s5)))
  x0 x1 x2).w.length
  (List.drop (0 : Nat)
  (nilT
  ((Cd.int IntKind.i64).pair
  ((Cd.int IntKind.i64).pair
  (Cd.str.pair Cd.unit))).den ++
  marks markPacket1 (3 : Int)
  ((1 : Int) +
  (1 : Int) *
  (↑(stepO
  (Ses.mk s0
  (List.take s1.length
  (List.drop (0 : Nat) s1))
  s2
  (List.take s3.length
  (List.drop (0 : Nat) s3))
  (List.take s4.length
  (List.drop (0 : Nat) s4))
  (List.take s5.length
  (List.drop (0 : Nat) s5)))
  x0 x1 x2).it.length :
  Int) +
  (1 : Int) *
  (↑(stepO
  (Ses.mk s0
  (List.take s1.length
  (List.drop (0 : Nat) s1))
  s2
  (List.take s3.length
  (List.drop (0 : Nat) s3))
  (List.take s4.length
  (List.drop (0 : Nat) s4))
  (List.take s5.length
  (List.drop (0 : Nat) s5)))
  x0 x1 x2).ha.length :
  Int))
  (stepO
  (Ses.mk s0
  (List.take s1.length (List.drop (0 : Nat) s1))
  s2
  (List.take s3.length (List.drop (0 : Nat) s3))
  (List.take s4.length (List.drop (0 : Nat) s4))
  (List.take s5.length (List.drop (0 : Nat) s5)))
  x0 x1 x2).w.length ++
  List.drop
  ((0 : Nat) +
  (stepO
  (Ses.mk s0
  (List.take s1.length (List.drop (0 : Nat) s1))
  s2
  (List.take s3.length (List.drop (0 : Nat) s3))
  (List.take s4.length (List.drop (0 : Nat) s4))
  (List.take s5.length (List.drop (0 : Nat) s5)))
  x0 x1 x2).w.length)
  (stepO
  (Ses.mk s0
  (List.take s1.length (List.drop (0 : Nat) s1)) s2
  (List.take s3.length (List.drop (0 : Nat) s3))
  (List.take s4.length (List.drop (0 : Nat) s4))
  (List.take s5.length (List.drop (0 : Nat) s5)))
  x0 x1 x2).w))).length ∧
  List.take
  (stepO
  (Ses.mk s0 (List.take s1.length (List.drop (0 : Nat) s1)) s2
  (List.take s3.length (List.drop (0 : Nat) s3))
  (List.take s4.length (List.drop (0 : Nat) s4))
  (List.take s5.length (List.drop (0 : Nat) s5)))
  x0 x1 x2).a.length
  (List.drop (0 : Nat)
  (nilT
  ((Cd.int IntKind.i64).pair
  ((Cd.int IntKind.i64).pair Cd.unit)).den ++
  marks markAck1 (2 : Int)
  ((1 : Int) +
  (1 : Int) *
  (↑(stepO
  (Ses.mk s0
  (List.take s1.length
  (List.drop (0 : Nat) s1))
  s2
  (List.take s3.length
  (List.drop (0 : Nat) s3))
  (List.take s4.length
  (List.drop (0 : Nat) s4))
  (List.take s5.length
  (List.drop (0 : Nat) s5)))
  x0 x1 x2).it.length :
  Int) +
  (1 : Int) *
  (↑(stepO
  (Ses.mk s0
  (List.take s1.length
  (List.drop (0 : Nat) s1))
  s2
  (List.take s3.length
  (List.drop (0 : Nat) s3))
  (List.take s4.length
  (List.drop (0 : Nat) s4))
  (List.take s5.length
  (List.drop (0 : Nat) s5)))
  x0 x1 x2).ha.length :
  Int) +
  (3 : Int) *
  (↑(stepO
  (Ses.mk s0
  (List.take s1.length
  (List.drop (0 : Nat) s1))
  s2
  (List.take s3.length
  (List.drop (0 : Nat) s3))
  (List.take s4.length
  (List.drop (0 : Nat) s4))
  (List.take s5.length
  (List.drop (0 : Nat) s5)))
  x0 x1 x2).w.length :
  Int))
  (stepO
  (Ses.mk s0
  (List.take s1.length (List.drop (0 : Nat) s1)) s2
  (List.take s3.length (List.drop (0 : Nat) s3))
  (List.take s4.length (List.drop (0 : Nat) s4))
  (List.take s5.length (List.drop (0 : Nat) s5)))
  x0 x1 x2).a.length ++
  List.drop
  ((0 : Nat) +
  (stepO
  (Ses.mk s0
  (List.take s1.length (List.drop (0 : Nat) s1)) s2
  (List.take s3.length (List.drop (0 : Nat) s3))
  (List.take s4.length (List.drop (0 : Nat) s4))
  (List.take s5.length (List.drop (0 : Nat) s5)))
  x0 x1 x2).a.length)
  (stepO
  (Ses.mk s0 (List.take s1.length (List.drop (0 : Nat) s1))
  s2 (List.take s3.length (List.drop (0 : Nat) s3))
  (List.take s4.length (List.drop (0 : Nat) s4))
  (List.take s5.length (List.drop (0 : Nat) s5)))
  x0 x1 x2).a)) =
  marks markAck1 (2 : Int)
  ((1 : Int) +
  (1 : Int) *
  (↑(List.take
  (stepO
  (Ses.mk s0
  (List.take s1.length
  (List.drop (0 : Nat) s1))
  s2
  (List.take s3.length
  (List.drop (0 : Nat) s3))
  (List.take s4.length
  (List.drop (0 : Nat) s4))
  (List.take s5.length
  (List.drop (0 : Nat) s5)))
  x0 x1 x2).it.length
  (List.drop (0 : Nat)
  (nilT Cd.str.den ++
  marks markStr1 (1 : Int) (1 : Int)
  (stepO
  (Ses.mk s0
  (List.take s1.length
  (List.drop (0 : Nat) s1))
  s2
  (List.take s3.length
  (List.drop (0 : Nat) s3))
  (List.take s4.length
  (List.drop (0 : Nat) s4))
  (List.take s5.length
  (List.drop (0 : Nat) s5)))
  x0 x1 x2).it.length ++
  List.drop
  ((0 : Nat) +
  (stepO
  (Ses.mk s0
  (List.take s1.length
  (List.drop (0 : Nat) s1))
  s2
  (List.take s3.length
  (List.drop (0 : Nat) s3))
  (List.take s4.length
  (List.drop (0 : Nat) s4))
  (List.take s5.length
  (List.drop (0 : Nat) s5)))
  x0 x1 x2).it.length)
  (stepO
  (Ses.mk s0
  (List.take s1.length
  (List.drop (0 : Nat) s1))
  s2
  (List.take s3.length
  (List.drop (0 : Nat) s3))
  (List.take s4.length
  (List.drop (0 : Nat) s4))
  (List.take s5.length
  (List.drop (0 : Nat) s5)))
  x0 x1 x2).it))).length :
  Int) +
  (1 : Int) *
  (↑(List.take
  (stepO
  (Ses.mk s0
  (List.take s1.length (List.drop (0 : Nat) s1))
  s2
  (List.take s3.length (List.drop (0 : Nat) s3))
  (List.take s4.length (List.drop (0 : Nat) s4))
  (List.take s5.length
  (List.drop (0 : Nat) s5)))
  x0 x1 x2).ha.length
  (List.drop (0 : Nat)
  (nilT Cd.str.den ++
  marks markStr1 (1 : Int)
  ((1 : Int) +
  (1 : Int) *
  (↑(stepO
  (Ses.mk s0
  (List.take s1.length
  (List.drop (0 : Nat) s1))
  s2
  (List.take s3.length
  (List.drop (0 : Nat) s3))
  (List.take s4.length
  (List.drop (0 : Nat) s4))
  (List.take s5.length
  (List.drop (0 : Nat) s5)))
  x0 x1 x2).it.length :
  Int))
  (stepO
  (Ses.mk s0
  (List.take s1.length
  (List.drop (0 : Nat) s1))
  s2
  (List.take s3.length
  (List.drop (0 : Nat) s3))
  (List.take s4.length
  (List.drop (0 : Nat) s4))
  (List.take s5.length
  (List.drop (0 : Nat) s5)))
  x0 x1 x2).ha.length ++
  List.drop
  ((0 : Nat) +
  (stepO
  (Ses.mk s0
  (List.take s1.length
  (List.drop (0 : Nat) s1))
  s2
  (List.take s3.length
  (List.drop (0 : Nat) s3))
  (List.take s4.length
  (List.drop (0 : Nat) s4))
  (List.take s5.length
  (List.drop (0 : Nat) s5)))
  x0 x1 x2).ha.length)
  (stepO
  (Ses.mk s0
  (List.take s1.length
  (List.drop (0 : Nat) s1))
  s2
  (List.take s3.length
  (List.drop (0 : Nat) s3))
  (List.take s4.length
  (List.drop (0 : Nat) s4))
  (List.take s5.length
  (List.drop (0 : Nat) s5)))
  x0 x1 x2).ha))).length :
  Int) +
  (3 : Int) *
  (↑(List.take
  (stepO
  (Ses.mk s0
  (List.take s1.length (List.drop (0 : Nat) s1))
  s2
  (List.take s3.length (List.drop (0 : Nat) s3))
  (List.take s4.length (List.drop (0 : Nat) s4))
  (List.take s5.length (List.drop (0 : Nat) s5)))
  x0 x1 x2).w.length
  (List.drop (0 : Nat)
  (nilT
  ((Cd.int IntKind.i64).pair
  ((Cd.int IntKind.i64).pair
  (Cd.str.pair Cd.unit))).den ++
  marks markPacket1 (3 : Int)
  ((1 : Int) +
  (1 : Int) *
  (↑(stepO
  (Ses.mk s0
  (List.take s1.length
  (List.drop (0 : Nat) s1))
  s2
  (List.take s3.length
  (List.drop (0 : Nat) s3))
  (List.take s4.length
  (List.drop (0 : Nat) s4))
  (List.take s5.length
  (List.drop (0 : Nat) s5)))
  x0 x1 x2).it.length :
  Int) +
  (1 : Int) *
  (↑(stepO
  (Ses.mk s0
  (List.take s1.length
  (List.drop (0 : Nat) s1))
  s2
  (List.take s3.length
  (List.drop (0 : Nat) s3))
  (List.take s4.length
  (List.drop (0 : Nat) s4))
  (List.take s5.length
  (List.drop (0 : Nat) s5)))
  x0 x1 x2).ha.length :
  Int))
  (stepO
  (Ses.mk s0
  (List.take s1.length
  (List.drop (0 : Nat) s1))
  s2
  (List.take s3.length
  (List.drop (0 : Nat) s3))
  (List.take s4.length
  (List.drop (0 : Nat) s4))
  (List.take s5.length
  (List.drop (0 : Nat) s5)))
  x0 x1 x2).w.length ++
  List.drop
  ((0 : Nat) +
  (stepO
  (Ses.mk s0
  (List.take s1.length
  (List.drop (0 : Nat) s1))
  s2
  (List.take s3.length
  (List.drop (0 : Nat) s3))
  (List.take s4.length
  (List.drop (0 : Nat) s4))
  (List.take s5.length
  (List.drop (0 : Nat) s5)))
  x0 x1 x2).w.length)
  (stepO
  (Ses.mk s0
  (List.take s1.length
  (List.drop (0 : Nat) s1))
  s2
  (List.take s3.length
  (List.drop (0 : Nat) s3))
  (List.take s4.length
  (List.drop (0 : Nat) s4))
  (List.take s5.length
  (List.drop (0 : Nat) s5)))
  x0 x1 x2).w))).length :
  Int))
  (List.take
  (stepO
  (Ses.mk s0 (List.take s1.length (List.drop (0 : Nat) s1))
  s2 (List.take s3.length (List.drop (0 : Nat) s3))
  (List.take s4.length (List.drop (0 : Nat) s4))
  (List.take s5.length (List.drop (0 : Nat) s5)))
  x0 x1 x2).a.length
  (List.drop (0 : Nat)
  (nilT
  ((Cd.int IntKind.i64).pair
  ((Cd.int IntKind.i64).pair Cd.unit)).den ++
  marks markAck1 (2 : Int)
  ((1 : Int) +
  (1 : Int) *
  (↑(stepO
  (Ses.mk s0
  (List.take s1.length
  (List.drop (0 : Nat) s1))
  s2
  (List.take s3.length
  (List.drop (0 : Nat) s3))
  (List.take s4.length
  (List.drop (0 : Nat) s4))
  (List.take s5.length
  (List.drop (0 : Nat) s5)))
  x0 x1 x2).it.length :
  Int) +
  (1 : Int) *
  (↑(stepO
  (Ses.mk s0
  (List.take s1.length
  (List.drop (0 : Nat) s1))
  s2
  (List.take s3.length
  (List.drop (0 : Nat) s3))
  (List.take s4.length
  (List.drop (0 : Nat) s4))
  (List.take s5.length
  (List.drop (0 : Nat) s5)))
  x0 x1 x2).ha.length :
  Int) +
  (3 : Int) *
  (↑(stepO
  (Ses.mk s0
  (List.take s1.length
  (List.drop (0 : Nat) s1))
  s2
  (List.take s3.length
  (List.drop (0 : Nat) s3))
  (List.take s4.length
  (List.drop (0 : Nat) s4))
  (List.take s5.length
  (List.drop (0 : Nat) s5)))
  x0 x1 x2).w.length :
  Int))
  (stepO
  (Ses.mk s0
  (List.take s1.length (List.drop (0 : Nat) s1))
  s2
  (List.take s3.length (List.drop (0 : Nat) s3))
  (List.take s4.length (List.drop (0 : Nat) s4))
  (List.take s5.length (List.drop (0 : Nat) s5)))
  x0 x1 x2).a.length ++
  List.drop
  ((0 : Nat) +
  (stepO
  (Ses.mk s0
  (List.take s1.length (List.drop (0 : Nat) s1))
  s2
  (List.take s3.length (List.drop (0 : Nat) s3))
  (List.take s4.length (List.drop (0 : Nat) s4))
  (List.take s5.length (List.drop (0 : Nat) s5)))
  x0 x1 x2).a.length)
  (stepO
  (Ses.mk s0
  (List.take s1.length (List.drop (0 : Nat) s1)) s2
  (List.take s3.length (List.drop (0 : Nat) s3))
  (List.take s4.length (List.drop (0 : Nat) s4))
  (List.take s5.length (List.drop (0 : Nat) s5)))
  x0 x1 x2).a))).length))
  (ifB
  ((1 : Int) +
  (1 : Int) *
  (↑(List.take
  (stepO
  (Ses.mk s0
  (List.take s1.length (List.drop (0 : Nat) s1)) s2
  (List.take s3.length (List.drop (0 : Nat) s3))
  (List.take s4.length (List.drop (0 : Nat) s4))
  (List.take s5.length (List.drop (0 : Nat) s5)))
  x0 x1 x2).it.length
  (List.drop (0 : Nat)
  (nilT Cd.str.den ++
  marks markStr1 (1 : Int) (1 : Int)
  (stepO
  (Ses.mk s0
  (List.take s1.length
  (List.drop (0 : Nat) s1))
  s2
  (List.take s3.length
  (List.drop (0 : Nat) s3))
  (List.take s4.length
  (List.drop (0 : Nat) s4))
  (List.take s5.length
  (List.drop (0 : Nat) s5)))
  x0 x1 x2).it.length ++
  List.drop
  ((0 : Nat) +
  (stepO
  (Ses.mk s0
  (List.take s1.length
  (List.drop (0 : Nat) s1))
  s2
  (List.take s3.length
  (List.drop (0 : Nat) s3))
  (List.take s4.length
  (List.drop (0 : Nat) s4))
  (List.take s5.length
  (List.drop (0 : Nat) s5)))
  x0 x1 x2).it.length)
  (stepO
  (Ses.mk s0
  (List.take s1.length (List.drop (0 : Nat) s1))
  s2
  (List.take s3.length (List.drop (0 : Nat) s3))
  (List.take s4.length (List.drop (0 : Nat) s4))
  (List.take s5.length
  (List.drop (0 : Nat) s5)))
  x0 x1 x2).it))).length :
  Int) +
  (1 : Int) *
  (↑(List.take
  (stepO
  (Ses.mk s0
  (List.take s1.length (List.drop (0 : Nat) s1)) s2
  (List.take s3.length (List.drop (0 : Nat) s3))
  (List.take s4.length (List.drop (0 : Nat) s4))
  (List.take s5.length (List.drop (0 : Nat) s5)))
  x0 x1 x2).ha.length
  (List.drop (0 : Nat)
  (nilT Cd.str.den ++
  marks markStr1 (1 : Int)
  ((1 : Int) +
  (1 : Int) *
  (↑(stepO
  (Ses.mk s0
  (List.take s1.length
  (List.drop (0 : Nat) s1))
  s2
  (List.take s3.length
  (List.drop (0 : Nat) s3))
  (List.take s4.length
  (List.drop (0 : Nat) s4))
  (List.take s5.length
  (List.drop (0 : Nat) s5)))
  x0 x1 x2).it.length :
  Int))
  (stepO
  (Ses.mk s0
  (List.take s1.length
  (List.drop (0 : Nat) s1))
  s2
  (List.take s3.length
  (List.drop (0 : Nat) s3))
  (List.take s4.length
  (List.drop (0 : Nat) s4))
  (List.take s5.length
  (List.drop (0 : Nat) s5)))
  x0 x1 x2).ha.length ++
  List.drop
  ((0 : Nat) +
  (stepO
  (Ses.mk s0
  (List.take s1.length
  (List.drop (0 : Nat) s1))
  s2
  (List.take s3.length
  (List.drop (0 : Nat) s3))
  (List.take s4.length
  (List.drop (0 : Nat) s4))
  (List.take s5.length
  (List.drop (0 : Nat) s5)))
  x0 x1 x2).ha.length)
  (stepO
  (Ses.mk s0
  (List.take s1.length (List.drop (0 : Nat) s1))
  s2
  (List.take s3.length (List.drop (0 : Nat) s3))
  (List.take s4.length (List.drop (0 : Nat) s4))
  (List.take s5.length (List.drop (0 : Nat) s5)))
  x0 x1 x2).ha))).length :
  Int) +
  (3 : Int) *
  (↑(List.take
  (stepO
  (Ses.mk s0
  (List.take s1.length (List.drop (0 : Nat) s1)) s2
  (List.take s3.length (List.drop (0 : Nat) s3))
  (List.take s4.length (List.drop (0 : Nat) s4))
  (List.take s5.length (List.drop (0 : Nat) s5)))
  x0 x1 x2).w.length
  (List.drop (0 : Nat)
  (nilT
  ((Cd.int IntKind.i64).pair
  ((Cd.int IntKind.i64).pair
  (Cd.str.pair Cd.unit))).den ++
  marks markPacket1 (3 : Int)
  ((1 : Int) +
  (1 : Int) *
  (↑(stepO
  (Ses.mk s0
  (List.take s1.length
  (List.drop (0 : Nat) s1))
  s2
  (List.take s3.length
  (List.drop (0 : Nat) s3))
  (List.take s4.length
  (List.drop (0 : Nat) s4))
  (List.take s5.length
  (List.drop (0 : Nat) s5)))
  x0 x1 x2).it.length :
  Int) +
  (1 : Int) *
  (↑(stepO
  (Ses.mk s0
  (List.take s1.length
  (List.drop (0 : Nat) s1))
  s2
  (List.take s3.length
  (List.drop (0 : Nat) s3))
  (List.take s4.length
  (List.drop (0 : Nat) s4))
  (List.take s5.length
  (List.drop (0 : Nat) s5)))
  x0 x1 x2).ha.length :
  Int))
  (stepO
  (Ses.mk s0
  (List.take s1.length (List.drop (0 : Nat) s1))
  s2
  (List.take s3.length (List.drop (0 : Nat) s3))
  (List.take s4.length (List.drop (0 : Nat) s4))
  (List.take s5.length
  (List.drop (0 : Nat) s5)))
  x0 x1 x2).w.length ++
  List.drop
  ((0 : Nat) +
  (stepO
  (Ses.mk s0
  (List.take s1.length (List.drop (0 : Nat) s1))
  s2
  (List.take s3.length (List.drop (0 : Nat) s3))
  (List.take s4.length (List.drop (0 : Nat) s4))
  (List.take s5.length
  (List.drop (0 : Nat) s5)))
  x0 x1 x2).w.length)
  (stepO
  (Ses.mk s0
  (List.take s1.length (List.drop (0 : Nat) s1)) s2
  (List.take s3.length (List.drop (0 : Nat) s3))
  (List.take s4.length (List.drop (0 : Nat) s4))
  (List.take s5.length (List.drop (0 : Nat) s5)))
  x0 x1 x2).w))).length :
  Int) +
  (2 : Int) *
  (↑(List.take
  (stepO
  (Ses.mk s0 (List.take s1.length (List.drop (0 : Nat) s1))
  s2 (List.take s3.length (List.drop (0 : Nat) s3))
  (List.take s4.length (List.drop (0 : Nat) s4))
  (List.take s5.length (List.drop (0 : Nat) s5)))
  x0 x1 x2).a.length
  (List.drop (0 : Nat)
  (nilT
  ((Cd.int IntKind.i64).pair
  ((Cd.int IntKind.i64).pair Cd.unit)).den ++
  marks markAck1 (2 : Int)
  ((1 : Int) +
  (1 : Int) *
  (↑(stepO
  (Ses.mk s0
  (List.take s1.length
  (List.drop (0 : Nat) s1))
  s2
  (List.take s3.length
  (List.drop (0 : Nat) s3))
  (List.take s4.length
  (List.drop (0 : Nat) s4))
  (List.take s5.length
  (List.drop (0 : Nat) s5)))
  x0 x1 x2).it.length :
  Int) +
  (1 : Int) *
  (↑(stepO
  (Ses.mk s0
  (List.take s1.length
  (List.drop (0 : Nat) s1))
  s2
  (List.take s3.length
  (List.drop (0 : Nat) s3))
  (List.take s4.length
  (List.drop (0 : Nat) s4))
  (List.take s5.length
  (List.drop (0 : Nat) s5)))
  x0 x1 x2).ha.length :
  Int) +
  (3 : Int) *
  (↑(stepO
  (Ses.mk s0
  (List.take s1.length
  (List.drop (0 : Nat) s1))
  s2
  (List.take s3.length
  (List.drop (0 : Nat) s3))
  (List.take s4.length
  (List.drop (0 : Nat) s4))
  (List.take s5.length
  (List.drop (0 : Nat) s5)))
  x0 x1 x2).w.length :
  Int))
  (stepO
  (Ses.mk s0
  (List.take s1.length (List.drop (0 : Nat) s1))
  s2
  (List.take s3.length (List.drop (0 : Nat) s3))
  (List.take s4.length (List.drop (0 : Nat) s4))
  (List.take s5.length (List.drop (0 : Nat) s5)))
  x0 x1 x2).a.length ++
  List.drop
  ((0 : Nat) +
  (stepO
  (Ses.mk s0
  (List.take s1.length (List.drop (0 : Nat) s1))
  s2
  (List.take s3.length (List.drop (0 : Nat) s3))
  (List.take s4.length (List.drop (0 : Nat) s4))
  (List.take s5.length (List.drop (0 : Nat) s5)))
  x0 x1 x2).a.length)
  (stepO
  (Ses.mk s0
  (List.take s1.length (List.drop (0 : Nat) s1)) s2
  (List.take s3.length (List.drop (0 : Nat) s3))
  (List.take s4.length (List.drop (0 : Nat) s4))
  (List.take s5.length (List.drop (0 : Nat) s5)))
  x0 x1 x2).a))).length :
  Int) !=
  (1 : Int) +
  (1 : Int) *
  (↑(stepO
  (Ses.mk s0
  (List.take s1.length (List.drop (0 : Nat) s1)) s2
  (List.take s3.length (List.drop (0 : Nat) s3))
  (List.take s4.length (List.drop (0 : Nat) s4))
  (List.take s5.length (List.drop (0 : Nat) s5)))
  x0 x1 x2).it.length :
  Int) +
  (1 : Int) *
  (↑(stepO
  (Ses.mk s0 (List.take s1.length (List.drop (0 : Nat) s1))
  s2 (List.take s3.length (List.drop (0 : Nat) s3))
  (List.take s4.length (List.drop (0 : Nat) s4))
  (List.take s5.length (List.drop (0 : Nat) s5)))
  x0 x1 x2).ha.length :
  Int) +
  (3 : Int) *
  (↑(stepO
  (Ses.mk s0 (List.take s1.length (List.drop (0 : Nat) s1)) s2
  (List.take s3.length (List.drop (0 : Nat) s3))
  (List.take s4.length (List.drop (0 : Nat) s4))
  (List.take s5.length (List.drop (0 : Nat) s5)))
  x0 x1 x2).w.length :
  Int) +
  (2 : Int) *
  (↑(stepO
  (Ses.mk s0 (List.take s1.length (List.drop (0 : Nat) s1)) s2
  (List.take s3.length (List.drop (0 : Nat) s3))
  (List.take s4.length (List.drop (0 : Nat) s4))
  (List.take s5.length (List.drop (0 : Nat) s5)))
  x0 x1 x2).a.length :
  Int))
  (some (V.b false, []))
  (ifT
  (decide
  (s1.length ≤ (1000000000 : Nat) ∧
  s3.length ≤ (1000000000 : Nat) ∧
  s4.length ≤ (1000000000 : Nat) ∧ s5.length ≤ (1000000000 : Nat)))
  (ifT
  (decide
  ((↑(List.take s3.length (List.drop (0 : Nat) s3)).length : Int) ≤ lim))
  (ifB
  (!decide
  ((stepO
  (Ses.mk s0 (List.take s1.length (List.drop (0 : Nat) s1)) s2
  (List.take s3.length (List.drop (0 : Nat) s3))
  (List.take s4.length (List.drop (0 : Nat) s4))
  (List.take s5.length (List.drop (0 : Nat) s5)))
  x0 x1 x2).e =
  (stepO
  (Ses.mk s0 (List.take s1.length (List.drop (0 : Nat) s1)) s2
  (List.take s3.length (List.drop (0 : Nat) s3))
  (List.take s4.length (List.drop (0 : Nat) s4))
  (List.take s5.length (List.drop (0 : Nat) s5)))
  x0 x1 x2).e ∧
  List.take
  (stepO
  (Ses.mk s0
  (List.take s1.length (List.drop (0 : Nat) s1)) s2
  (List.take s3.length (List.drop (0 : Nat) s3))
  (List.take s4.length (List.drop (0 : Nat) s4))
  (List.take s5.length (List.drop (0 : Nat) s5)))
  x0 x1 x2).it.length
  (List.drop (0 : Nat)
  (stepO
  (Ses.mk s0
  (List.take s1.length (List.drop (0 : Nat) s1)) s2
  (List.take s3.length (List.drop (0 : Nat) s3))
  (List.take s4.length (List.drop (0 : Nat) s4))
  (List.take s5.length (List.drop (0 : Nat) s5)))
  x0 x1 x2).it) =
  List.take
  (stepO
  (Ses.mk s0
  (List.take s1.length (List.drop (0 : Nat) s1)) s2
  (List.take s3.length (List.drop (0 : Nat) s3))
  (List.take s4.length (List.drop (0 : Nat) s4))
  (List.take s5.length (List.drop (0 : Nat) s5)))
  x0 x1 x2).it.length
  (List.drop (0 : Nat)
  (stepO
  (Ses.mk s0
  (List.take s1.length (List.drop (0 : Nat) s1)) s2
  (List.take s3.length (List.drop (0 : Nat) s3))
  (List.take s4.length (List.drop (0 : Nat) s4))
  (List.take s5.length (List.drop (0 : Nat) s5)))
  x0 x1 x2).it) ∧
  (stepO
  (Ses.mk s0
  (List.take s1.length (List.drop (0 : Nat) s1)) s2
  (List.take s3.length (List.drop (0 : Nat) s3))
  (List.take s4.length (List.drop (0 : Nat) s4))
  (List.take s5.length (List.drop (0 : Nat) s5)))
  x0 x1 x2).b =
  (stepO
  (Ses.mk s0
  (List.take s1.length (List.drop (0 : Nat) s1)) s2
  (List.take s3.length (List.drop (0 : Nat) s3))
  (List.take s4.length (List.drop (0 : Nat) s4))
  (List.take s5.length (List.drop (0 : Nat) s5)))
  x0 x1 x2).b ∧
  List.take
  (stepO
  (Ses.mk s0
  (List.take s1.length (List.drop (0 : Nat) s1))
  s2
  (List.take s3.length (List.drop (0 : Nat) s3))
  (List.take s4.length (List.drop (0 : Nat) s4))
  (List.take s5.length (List.drop (0 : Nat) s5)))
  x0 x1 x2).ha.length
  (List.drop (0 : Nat)
  (stepO
  (Ses.mk s0
  (List.take s1.length (List.drop (0 : Nat) s1))
  s2
  (List.take s3.length (List.drop (0 : Nat) s3))
  (List.take s4.length (List.drop (0 : Nat) s4))
  (List.take s5.length (List.drop (0 : Nat) s5)))
  x0 x1 x2).ha) =
  List.take
  (stepO
  (Ses.mk s0
  (List.take s1.length (List.drop (0 : Nat) s1))
  s2
  (List.take s3.length (List.drop (0 : Nat) s3))
  (List.take s4.length (List.drop (0 : Nat) s4))
  (List.take s5.length (List.drop (0 : Nat) s5)))
  x0 x1 x2).ha.length
  (List.drop (0 : Nat)
  (stepO
  (Ses.mk s0
  (List.take s1.length (List.drop (0 : Nat) s1))
  s2
  (List.take s3.length (List.drop (0 : Nat) s3))
  (List.take s4.length (List.drop (0 : Nat) s4))
  (List.take s5.length (List.drop (0 : Nat) s5)))
  x0 x1 x2).ha) ∧
  List.take
  (stepO
  (Ses.mk s0
  (List.take s1.length (List.drop (0 : Nat) s1))
  s2
  (List.take s3.length (List.drop (0 : Nat) s3))
  (List.take s4.length (List.drop (0 : Nat) s4))
  (List.take s5.length
  (List.drop (0 : Nat) s5)))
  x0 x1 x2).w.length
  (List.drop (0 : Nat)
  (stepO
  (Ses.mk s0
  (List.take s1.length (List.drop (0 : Nat) s1))
  s2
  (List.take s3.length (List.drop (0 : Nat) s3))
  (List.take s4.length (List.drop (0 : Nat) s4))
  (List.take s5.length
  (List.drop (0 : Nat) s5)))
  x0 x1 x2).w) =
  List.take
  (stepO
  (Ses.mk s0
  (List.take s1.length (List.drop (0 : Nat) s1))
  s2
  (List.take s3.length (List.drop (0 : Nat) s3))
  (List.take s4.length (List.drop (0 : Nat) s4))
  (List.take s5.length
  (List.drop (0 : Nat) s5)))
  x0 x1 x2).w.length
  (List.drop (0 : Nat)
  (stepO
  (Ses.mk s0
  (List.take s1.length (List.drop (0 : Nat) s1))
  s2
  (List.take s3.length (List.drop (0 : Nat) s3))
  (List.take s4.length (List.drop (0 : Nat) s4))
  (List.take s5.length
  (List.drop (0 : Nat) s5)))
  x0 x1 x2).w) ∧
  List.take
  (stepO
  (Ses.mk s0
  (List.take s1.length (List.drop (0 : Nat) s1))
  s2
  (List.take s3.length (List.drop (0 : Nat) s3))
  (List.take s4.length (List.drop (0 : Nat) s4))
  (List.take s5.length
  (List.drop (0 : Nat) s5)))
  x0 x1 x2).a.length
  (List.drop (0 : Nat)
  (stepO
  (Ses.mk s0
  (List.take s1.length (List.drop (0 : Nat) s1))
  s2
  (List.take s3.length (List.drop (0 : Nat) s3))
  (List.take s4.length (List.drop (0 : Nat) s4))
  (List.take s5.length
  (List.drop (0 : Nat) s5)))
  x0 x1 x2).a) =
  List.take
  (stepO
  (Ses.mk s0
  (List.take s1.length (List.drop (0 : Nat) s1))
  s2
  (List.take s3.length (List.drop (0 : Nat) s3))
  (List.take s4.length (List.drop (0 : Nat) s4))
  (List.take s5.length
  (List.drop (0 : Nat) s5)))
  x0 x1 x2).a.length
  (List.drop (0 : Nat)
  (stepO
  (Ses.mk s0
  (List.take s1.length (List.drop (0 : Nat) s1))
  s2
  (List.take s3.length (List.drop (0 : Nat) s3))
  (List.take s4.length (List.drop (0 : Nat) s4))
  (List.take s5.length
  (List.drop (0 : Nat) s5)))
  x0 x1 x2).a)))
  (some (V.b false, []))
  (ifB
  (!stepB
  (Ses.mk s0 (List.take s1.length (List.drop (0 : Nat) s1)) s2
  (List.take s3.length (List.drop (0 : Nat) s3))
  (List.take s4.length (List.drop (0 : Nat) s4))
  (List.take s5.length (List.drop (0 : Nat) s5)))
  x0 x1 x2 ==
  stepB
  (Ses.mk s0 (List.take s1.length (List.drop (0 : Nat) s1)) s2
  (List.take s3.length (List.drop (0 : Nat) s3))
  (List.take s4.length (List.drop (0 : Nat) s4))
  (List.take s5.length (List.drop (0 : Nat) s5)))
  x0 x1 x2)
  (some (V.b false, []))
  (ifT
  (decide
  ((0 : Int) ≤ (1 : Int) ∧
  (1 : Int) +
  (1 : Int) *
  (↑(List.take
  (stepO
  (Ses.mk s0
  (List.take s1.length
  (List.drop (0 : Nat) s1))
  s2
  (List.take s3.length
  (List.drop (0 : Nat) s3))
  (List.take s4.length
  (List.drop (0 : Nat) s4))
  (List.take s5.length
  (List.drop (0 : Nat) s5)))
  x0 x1 x2).it.length
  (List.drop (0 : Nat)
  (nilT Cd.str.den ++
  marks markStr1 (1 : Int) (1 : Int)
  (stepO
  (Ses.mk s0
  (List.take s1.length
  (List.drop (0 : Nat) s1))
  s2
  (List.take s3.length
  (List.drop (0 : Nat) s3))
  (List.take s4.length
  (List.drop (0 : Nat) s4))
  (List.take s5.length
  (List.drop (0 : Nat) s5)))
  x0 x1 x2).it.length ++
  List.drop
  ((0 : Nat) +
  (stepO
  (Ses.mk s0
  (List.take s1.length
  (List.drop (0 : Nat) s1))
  s2
  (List.take s3.length
  (List.drop (0 : Nat) s3))
  (List.take s4.length
  (List.drop (0 : Nat) s4))
  (List.take s5.length
  (List.drop (0 : Nat) s5)))
  x0 x1 x2).it.length)
  (stepO
  (Ses.mk s0
  (List.take s1.length
  (List.drop (0 : Nat) s1))
  s2
  (List.take s3.length
  (List.drop (0 : Nat) s3))
  (List.take s4.length
  (List.drop (0 : Nat) s4))
  (List.take s5.length
  (List.drop (0 : Nat) s5)))
  x0 x1 x2).it))).length :
  Int) +
  (1 : Int) *
  (↑(List.take
  (stepO
  (Ses.mk s0
  (List.take s1.length
  (List.drop (0 : Nat) s1))
  s2
  (List.take s3.length
  (List.drop (0 : Nat) s3))
  (List.take s4.length
  (List.drop (0 : Nat) s4))
  (List.take s5.length
  (List.drop (0 : Nat) s5)))
  x0 x1 x2).ha.length
  (List.drop (0 : Nat)
  (nilT Cd.str.den ++
  marks markStr1 (1 : Int)
  ((1 : Int) +
  (1 : Int) *
  (↑(stepO
  (Ses.mk s0
  (List.take s1.length
  (List.drop (0 : Nat)
  s1))
  s2
  (List.take s3.length
  (List.drop (0 : Nat)
  s3))
  (List.take s4.length
  (List.drop (0 : Nat)
  s4))
  (List.take s5.length
  (List.drop (0 : Nat)
  s5)))
  x0 x1 x2).it.length :
  Int))
  (stepO
  (Ses.mk s0
  (List.take s1.length
  (List.drop (0 : Nat) s1))
  s2
  (List.take s3.length
  (List.drop (0 : Nat) s3))
  (List.take s4.length
  (List.drop (0 : Nat) s4))
  (List.take s5.length
  (List.drop (0 : Nat) s5)))
  x0 x1 x2).ha.length ++
  List.drop
  ((0 : Nat) +
  (stepO
  (Ses.mk s0
  (List.take s1.length
  (List.drop (0 : Nat) s1))
  s2
  (List.take s3.length
  (List.drop (0 : Nat) s3))
  (List.take s4.length
  (List.drop (0 : Nat) s4))
  (List.take s5.length
  (List.drop (0 : Nat) s5)))
  x0 x1 x2).ha.length)
  (stepO
  (Ses.mk s0
  (List.take s1.length
  (List.drop (0 : Nat) s1))
  s2
  (List.take s3.length
  (List.drop (0 : Nat) s3))
  (List.take s4.length
  (List.drop (0 : Nat) s4))
  (List.take s5.length
  (List.drop (0 : Nat) s5)))
  x0 x1 x2).ha))).length :
  Int) +
  (3 : Int) *
  (↑(List.take
  (stepO
  (Ses.mk s0
  (List.take s1.length
  (List.drop (0 : Nat) s1))
  s2
  (List.take s3.length
  (List.drop (0 : Nat) s3))
  (List.take s4.length
  (List.drop (0 : Nat) s4))
  (List.take s5.length
  (List.drop (0 : Nat) s5)))
  x0 x1 x2).w.length
  (List.drop (0 : Nat)
  (nilT
  ((Cd.int IntKind.i64).pair
  ((Cd.int IntKind.i64).pair
  (Cd.str.pair Cd.unit))).den ++
  marks markPacket1 (3 : Int)
  ((1 : Int) +
  (1 : Int) *
  (↑(stepO
  (Ses.mk s0
  (List.take s1.length
  (List.drop (0 : Nat)
  s1))
  s2
  (List.take s3.length
  (List.drop (0 : Nat)
  s3))
  (List.take s4.length
  (List.drop (0 : Nat)
  s4))
  (List.take s5.length
  (List.drop (0 : Nat)
  s5)))
  x0 x1 x2).it.length :
  Int) +
  (1 : Int) *
  (↑(stepO
  (Ses.mk s0
  (List.take s1.length
  (List.drop (0 : Nat)
  s1))
  s2
  (List.take s3.length
  (List.drop (0 : Nat)
  s3))
  (List.take s4.length
  (List.drop (0 : Nat)
  s4))
  (List.take s5.length
  (List.drop (0 : Nat)
  s5)))
  x0 x1 x2).ha.length :
  Int))
  (stepO
  (Ses.mk s0
  (List.take s1.length
  (List.drop (0 : Nat) s1))
  s2
  (List.take s3.length
  (List.drop (0 : Nat) s3))
  (List.take s4.length
  (List.drop (0 : Nat) s4))
  (List.take s5.length
  (List.drop (0 : Nat) s5)))
  x0 x1 x2).w.length ++
  List.drop
  ((0 : Nat) +
  (stepO
  (Ses.mk s0
  (List.take s1.length
  (List.drop (0 : Nat) s1))
  s2
  (List.take s3.length
  (List.drop (0 : Nat) s3))
  (List.take s4.length
  (List.drop (0 : Nat) s4))
  (List.take s5.length
  (List.drop (0 : Nat) s5)))
  x0 x1 x2).w.length)
  (stepO
  (Ses.mk s0
  (List.take s1.length
  (List.drop (0 : Nat) s1))
  s2
  (List.take s3.length
  (List.drop (0 : Nat) s3))
  (List.take s4.length
  (List.drop (0 : Nat) s4))
  (List.take s5.length
  (List.drop (0 : Nat) s5)))
  x0 x1 x2).w))).length :
  Int) +
  (2 : Int) *
  (↑(List.take
  (stepO
  (Ses.mk s0
  (List.take s1.length
  (List.drop (0 : Nat) s1))
  s2
  (List.take s3.length
  (List.drop (0 : Nat) s3))
  (List.take s4.length
  (List.drop (0 : Nat) s4))
  (List.take s5.length
  (List.drop (0 : Nat) s5)))
  x0 x1 x2).a.length
  (List.drop (0 : Nat)
  (nilT
  ((Cd.int IntKind.i64).pair
  ((Cd.int IntKind.i64).pair
  Cd.unit)).den ++
  marks markAck1 (2 : Int)
  ((1 : Int) +
  (1 : Int) *
  (↑(stepO
  (Ses.mk s0
  (List.take s1.length
  (List.drop (0 : Nat)
  s1))
  s2
  (List.take s3.length
  (List.drop (0 : Nat)
  s3))
  (List.take s4.length
  (List.drop (0 : Nat)
  s4))
  (List.take s5.length
  (List.drop (0 : Nat)
  s5)))
  x0 x1 x2).it.length :
  Int) +
  (1 : Int) *
  (↑(stepO
  (Ses.mk s0
  (List.take s1.length
  (List.drop (0 : Nat)
  s1))
  s2
  (List.take s3.length
  (List.drop (0 : Nat)
  s3))
  (List.take s4.length
  (List.drop (0 : Nat)
  s4))
  (List.take s5.length
  (List.drop (0 : Nat)
  s5)))
  x0 x1 x2).ha.length :
  Int) +
  (3 : Int) *
  (↑(stepO
  (Ses.mk s0
  (List.take s1.length
  (List.drop (0 : Nat)
  s1))
  s2
  (List.take s3.length
  (List.drop (0 : Nat)
  s3))
  (List.take s4.length
  (List.drop (0 : Nat)
  s4))
  (List.take s5.length
  (List.drop (0 : Nat)
  s5)))
  x0 x1 x2).w.length :
  Int))
  (stepO
  (Ses.mk s0
  (List.take s1.length
  (List.drop (0 : Nat) s1))
  s2
  (List.take s3.length
  (List.drop (0 : Nat) s3))
  (List.take s4.length
  (List.drop (0 : Nat) s4))
  (List.take s5.length
  (List.drop (0 : Nat) s5)))
  x0 x1 x2).a.length ++
  List.drop
  ((0 : Nat) +
  (stepO
  (Ses.mk s0
  (List.take s1.length
  (List.drop (0 : Nat) s1))
  s2
  (List.take s3.length
  (List.drop (0 : Nat) s3))
  (List.take s4.length
  (List.drop (0 : Nat) s4))
  (List.take s5.length
  (List.drop (0 : Nat) s5)))
  x0 x1 x2).a.length)
  (stepO
  (Ses.mk s0
  (List.take s1.length
  (List.drop (0 : Nat) s1))
  s2
  (List.take s3.length
  (List.drop (0 : Nat) s3))
  (List.take s4.length
  (List.drop (0 : Nat) s4))
  (List.take s5.length
  (List.drop (0 : Nat) s5)))
  x0 x1 x2).a))).length :
  Int) ≤
  lim))
  (ifB
  (decide
  (List.take
  (stepO
  (Ses.mk s0
  (List.take s1.length (List.drop (0 : Nat) s1)) s2
  (List.take s3.length (List.drop (0 : Nat) s3))
  (List.take s4.length (List.drop (0 : Nat) s4))
  (List.take s5.length (List.drop (0 : Nat) s5)))
  x0 x1 x2).it.length
  (List.drop (0 : Nat)
  (nilT Cd.str.den ++
  marks markStr1 (1 : Int) (1 : Int)
  (stepO
  (Ses.mk s0
  (List.take s1.length
  (List.drop (0 : Nat) s1))
  s2
  (List.take s3.length
  (List.drop (0 : Nat) s3))
  (List.take s4.length
  (List.drop (0 : Nat) s4))
  (List.take s5.length
  (List.drop (0 : Nat) s5)))
  x0 x1 x2).it.length ++
  List.drop
  ((0 : Nat) +
  (stepO
  (Ses.mk s0
  (List.take s1.length
  (List.drop (0 : Nat) s1))
  s2
  (List.take s3.length
  (List.drop (0 : Nat) s3))
  (List.take s4.length
  (List.drop (0 : Nat) s4))
  (List.take s5.length
  (List.drop (0 : Nat) s5)))
  x0 x1 x2).it.length)
  (stepO
  (Ses.mk s0
  (List.take s1.length (List.drop (0 : Nat) s1))
  s2
  (List.take s3.length (List.drop (0 : Nat) s3))
  (List.take s4.length (List.drop (0 : Nat) s4))
  (List.take s5.length
  (List.drop (0 : Nat) s5)))
  x0 x1 x2).it)) =
  marks markStr1 (1 : Int) (1 : Int)
  (List.take
  (stepO
  (Ses.mk s0
  (List.take s1.length (List.drop (0 : Nat) s1))
  s2
  (List.take s3.length (List.drop (0 : Nat) s3))
  (List.take s4.length (List.drop (0 : Nat) s4))
  (List.take s5.length
  (List.drop (0 : Nat) s5)))
  x0 x1 x2).it.length
  (List.drop (0 : Nat)
  (nilT Cd.str.den ++
  marks markStr1 (1 : Int) (1 : Int)
  (stepO
  (Ses.mk s0
  (List.take s1.length
  (List.drop (0 : Nat) s1))
  s2
  (List.take s3.length
  (List.drop (0 : Nat) s3))
  (List.take s4.length
  (List.drop (0 : Nat) s4))
  (List.take s5.length
  (List.drop (0 : Nat) s5)))
  x0 x1 x2).it.length ++
  List.drop
  ((0 : Nat) +
  (stepO
  (Ses.mk s0
  (List.take s1.length
  (List.drop (0 : Nat) s1))
  s2
  (List.take s3.length
  (List.drop (0 : Nat) s3))
  (List.take s4.length
  (List.drop (0 : Nat) s4))
  (List.take s5.length
  (List.drop (0 : Nat) s5)))
  x0 x1 x2).it.length)
  (stepO
  (Ses.mk s0
  (List.take s1.length
  (List.drop (0 : Nat) s1))
  s2
  (List.take s3.length
  (List.drop (0 : Nat) s3))
  (List.take s4.length
  (List.drop (0 : Nat) s4))
  (List.take s5.length
  (List.drop (0 : Nat) s5)))
  x0 x1 x2).it))).length ∧
  List.take
  (stepO
  (Ses.mk s0
  (List.take s1.length (List.drop (0 : Nat) s1))
  s2
  (List.take s3.length (List.drop (0 : Nat) s3))
  (List.take s4.length (List.drop (0 : Nat) s4))
  (List.take s5.length (List.drop (0 : Nat) s5)))
  x0 x1 x2).ha.length
  (List.drop (0 : Nat)
  (nilT Cd.str.den ++
  marks markStr1 (1 : Int)
  ((1 : Int) +
  (1 : Int) *
  (↑(stepO
  (Ses.mk s0
  (List.take s1.length
  (List.drop (0 : Nat) s1))
  s2
  (List.take s3.length
  (List.drop (0 : Nat) s3))
  (List.take s4.length
  (List.drop (0 : Nat) s4))
  (List.take s5.length
  (List.drop (0 : Nat) s5)))
  x0 x1 x2).it.length :
  Int))
  (stepO
  (Ses.mk s0
  (List.take s1.length
  (List.drop (0 : Nat) s1))
  s2
  (List.take s3.length
  (List.drop (0 : Nat) s3))
  (List.take s4.length
  (List.drop (0 : Nat) s4))
  (List.take s5.length
  (List.drop (0 : Nat) s5)))
  x0 x1 x2).ha.length ++
  List.drop
  ((0 : Nat) +
  (stepO
  (Ses.mk s0
  (List.take s1.length
  (List.drop (0 : Nat) s1))
  s2
  (List.take s3.length
  (List.drop (0 : Nat) s3))
  (List.take s4.length
  (List.drop (0 : Nat) s4))
  (List.take s5.length
  (List.drop (0 : Nat) s5)))
  x0 x1 x2).ha.length)
  (stepO
  (Ses.mk s0
  (List.take s1.length
  (List.drop (0 : Nat) s1))
  s2
  (List.take s3.length
  (List.drop (0 : Nat) s3))
  (List.take s4.length
  (List.drop (0 : Nat) s4))
  (List.take s5.length
  (List.drop (0 : Nat) s5)))
  x0 x1 x2).ha)) =
  marks markStr1 (1 : Int)
  ((1 : Int) +
  (1 : Int) *
  (↑(List.take
  (stepO
  (Ses.mk s0
  (List.take s1.length
  (List.drop (0 : Nat) s1))
  s2
  (List.take s3.length
  (List.drop (0 : Nat) s3))
  (List.take s4.length
  (List.drop (0 : Nat) s4))
  (List.take s5.length
  (List.drop (0 : Nat) s5)))
  x0 x1 x2).it.length
  (List.drop (0 : Nat)
  (nilT Cd.str.den ++
  marks markStr1 (1 : Int) (1 : Int)
  (stepO
  (Ses.mk s0
  (List.take s1.length
  (List.drop (0 : Nat) s1))
  s2
  (List.take s3.length
  (List.drop (0 : Nat) s3))
  (List.take s4.length
  (List.drop (0 : Nat) s4))
  (List.take s5.length
  (List.drop (0 : Nat) s5)))
  x0 x1 x2).it.length ++
  List.drop
  ((0 : Nat) +
  (stepO
  (Ses.mk s0
  (List.take s1.length
  (List.drop (0 : Nat) s1))
  s2
  (List.take s3.length
  (List.drop (0 : Nat) s3))
  (List.take s4.length
  (List.drop (0 : Nat) s4))
  (List.take s5.length
  (List.drop (0 : Nat) s5)))
  x0 x1 x2).it.length)
  (stepO
  (Ses.mk s0
  (List.take s1.length
  (List.drop (0 : Nat) s1))
  s2
  (List.take s3.length
  (List.drop (0 : Nat) s3))
  (List.take s4.length
  (List.drop (0 : Nat) s4))
  (List.take s5.length
  (List.drop (0 : Nat) s5)))
  x0 x1 x2).it))).length :
  Int))
  (List.take
  (stepO
  (Ses.mk s0
  (List.take s1.length
  (List.drop (0 : Nat) s1))
  s2
  (List.take s3.length
  (List.drop (0 : Nat) s3))
  (List.take s4.length
  (List.drop (0 : Nat) s4))
  (List.take s5.length
  (List.drop (0 : Nat) s5)))
  x0 x1 x2).ha.length
  (List.drop (0 : Nat)
  (nilT Cd.str.den ++
  marks markStr1 (1 : Int)
  ((1 : Int) +
  (1 : Int) *
  (↑(stepO
  (Ses.mk s0
  (List.take s1.length
  (List.drop (0 : Nat) s1))
  s2
  (List.take s3.length
  (List.drop (0 : Nat) s3))
  (List.take s4.length
  (List.drop (0 : Nat) s4))
  (List.take s5.length
  (List.drop (0 : Nat) s5)))
  x0 x1 x2).it.length :
  Int))
  (stepO
  (Ses.mk s0
  (List.take s1.length
  (List.drop (0 : Nat) s1))
  s2
  (List.take s3.length
  (List.drop (0 : Nat) s3))
  (List.take s4.length
  (List.drop (0 : Nat) s4))
  (List.take s5.length
  (List.drop (0 : Nat) s5)))
  x0 x1 x2).ha.length ++
  List.drop
  ((0 : Nat) +
  (stepO
  (Ses.mk s0
  (List.take s1.length
  (List.drop (0 : Nat) s1))
  s2
  (List.take s3.length
  (List.drop (0 : Nat) s3))
  (List.take s4.length
  (List.drop (0 : Nat) s4))
  (List.take s5.length
  (List.drop (0 : Nat) s5)))
  x0 x1 x2).ha.length)
  (stepO
  (Ses.mk s0
  (List.take s1.length
  (List.drop (0 : Nat) s1))
  s2
  (List.take s3.length
  (List.drop (0 : Nat) s3))
  (List.take s4.length
  (List.drop (0 : Nat) s4))
  (List.take s5.length
  (List.drop (0 : Nat) s5)))
  x0 x1 x2).ha))).length ∧
  List.take
  (stepO
  (Ses.mk s0
  (List.take s1.length (List.drop (0 : Nat) s1))
  s2
  (List.take s3.length (List.drop (0 : Nat) s3))
  (List.take s4.length (List.drop (0 : Nat) s4))
  (List.take s5.length
  (List.drop (0 : Nat) s5)))
  x0 x1 x2).w.length
  (List.drop (0 : Nat)
  (nilT
  ((Cd.int IntKind.i64).pair
  ((Cd.int IntKind.i64).pair
  (Cd.str.pair Cd.unit))).den ++
  marks markPacket1 (3 : Int)
  ((1 : Int) +
  (1 : Int) *
  (↑(stepO
  (Ses.mk s0
  (List.take s1.length
  (List.drop (0 : Nat) s1))
  s2
  (List.take s3.length
  (List.drop (0 : Nat) s3))
  (List.take s4.length
  (List.drop (0 : Nat) s4))
  (List.take s5.length
  (List.drop (0 : Nat) s5)))
  x0 x1 x2).it.length :
  Int) +
  (1 : Int) *
  (↑(stepO
  (Ses.mk s0
  (List.take s1.length
  (List.drop (0 : Nat) s1))
  s2
  (List.take s3.length
  (List.drop (0 : Nat) s3))
  (List.take s4.length
  (List.drop (0 : Nat) s4))
  (List.take s5.length
  (List.drop (0 : Nat) s5)))
  x0 x1 x2).ha.length :
  Int))
  (stepO
  (Ses.mk s0
  (List.take s1.length
  (List.drop (0 : Nat) s1))
  s2
  (List.take s3.length
  (List.drop (0 : Nat) s3))
  (List.take s4.length
  (List.drop (0 : Nat) s4))
  (List.take s5.length
  (List.drop (0 : Nat) s5)))
  x0 x1 x2).w.length ++
  List.drop
  ((0 : Nat) +
  (stepO
  (Ses.mk s0
  (List.take s1.length
  (List.drop (0 : Nat) s1))
  s2
  (List.take s3.length
  (List.drop (0 : Nat) s3))
  (List.take s4.length
  (List.drop (0 : Nat) s4))
  (List.take s5.length
  (List.drop (0 : Nat) s5)))
  x0 x1 x2).w.length)
  (stepO
  (Ses.mk s0
  (List.take s1.length
  (List.drop (0 : Nat) s1))
  s2
  (List.take s3.length
  (List.drop (0 : Nat) s3))
  (List.take s4.length
  (List.drop (0 : Nat) s4))
  (List.take s5.length
  (List.drop (0 : Nat) s5)))
  x0 x1 x2).w)) =
  marks markPacket1 (3 : Int)
  ((1 : Int) +
  (1 : Int) *
  (↑(List.take
  (stepO
  (Ses.mk s0
  (List.take s1.length
  (List.drop (0 : Nat) s1))
  s2
  (List.take s3.length
  (List.drop (0 : Nat) s3))
  (List.take s4.length
  (List.drop (0 : Nat) s4))
  (List.take s5.length
  (List.drop (0 : Nat) s5)))
  x0 x1 x2).it.length
  (List.drop (0 : Nat)
  (nilT Cd.str.den ++
  marks markStr1 (1 : Int) (1 : Int)
  (stepO
  (Ses.mk s0
  (List.take s1.length
  (List.drop (0 : Nat)
  s1))
  s2
  (List.take s3.length
  (List.drop (0 : Nat)
  s3))
  (List.take s4.length
  (List.drop (0 : Nat)
  s4))
  (List.take s5.length
  (List.drop (0 : Nat)
  s5)))
  x0 x1 x2).it.length ++
  List.drop
  ((0 : Nat) +
  (stepO
  (Ses.mk s0
  (List.take s1.length
  (List.drop (0 : Nat)
  s1))
  s2
  (List.take s3.length
  (List.drop (0 : Nat)
  s3))
  (List.take s4.length
  (List.drop (0 : Nat)
  s4))
  (List.take s5.length
  (List.drop (0 : Nat)
  s5)))
  x0 x1 x2).it.length)
  (stepO
  (Ses.mk s0
  (List.take s1.length
  (List.drop (0 : Nat) s1))
  s2
  (List.take s3.length
  (List.drop (0 : Nat) s3))
  (List.take s4.length
  (List.drop (0 : Nat) s4))
  (List.take s5.length
  (List.drop (0 : Nat) s5)))
  x0 x1 x2).it))).length :
  Int) +
  (1 : Int) *
  (↑(List.take
  (stepO
  (Ses.mk s0
  (List.take s1.length
  (List.drop (0 : Nat) s1))
  s2
  (List.take s3.length
  (List.drop (0 : Nat) s3))
  (List.take s4.length
  (List.drop (0 : Nat) s4))
  (List.take s5.length
  (List.drop (0 : Nat) s5)))
  x0 x1 x2).ha.length
  (List.drop (0 : Nat)
  (nilT Cd.str.den ++
  marks markStr1 (1 : Int)
  ((1 : Int) +
  (1 : Int) *
  (↑(stepO
  (Ses.mk s0
  (List.take
  s1.length
  (List.drop
  (0 : Nat) s1))
  s2
  (List.take
  s3.length
  (List.drop
  (0 : Nat) s3))
  (List.take
  s4.length
  (List.drop
  (0 : Nat) s4))
  (List.take
  s5.length
  (List.drop
  (0 : Nat)
  s5)))
  x0 x1
  x2).it.length :
  Int))
  (stepO
  (Ses.mk s0
  (List.take s1.length
  (List.drop (0 : Nat)
  s1))
  s2
  (List.take s3.length
  (List.drop (0 : Nat)
  s3))
  (List.take s4.length
  (List.drop (0 : Nat)
  s4))
  (List.take s5.length
  (List.drop (0 : Nat)
  s5)))
  x0 x1 x2).ha.length ++
  List.drop
  ((0 : Nat) +
  (stepO
  (Ses.mk s0
  (List.take s1.length
  (List.drop (0 : Nat)
  s1))
  s2
  (List.take s3.length
  (List.drop (0 : Nat)
  s3))
  (List.take s4.length
  (List.drop (0 : Nat)
  s4))
  (List.take s5.length
  (List.drop (0 : Nat)
  s5)))
  x0 x1 x2).ha.length)
  (stepO
  (Ses.mk s0
  (List.take s1.length
  (List.drop (0 : Nat) s1))
  s2
  (List.take s3.length
  (List.drop (0 : Nat) s3))
  (List.take s4.length
  (List.drop (0 : Nat) s4))
  (List.take s5.length
  (List.drop (0 : Nat) s5)))
  x0 x1 x2).ha))).length :
  Int))
  (List.take
  (stepO
  (Ses.mk s0
  (List.take s1.length
  (List.drop (0 : Nat) s1))
  s2
  (List.take s3.length
  (List.drop (0 : Nat) s3))
  (List.take s4.length
  (List.drop (0 : Nat) s4))
  (List.take s5.length
  (List.drop (0 : Nat) s5)))
  x0 x1 x2).w.length
  (List.drop (0 : Nat)
  (nilT
  ((Cd.int IntKind.i64).pair
  ((Cd.int IntKind.i64).pair
  (Cd.str.pair Cd.unit))).den ++
  marks markPacket1 (3 : Int)
  ((1 : Int) +
  (1 : Int) *
  (↑(stepO
  (Ses.mk s0
  (List.take s1.length
  (List.drop (0 : Nat)
  s1))
  s2
  (List.take s3.length
  (List.drop (0 : Nat)
  s3))
  (List.take s4.length
  (List.drop (0 : Nat)
  s4))
  (List.take s5.length
  (List.drop (0 : Nat)
  s5)))
  x0 x1 x2).it.length :
  Int) +
  (1 : Int) *
  (↑(stepO
  (Ses.mk s0
  (List.take s1.length
  (List.drop (0 : Nat)
  s1))
  s2
  (List.take s3.length
  (List.drop (0 : Nat)
  s3))
  (List.take s4.length
  (List.drop (0 : Nat)
  s4))
  (List.take s5.length
  (List.drop (0 : Nat)
  s5)))
  x0 x1 x2).ha.length :
  Int))
  (stepO
  (Ses.mk s0
  (List.take s1.length
  (List.drop (0 : Nat) s1))
  s2
  (List.take s3.length
  (List.drop (0 : Nat) s3))
  (List.take s4.length
  (List.drop (0 : Nat) s4))
  (List.take s5.length
  (List.drop (0 : Nat) s5)))
  x0 x1 x2).w.length ++
  List.drop
  ((0 : Nat) +
  (stepO
  (Ses.mk s0
  (List.take s1.length
  (List.drop (0 : Nat) s1))
  s2
  (List.take s3.length
  (List.drop (0 : Nat) s3))
  (List.take s4.length
  (List.drop (0 : Nat) s4))
  (List.take s5.length
  (List.drop (0 : Nat) s5)))
  x0 x1 x2).w.length)
  (stepO
  (Ses.mk s0
  (List.take s1.length
  (List.drop (0 : Nat) s1))
  s2
  (List.take s3.length
  (List.drop (0 : Nat) s3))
  (List.take s4.length
  (List.drop (0 : Nat) s4))
  (List.take s5.length
  (List.drop (0 : Nat) s5)))
  x0 x1 x2).w))).length ∧
  List.take
  (stepO
  (Ses.mk s0
  (List.take s1.length (List.drop (0 : Nat) s1))
  s2
  (List.take s3.length (List.drop (0 : Nat) s3))
  (List.take s4.length (List.drop (0 : Nat) s4))
  (List.take s5.length
  (List.drop (0 : Nat) s5)))
  x0 x1 x2).a.length
  (List.drop (0 : Nat)
  (nilT
  ((Cd.int IntKind.i64).pair
  ((Cd.int IntKind.i64).pair
  Cd.unit)).den ++
  marks markAck1 (2 : Int)
  ((1 : Int) +
  (1 : Int) *
  (↑(stepO
  (Ses.mk s0
  (List.take s1.length
  (List.drop (0 : Nat)
  s1))
  s2
  (List.take s3.length
  (List.drop (0 : Nat)
  s3))
  (List.take s4.length
  (List.drop (0 : Nat)
  s4))
  (List.take s5.length
  (List.drop (0 : Nat)
  s5)))
  x0 x1 x2).it.length :
  Int) +
  (1 : Int) *
  (↑(stepO
  (Ses.mk s0
  (List.take s1.length
  (List.drop (0 : Nat) s1))
  s2
  (List.take s3.length
  (List.drop (0 : Nat) s3))
  (List.take s4.length
  (List.drop (0 : Nat) s4))
  (List.take s5.length
  (List.drop (0 : Nat) s5)))
  x0 x1 x2).ha.length :
  Int) +
  (3 : Int) *
  (↑(stepO
  (Ses.mk s0
  (List.take s1.length
  (List.drop (0 : Nat) s1))
  s2
  (List.take s3.length
  (List.drop (0 : Nat) s3))
  (List.take s4.length
  (List.drop (0 : Nat) s4))
  (List.take s5.length
  (List.drop (0 : Nat) s5)))
  x0 x1 x2).w.length :
  Int))
  (stepO
  (Ses.mk s0
  (List.take s1.length
  (List.drop (0 : Nat) s1))
  s2
  (List.take s3.length
  (List.drop (0 : Nat) s3))
  (List.take s4.length
  (List.drop (0 : Nat) s4))
  (List.take s5.length
  (List.drop (0 : Nat) s5)))
  x0 x1 x2).a.length ++
  List.drop
  ((0 : Nat) +
  (stepO
  (Ses.mk s0
  (List.take s1.length
  (List.drop (0 : Nat) s1))
  s2
  (List.take s3.length
  (List.drop (0 : Nat) s3))
  (List.take s4.length
  (List.drop (0 : Nat) s4))
  (List.take s5.length
  (List.drop (0 : Nat) s5)))
  x0 x1 x2).a.length)
  (stepO
  (Ses.mk s0
  (List.take s1.length
  (List.drop (0 : Nat) s1))
  s2
  (List.take s3.length
  (List.drop (0 : Nat) s3))
  (List.take s4.length
  (List.drop (0 : Nat) s4))
  (List.take s5.length
  (List.drop (0 : Nat) s5)))
  x0 x1 x2).a)) =
  marks markAck1 (2 : Int)
  ((1 : Int) +
  (1 : Int) *
  (↑(List.take
  (stepO
  (Ses.mk s0
  (List.take s1.length
  (List.drop (0 : Nat) s1))
  s2
  (List.take s3.length
  (List.drop (0 : Nat) s3))
  (List.take s4.length
  (List.drop (0 : Nat) s4))
  (List.take s5.length
  (List.drop (0 : Nat) s5)))
  x0 x1 x2).it.length
  (List.drop (0 : Nat)
  (nilT Cd.str.den ++
  marks markStr1 (1 : Int)
  (1 : Int)
  (stepO
  (Ses.mk s0
  (List.take s1.length
  (List.drop (0 : Nat)
  s1))
  s2
  (List.take s3.length
  (List.drop (0 : Nat)
  s3))
  (List.take s4.length
  (List.drop (0 : Nat)
  s4))
  (List.take s5.length
  (List.drop (0 : Nat)
  s5)))
  x0 x1 x2).it.length ++
  List.drop
  ((0 : Nat) +
  (stepO
  (Ses.mk s0
  (List.take s1.length
  (List.drop (0 : Nat)
  s1))
  s2
  (List.take s3.length
  (List.drop (0 : Nat)
  s3))
  (List.take s4.length
  (List.drop (0 : Nat)
  s4))
  (List.take s5.length
  (List.drop (0 : Nat)
  s5)))
  x0 x1 x2).it.length)
  (stepO
  (Ses.mk s0
  (List.take s1.length
  (List.drop (0 : Nat)
  s1))
  s2
  (List.take s3.length
  (List.drop (0 : Nat)
  s3))
  (List.take s4.length
  (List.drop (0 : Nat)
  s4))
  (List.take s5.length
  (List.drop (0 : Nat)
  s5)))
  x0 x1 x2).it))).length :
  Int) +
  (1 : Int) *
  (↑(List.take
  (stepO
  (Ses.mk s0
  (List.take s1.length
  (List.drop (0 : Nat) s1))
  s2
  (List.take s3.length
  (List.drop (0 : Nat) s3))
  (List.take s4.length
  (List.drop (0 : Nat) s4))
  (List.take s5.length
  (List.drop (0 : Nat) s5)))
  x0 x1 x2).ha.length
  (List.drop (0 : Nat)
  (nilT Cd.str.den ++
  marks markStr1 (1 : Int)
  ((1 : Int) +
  (1 : Int) *
  (↑(stepO
  (Ses.mk s0
  (List.take
  s1.length
  (List.drop
  (0 : Nat)
  s1))
  s2
  (List.take
  s3.length
  (List.drop
  (0 : Nat)
  s3))
  (List.take
  s4.length
  (List.drop
  (0 : Nat)
  s4))
  (List.take
  s5.length
  (List.drop
  (0 : Nat)
  s5)))
  x0 x1
  x2).it.length :
  Int))
  (stepO
  (Ses.mk s0
  (List.take s1.length
  (List.drop (0 : Nat)
  s1))
  s2
  (List.take s3.length
  (List.drop (0 : Nat)
  s3))
  (List.take s4.length
  (List.drop (0 : Nat)
  s4))
  (List.take s5.length
  (List.drop (0 : Nat)
  s5)))
  x0 x1 x2).ha.length ++
  List.drop
  ((0 : Nat) +
  (stepO
  (Ses.mk s0
  (List.take s1.length
  (List.drop (0 : Nat)
  s1))
  s2
  (List.take s3.length
  (List.drop (0 : Nat)
  s3))
  (List.take s4.length
  (List.drop (0 : Nat)
  s4))
  (List.take s5.length
  (List.drop (0 : Nat)
  s5)))
  x0 x1 x2).ha.length)
  (stepO
  (Ses.mk s0
  (List.take s1.length
  (List.drop (0 : Nat) s1))
  s2
  (List.take s3.length
  (List.drop (0 : Nat) s3))
  (List.take s4.length
  (List.drop (0 : Nat) s4))
  (List.take s5.length
  (List.drop (0 : Nat) s5)))
  x0 x1 x2).ha))).length :
  Int) +
  (3 : Int) *
  (↑(List.take
  (stepO
  (Ses.mk s0
  (List.take s1.length
  (List.drop (0 : Nat) s1))
  s2
  (List.take s3.length
  (List.drop (0 : Nat) s3))
  (List.take s4.length
  (List.drop (0 : Nat) s4))
  (List.take s5.length
  (List.drop (0 : Nat) s5)))
  x0 x1 x2).w.length
  (List.drop (0 : Nat)
  (nilT
  ((Cd.int IntKind.i64).pair
  ((Cd.int IntKind.i64).pair
  (Cd.str.pair
  Cd.unit))).den ++
  marks markPacket1 (3 : Int)
  ((1 : Int) +
  (1 : Int) *
  (↑(stepO
  (Ses.mk s0
  (List.take
  s1.length
  (List.drop
  (0 : Nat)
  s1))
  s2
  (List.take
  s3.length
  (List.drop
  (0 : Nat)
  s3))
  (List.take
  s4.length
  (List.drop
  (0 : Nat)
  s4))
  (List.take
  s5.length
  (List.drop
  (0 : Nat)
  s5)))
  x0 x1
  x2).it.length :
  Int) +
  (1 : Int) *
  (↑(stepO
  (Ses.mk s0
  (List.take
  s1.length
  (List.drop
  (0 : Nat) s1))
  s2
  (List.take
  s3.length
  (List.drop
  (0 : Nat) s3))
  (List.take
  s4.length
  (List.drop
  (0 : Nat) s4))
  (List.take
  s5.length
  (List.drop
  (0 : Nat)
  s5)))
  x0 x1
  x2).ha.length :
  Int))
  (stepO
  (Ses.mk s0
  (List.take s1.length
  (List.drop (0 : Nat)
  s1))
  s2
  (List.take s3.length
  (List.drop (0 : Nat)
  s3))
  (List.take s4.length
  (List.drop (0 : Nat)
  s4))
  (List.take s5.length
  (List.drop (0 : Nat)
  s5)))
  x0 x1 x2).w.length ++
  List.drop
  ((0 : Nat) +
  (stepO
  (Ses.mk s0
  (List.take s1.length
  (List.drop (0 : Nat)
  s1))
  s2
  (List.take s3.length
  (List.drop (0 : Nat)
  s3))
  (List.take s4.length
  (List.drop (0 : Nat)
  s4))
  (List.take s5.length
  (List.drop (0 : Nat)
  s5)))
  x0 x1 x2).w.length)
  (stepO
  (Ses.mk s0
  (List.take s1.length
  (List.drop (0 : Nat) s1))
  s2
  (List.take s3.length
  (List.drop (0 : Nat) s3))
  (List.take s4.length
  (List.drop (0 : Nat) s4))
  (List.take s5.length
  (List.drop (0 : Nat) s5)))
  x0 x1 x2).w))).length :
  Int))
  (List.take
  (stepO
  (Ses.mk s0
  (List.take s1.length
  (List.drop (0 : Nat) s1))
  s2
  (List.take s3.length
  (List.drop (0 : Nat) s3))
  (List.take s4.length
  (List.drop (0 : Nat) s4))
  (List.take s5.length
  (List.drop (0 : Nat) s5)))
  x0 x1 x2).a.length
  (List.drop (0 : Nat)
  (nilT
  ((Cd.int IntKind.i64).pair
  ((Cd.int IntKind.i64).pair
  Cd.unit)).den ++
  marks markAck1 (2 : Int)
  ((1 : Int) +
  (1 : Int) *
  (↑(stepO
  (Ses.mk s0
  (List.take s1.length
  (List.drop (0 : Nat)
  s1))
  s2
  (List.take s3.length
  (List.drop (0 : Nat)
  s3))
  (List.take s4.length
  (List.drop (0 : Nat)
  s4))
  (List.take s5.length
  (List.drop (0 : Nat)
  s5)))
  x0 x1 x2).it.length :
  Int) +
  (1 : Int) *
  (↑(stepO
  (Ses.mk s0
  (List.take s1.length
  (List.drop (0 : Nat)
  s1))
  s2
  (List.take s3.length
  (List.drop (0 : Nat)
  s3))
  (List.take s4.length
  (List.drop (0 : Nat)
  s4))
  (List.take s5.length
  (List.drop (0 : Nat)
  s5)))
  x0 x1 x2).ha.length :
  Int) +
  (3 : Int) *
  (↑(stepO
  (Ses.mk s0
  (List.take s1.length
  (List.drop (0 : Nat)
  s1))
  s2
  (List.take s3.length
  (List.drop (0 : Nat)
  s3))
  (List.take s4.length
  (List.drop (0 : Nat)
  s4))
  (List.take s5.length
  (List.drop (0 : Nat)
  s5)))
  x0 x1 x2).w.length :
  Int))
  (stepO
  (Ses.mk s0
  (List.take s1.length
  (List.drop (0 : Nat) s1))
  s2
  (List.take s3.length
  (List.drop (0 : Nat) s3))
  (List.take s4.length
  (List.drop (0 : Nat) s4))
  (List.take s5.length
  (List.drop (0 : Nat) s5)))
  x0 x1 x2).a.length ++
  List.drop
  ((0 : Nat) +
  (stepO
  (Ses.mk s0
  (List.take s1.length
  (List.drop (0 : Nat) s1))
  s2
  (List.take s3.length
  (List.drop (0 : Nat) s3))
  (List.take s4.length
  (List.drop (0 : Nat) s4))
  (List.take s5.length
  (List.drop (0 : Nat) s5)))
  x0 x1 x2).a.length)
  (stepO
  (Ses.mk s0
  (List.take s1.length
  (List.drop (0 : Nat) s1))
  s2
  (List.take s3.length
  (List.drop (0 : Nat) s3))
  (List.take s4.length
  (List.drop (0 : Nat) s4))
  (List.take s5.length
  (List.drop (0 : Nat) s5)))
  x0 x1 x2).a))).length))
  (ifB
  ((1 : Int) +
  (1 : Int) *
  (↑(List.take
  (stepO
  (Ses.mk s0
  (List.take s1.length
  (List.drop (0 : Nat) s1))
  s2
  (List.take s3.length
  (List.drop (0 : Nat) s3))
  (List.take s4.length
  (List.drop (0 : Nat) s4))
  (List.take s5.length
  (List.drop (0 : Nat) s5)))
  x0 x1 x2).it.length
  (List.drop (0 : Nat)
  (nilT Cd.str.den ++
  marks markStr1 (1 : Int) (1 : Int)
  (stepO
  (Ses.mk s0
  (List.take s1.length
  (List.drop (0 : Nat) s1))
  s2
  (List.take s3.length
  (List.drop (0 : Nat) s3))
  (List.take s4.length
  (List.drop (0 : Nat) s4))
  (List.take s5.length
  (List.drop (0 : Nat) s5)))
  x0 x1 x2).it.length ++
  List.drop
  ((0 : Nat) +
  (stepO
  (Ses.mk s0
  (List.take s1.length
  (List.drop (0 : Nat) s1))
  s2
  (List.take s3.length
  (List.drop (0 : Nat) s3))
  (List.take s4.length
  (List.drop (0 : Nat) s4))
  (List.take s5.length
  (List.drop (0 : Nat) s5)))
  x0 x1 x2).it.length)
  (stepO
  (Ses.mk s0
  (List.take s1.length
  (List.drop (0 : Nat) s1))
  s2
  (List.take s3.length
  (List.drop (0 : Nat) s3))
  (List.take s4.length
  (List.drop (0 : Nat) s4))
  (List.take s5.length
  (List.drop (0 : Nat) s5)))
  x0 x1 x2).it))).length :
  Int) +
  (1 : Int) *
  (↑(List.take
  (stepO
  (Ses.mk s0
  (List.take s1.length
  (List.drop (0 : Nat) s1))
  s2
  (List.take s3.length
  (List.drop (0 : Nat) s3))
  (List.take s4.length
  (List.drop (0 : Nat) s4))
  (List.take s5.length
  (List.drop (0 : Nat) s5)))
  x0 x1 x2).ha.length
  (List.drop (0 : Nat)
  (nilT Cd.str.den ++
  marks markStr1 (1 : Int)
  ((1 : Int) +
  (1 : Int) *
  (↑(stepO
  (Ses.mk s0
  (List.take s1.length
  (List.drop (0 : Nat)
  s1))
  s2
  (List.take s3.length
  (List.drop (0 : Nat)
  s3))
  (List.take s4.length
  (List.drop (0 : Nat)
  s4))
  (List.take s5.length
  (List.drop (0 : Nat)
  s5)))
  x0 x1 x2).it.length :
  Int))
  (stepO
  (Ses.mk s0
  (List.take s1.length
  (List.drop (0 : Nat) s1))
  s2
  (List.take s3.length
  (List.drop (0 : Nat) s3))
  (List.take s4.length
  (List.drop (0 : Nat) s4))
  (List.take s5.length
  (List.drop (0 : Nat) s5)))
  x0 x1 x2).ha.length ++
  List.drop
  ((0 : Nat) +
  (stepO
  (Ses.mk s0
  (List.take s1.length
  (List.drop (0 : Nat) s1))
  s2
  (List.take s3.length
  (List.drop (0 : Nat) s3))
  (List.take s4.length
  (List.drop (0 : Nat) s4))
  (List.take s5.length
  (List.drop (0 : Nat) s5)))
  x0 x1 x2).ha.length)
  (stepO
  (Ses.mk s0
  (List.take s1.length
  (List.drop (0 : Nat) s1))
  s2
  (List.take s3.length
  (List.drop (0 : Nat) s3))
  (List.take s4.length
  (List.drop (0 : Nat) s4))
  (List.take s5.length
  (List.drop (0 : Nat) s5)))
  x0 x1 x2).ha))).length :
  Int) +
  (3 : Int) *
  (↑(List.take
  (stepO
  (Ses.mk s0
  (List.take s1.length
  (List.drop (0 : Nat) s1))
  s2
  (List.take s3.length
  (List.drop (0 : Nat) s3))
  (List.take s4.length
  (List.drop (0 : Nat) s4))
  (List.take s5.length
  (List.drop (0 : Nat) s5)))
  x0 x1 x2).w.length
  (List.drop (0 : Nat)
  (nilT
  ((Cd.int IntKind.i64).pair
  ((Cd.int IntKind.i64).pair
  (Cd.str.pair Cd.unit))).den ++
  marks markPacket1 (3 : Int)
  ((1 : Int) +
  (1 : Int) *
  (↑(stepO
  (Ses.mk s0
  (List.take s1.length
  (List.drop (0 : Nat)
  s1))
  s2
  (List.take s3.length
  (List.drop (0 : Nat)
  s3))
  (List.take s4.length
  (List.drop (0 : Nat)
  s4))
  (List.take s5.length
  (List.drop (0 : Nat)
  s5)))
  x0 x1 x2).it.length :
  Int) +
  (1 : Int) *
  (↑(stepO
  (Ses.mk s0
  (List.take s1.length
  (List.drop (0 : Nat)
  s1))
  s2
  (List.take s3.length
  (List.drop (0 : Nat)
  s3))
  (List.take s4.length
  (List.drop (0 : Nat)
  s4))
  (List.take s5.length
  (List.drop (0 : Nat)
  s5)))
  x0 x1 x2).ha.length :
  Int))
  (stepO
  (Ses.mk s0
  (List.take s1.length
  (List.drop (0 : Nat) s1))
  s2
  (List.take s3.length
  (List.drop (0 : Nat) s3))
  (List.take s4.length
  (List.drop (0 : Nat) s4))
  (List.take s5.length
  (List.drop (0 : Nat) s5)))
  x0 x1 x2).w.length ++
  List.drop
  ((0 : Nat) +
  (stepO
  (Ses.mk s0
  (List.take s1.length
  (List.drop (0 : Nat) s1))
  s2
  (List.take s3.length
  (List.drop (0 : Nat) s3))
  (List.take s4.length
  (List.drop (0 : Nat) s4))
  (List.take s5.length
  (List.drop (0 : Nat) s5)))
  x0 x1 x2).w.length)
  (stepO
  (Ses.mk s0
  (List.take s1.length
  (List.drop (0 : Nat) s1))
  s2
  (List.take s3.length
  (List.drop (0 : Nat) s3))
  (List.take s4.length
  (List.drop (0 : Nat) s4))
  (List.take s5.length
  (List.drop (0 : Nat) s5)))
  x0 x1 x2).w))).length :
  Int) +
  (2 : Int) *
  (↑(List.take
  (stepO
  (Ses.mk s0
  (List.take s1.length
  (List.drop (0 : Nat) s1))
  s2
  (List.take s3.length
  (List.drop (0 : Nat) s3))
  (List.take s4.length
  (List.drop (0 : Nat) s4))
  (List.take s5.length
  (List.drop (0 : Nat) s5)))
  x0 x1 x2).a.length
  (List.drop (0 : Nat)
  (nilT
  ((Cd.int IntKind.i64).pair
  ((Cd.int IntKind.i64).pair
  Cd.unit)).den ++
  marks markAck1 (2 : Int)
  ((1 : Int) +
  (1 : Int) *
  (↑(stepO
  (Ses.mk s0
  (List.take s1.length
  (List.drop (0 : Nat)
  s1))
  s2
  (List.take s3.length
  (List.drop (0 : Nat)
  s3))
  (List.take s4.length
  (List.drop (0 : Nat)
  s4))
  (List.take s5.length
  (List.drop (0 : Nat)
  s5)))
  x0 x1 x2).it.length :
  Int) +
  (1 : Int) *
  (↑(stepO
  (Ses.mk s0
  (List.take s1.length
  (List.drop (0 : Nat)
  s1))
  s2
  (List.take s3.length
  (List.drop (0 : Nat)
  s3))
  (List.take s4.length
  (List.drop (0 : Nat)
  s4))
  (List.take s5.length
  (List.drop (0 : Nat)
  s5)))
  x0 x1 x2).ha.length :
  Int) +
  (3 : Int) *
  (↑(stepO
  (Ses.mk s0
  (List.take s1.length
  (List.drop (0 : Nat)
  s1))
  s2
  (List.take s3.length
  (List.drop (0 : Nat)
  s3))
  (List.take s4.length
  (List.drop (0 : Nat)
  s4))
  (List.take s5.length
  (List.drop (0 : Nat)
  s5)))
  x0 x1 x2).w.length :
  Int))
  (stepO
  (Ses.mk s0
  (List.take s1.length
  (List.drop (0 : Nat) s1))
  s2
  (List.take s3.length
  (List.drop (0 : Nat) s3))
  (List.take s4.length
  (List.drop (0 : Nat) s4))
  (List.take s5.length
  (List.drop (0 : Nat) s5)))
  x0 x1 x2).a.length ++
  List.drop
  ((0 : Nat) +
  (stepO
  (Ses.mk s0
  (List.take s1.length
  (List.drop (0 : Nat) s1))
  s2
  (List.take s3.length
  (List.drop (0 : Nat) s3))
  (List.take s4.length
  (List.drop (0 : Nat) s4))
  (List.take s5.length
  (List.drop (0 : Nat) s5)))
  x0 x1 x2).a.length)
  (stepO
  (Ses.mk s0
  (List.take s1.length
  (List.drop (0 : Nat) s1))
  s2
  (List.take s3.length
  (List.drop (0 : Nat) s3))
  (List.take s4.length
  (List.drop (0 : Nat) s4))
  (List.take s5.length
  (List.drop (0 : Nat) s5)))
  x0 x1 x2).a))).length :
  Int) !=
  (1 : Int) +
  (1 : Int) *
  (↑(stepO
  (Ses.mk s0
  (List.take s1.length
  (List.drop (0 : Nat) s1))
  s2
  (List.take s3.length
  (List.drop (0 : Nat) s3))
  (List.take s4.length
  (List.drop (0 : Nat) s4))
  (List.take s5.length
  (List.drop (0 : Nat) s5)))
  x0 x1 x2).it.length :
  Int) +
  (1 : Int) *
  (↑(stepO
  (Ses.mk s0
  (List.take s1.length
  (List.drop (0 : Nat) s1))
  s2
  (List.take s3.length
  (List.drop (0 : Nat) s3))
  (List.take s4.length
  (List.drop (0 : Nat) s4))
  (List.take s5.length
  (List.drop (0 : Nat) s5)))
  x0 x1 x2).ha.length :
  Int) +
  (3 : Int) *
  (↑(stepO
  (Ses.mk s0
  (List.take s1.length
  (List.drop (0 : Nat) s1))
  s2
  (List.take s3.length
  (List.drop (0 : Nat) s3))
  (List.take s4.length
  (List.drop (0 : Nat) s4))
  (List.take s5.length
  (List.drop (0 : Nat) s5)))
  x0 x1 x2).w.length :
  Int) +
  (2 : Int) *
  (↑(stepO
  (Ses.mk s0
  (List.take s1.length (List.drop (0 : Nat) s1))
  s2
  (List.take s3.length (List.drop (0 : Nat) s3))
  (List.take s4.length (List.drop (0 : Nat) s4))
  (List.take s5.length
  (List.drop (0 : Nat) s5)))
  x0 x1 x2).a.length :
  Int))
  (some (V.b false, [])) (some (V.b true, [])))
  (some (V.b false, [])))))))))
  (some (V.b false, [])))))))))))))))))))))) : _) := by kernel_rfl
  rw [e, ifT_true (decide_eq_true ⟨by omega, by unfold lim; omega, h1, h3, h4⟩)]
  clear e
  by_cases q : (((((1048576 : Int) - (↑s1.length : Int) - szStrsW s1) - (↑s3.length : Int) - szStrsW s3) - (↑s4.length : Int) - szPacketsW s4) - (↑s5.length : Int)) < 0
  · simp [q]
  have w1 := szStrsW_nonneg s1
  have w3 := szStrsW_nonneg s3
  have w4 := szPacketsW_nonneg s4
  have l1 : s1.length ≤ 1000000000 := by omega
  have l3 : s3.length ≤ 1000000000 := by omega
  have l4 : s4.length ≤ 1000000000 := by omega
  have l5 : s5.length ≤ 1000000000 := by omega
  have m3 : (↑s3.length : Int) ≤ lim := by unfold lim; omega
  have l135 : s1.length + s3.length + s4.length + s5.length ≤ 1048576 := by omega
  obtain ⟨n1, n3, n4, n5⟩ := stepO_len (Ses.mk s0 s1 s2 s3 s4 s5) x0 x1 x2
  dsimp only at n1 n3 n4 n5
  simp only [List.drop_zero, List.take_length, List.take_zero, List.nil_append, Nat.zero_add, List.drop_length, List.append_nil]
  generalize stepO (Ses.mk s0 s1 s2 s3 s4 s5) x0 x1 x2 = t at *
  have e6 : ∀ (k : Int) (n : Nat), List.take n (marks markStr1 1 k n) = marks markStr1 1 k n := fun k n => List.take_of_length_le (by rw [marks_length]; exact Nat.le_refl _)
  have e7 : ∀ (k : Int) (n : Nat), List.take n (marks markPacket1 3 k n) = marks markPacket1 3 k n := fun k n => List.take_of_length_le (by rw [marks_length]; exact Nat.le_refl _)
  have e8 : ∀ (k : Int) (n : Nat), List.take n (marks markAck1 2 k n) = marks markAck1 2 k n := fun k n => List.take_of_length_le (by rw [marks_length]; exact Nat.le_refl _)
  simp only [e6, e7, e8, marks_length]
  by_cases qx : (((((1048576 : Int) - (↑s1.length : Int) - szStrsW s1) - (↑s3.length : Int) - szStrsW s3) - (↑s4.length : Int) - szPacketsW s4) - (↑s5.length : Int)) - (↑x2.length : Int) < 0
  · simp [q, qx, hx, lim]; omega
  have hlim : lim = 1000000000000 := rfl
  simp [q, qx, l1, l3, l4, l5, m3, hx]
  rw [hlim]
  omega
theorem law_loops : LoopsOk Try.prog (look [(9, .rd1 szSessionG), (43, .rd1 szSesStepG), (44, .rd1 specStepG), (11, .rd1 toSessionG), (45, .rd1 toSesStepG), (46, .rd1 implStepG), (14, .rd1 eqSessionG), (15, .own markSessionG), (41, .rd1 heldSessionG)]) (look []) 0 (Try.f8.body.getD .skip) := loopsOk_nil _
end Go.Proofs.Ytpoepgnhdhpkjaa.Den
