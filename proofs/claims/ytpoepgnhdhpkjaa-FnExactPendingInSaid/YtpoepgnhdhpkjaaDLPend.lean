/- What functions of the program do, by the machine: LPend. -/
import Derived.Test.YtpoepgnhdhpkjaaDPend
import Derived.KernelRfl
import Derived.Test.YtpoepgnhdhpkjaaRows
namespace Go.Proofs.Ytpoepgnhdhpkjaa.Den
open Go.Proofs
set_option maxRecDepth 100000
theorem marks_length {α : Type} (g : Int → α) (st : Int) : ∀ (k : Int) (n : Nat), (marks g st k n).length = n
  | _, 0 => rfl
  | k, n + 1 => by simp [marks, marks_length g st (k + st) n]
theorem law_knows : Knows Try.prog (look [(9, .rd1 szSessionG), (10, .rd1 specPendG), (11, .rd1 toSessionG), (12, .rd1 implPendG), (13, .rd1 eqStrsG), (14, .rd1 eqSessionG), (15, .own markSessionG), (16, .own markStrG), (17, .rd1 heldStrG)]) := KnowsL.knows (KnowsL.cons (enters_fn Try.func9 (by kernel_rfl) (by kernel_rfl)) szSession (KnowsL.cons (enters_fn Try.func10 (by kernel_rfl) (by kernel_rfl)) specPend (KnowsL.cons (enters_fn Try.func11 (by kernel_rfl) (by kernel_rfl)) toSession (KnowsL.cons (enters_fn Try.func12 (by kernel_rfl) (by kernel_rfl)) implPend (KnowsL.cons (enters_fn Try.func13 (by kernel_rfl) (by kernel_rfl)) eqStrs (KnowsL.cons (enters_fn Try.func14 (by kernel_rfl) (by kernel_rfl)) eqSession (KnowsL.cons (enters_fn Try.func15 (by kernel_rfl) (by kernel_rfl)) markSession (KnowsL.cons (enters_fn Try.func16 (by kernel_rfl) (by kernel_rfl)) markStr (KnowsL.cons (enters_fn Try.func17 (by kernel_rfl) (by kernel_rfl)) heldStr KnowsL.nil)))))))))
theorem law_fun (s0 : Int) (s1 : List (List UInt8)) (s2 : Int) (s3 : List (List UInt8)) (s4 : List (Int × Int × List UInt8 × Unit)) (s5 : List (Int × Int × Unit)) (h1 : ∀ z ∈ s1, z.length ≤ maxI) (h3 : ∀ z ∈ s3, z.length ≤ maxI) (h4 : ∀ z ∈ s4, z.2.2.1.length ≤ maxI) : funK Try.prog (look [(9, .rd1 szSessionG), (10, .rd1 specPendG), (11, .rd1 toSessionG), (12, .rd1 implPendG), (13, .rd1 eqStrsG), (14, .rd1 eqSessionG), (15, .own markSessionG), (16, .own markStrG), (17, .rd1 heldStrG)]) (look []) Try.f3 [.agg [.i .i64 s0, .sl .str s1, .i .i64 s2, .sl .str s3, .sl (.pair (.int .i64) (.pair (.int .i64) (.pair .str .unit))) s4, .sl (.pair (.int .i64) (.pair (.int .i64) .unit)) s5]] [] = some (.b true, []) := by
  have e : funK Try.prog (look [(9, .rd1 szSessionG), (10, .rd1 specPendG), (11, .rd1 toSessionG), (12, .rd1 implPendG), (13, .rd1 eqStrsG), (14, .rd1 eqSessionG), (15, .own markSessionG), (16, .own markStrG), (17, .rd1 heldStrG)]) (look []) Try.f3 [.agg [.i .i64 s0, .sl .str s1, .i .i64 s2, .sl .str s3, .sl (.pair (.int .i64) (.pair (.int .i64) (.pair .str .unit))) s4, .sl (.pair (.int .i64) (.pair (.int .i64) .unit)) s5]] [] = ((ifT
    (decide
      ((0 : Int) ≤ (1048576 : Int) ∧
        (1048576 : Int) ≤ lim ∧
          (∀ (z : Cd.str.den), z ∈ s1 → List.length z ≤ maxI) ∧
            (∀ (z : Cd.str.den), z ∈ s3 → List.length z ≤ maxI) ∧
              ∀ (z : ((Cd.int IntKind.i64).pair ((Cd.int IntKind.i64).pair (Cd.str.pair Cd.unit))).den),
                z ∈ s4 → List.length z.snd.snd.fst ≤ maxI))
    (ifB
      (decide
        ((1048576 : Int) - (↑s1.length : Int) - szStrsW s1 - (↑s3.length : Int) - szStrsW s3 - (↑s4.length : Int) -
              szPacketsW s4 -
            (↑s5.length : Int) <
          (0 : Int)))
      (some (V.b true, []))
      (ifB
        (decide
          ((1048576 : Int) - (↑s1.length : Int) - szStrsW s1 - (↑s3.length : Int) - szStrsW s3 - (↑s4.length : Int) -
                szPacketsW s4 -
              (↑s5.length : Int) <
            (0 : Int)))
        (some (V.b true, []))
        (ifT
          (decide
            (s1.length ≤ (1000000000 : Nat) ∧
              s3.length ≤ (1000000000 : Nat) ∧ s4.length ≤ (1000000000 : Nat) ∧ s5.length ≤ (1000000000 : Nat)))
          (ifT (decide ((↑(List.take s3.length (List.drop (0 : Nat) s3)).length : Int) ≤ lim))
            (ifB
              (goodS s0 (List.take s1.length (List.drop (0 : Nat) s1)) s2 (List.take s3.length (List.drop (0 : Nat) s3))
                (List.take s4.length (List.drop (0 : Nat) s4)) (List.take s5.length (List.drop (0 : Nat) s5)))
              (ifT
                (decide
                  (s1.length ≤ (1000000000 : Nat) ∧
                    s3.length ≤ (1000000000 : Nat) ∧ s4.length ≤ (1000000000 : Nat) ∧ s5.length ≤ (1000000000 : Nat)))
                (ifT (decide ((↑(List.take s3.length (List.drop (0 : Nat) s3)).length : Int) ≤ lim))
                  (ifB
                    (goodS s0 (List.take s1.length (List.drop (0 : Nat) s1)) s2
                      (List.take s3.length (List.drop (0 : Nat) s3)) (List.take s4.length (List.drop (0 : Nat) s4))
                      (List.take s5.length (List.drop (0 : Nat) s5)))
                    (ifB
                      (!decide
                          (List.take
                              ((List.take s1.length (List.drop (0 : Nat) s1)).length -
                                (List.take s3.length (List.drop (0 : Nat) s3)).length)
                              (List.drop (0 : Nat)
                                (List.drop (List.take s3.length (List.drop (0 : Nat) s3)).length
                                  (List.take s1.length (List.drop (0 : Nat) s1)))) =
                            List.take
                              ((List.take s1.length (List.drop (0 : Nat) s1)).length -
                                (List.take s3.length (List.drop (0 : Nat) s3)).length)
                              (List.drop (0 : Nat)
                                (List.drop (List.take s3.length (List.drop (0 : Nat) s3)).length
                                  (List.take s1.length (List.drop (0 : Nat) s1))))))
                      (some (V.b false, []))
                      (ifT
                        (decide
                          (s1.length ≤ (1000000000 : Nat) ∧
                            s3.length ≤ (1000000000 : Nat) ∧
                              s4.length ≤ (1000000000 : Nat) ∧ s5.length ≤ (1000000000 : Nat)))
                        (ifB
                          (!decide
                              (s0 = s0 ∧
                                List.take s1.length (List.drop (0 : Nat) s1) =
                                    List.take s1.length (List.drop (0 : Nat) s1) ∧
                                  s2 = s2 ∧
                                    List.take s3.length (List.drop (0 : Nat) s3) =
                                        List.take s3.length (List.drop (0 : Nat) s3) ∧
                                      List.take s4.length (List.drop (0 : Nat) s4) =
                                          List.take s4.length (List.drop (0 : Nat) s4) ∧
                                        List.take s5.length (List.drop (0 : Nat) s5) =
                                          List.take s5.length (List.drop (0 : Nat) s5)))
                          (some (V.b false, []))
                          (ifT
                            (decide
                              ((0 : Nat) + s1.length ≤ s1.length ∧
                                (0 : Nat) + s3.length ≤ s3.length ∧
                                  (0 : Nat) + s4.length ≤ s4.length ∧
                                    (0 : Nat) + s5.length ≤ s5.length ∧
                                      (0 : Int) ≤ (1 : Int) ∧
                                        (1 : Int) + (1 : Int) * (↑s1.length : Int) + (1 : Int) * (↑s3.length : Int) +
                                              (3 : Int) * (↑s4.length : Int) +
                                            (2 : Int) * (↑s5.length : Int) ≤
                                          lim))
                            (ifB
                              (!decide
                                  (List.take
                                      ((List.take s1.length (List.drop (0 : Nat) s1)).length -
                                        (List.take s3.length (List.drop (0 : Nat) s3)).length)
                                      (List.drop (0 : Nat)
                                        (List.drop (List.take s3.length (List.drop (0 : Nat) s3)).length
                                          (List.take s1.length (List.drop (0 : Nat) s1)))) =
                                    List.take
                                      ((List.take s1.length (List.drop (0 : Nat) s1)).length -
                                        (List.take s3.length (List.drop (0 : Nat) s3)).length)
                                      (List.drop (0 : Nat)
                                        (List.drop (List.take s3.length (List.drop (0 : Nat) s3)).length
                                          (List.take s1.length (List.drop (0 : Nat) s1))))))
                              (some (V.b false, []))
                              (ifT
                                (decide
                                  ((0 : Nat) +
                                        ((List.take s1.length (List.drop (0 : Nat) s1)).length -
                                          (List.take s3.length (List.drop (0 : Nat) s3)).length) ≤
                                      (List.drop (List.take s3.length (List.drop (0 : Nat) s3)).length
                                          (List.take s1.length (List.drop (0 : Nat) s1))).length ∧
                                    (0 : Int) ≤ (1 : Int) ∧
                                      (1 : Int) +
                                          (1 : Int) *
                                            (↑((List.take s1.length (List.drop (0 : Nat) s1)).length -
                                                  (List.take s3.length (List.drop (0 : Nat) s3)).length) :
                                              Int) ≤
                                        lim))
                                (ifT
                                  (decide
                                    ((0 : Int) ≤ (1 : Int) ∧
                                      (1 : Int) +
                                          (1 : Int) *
                                            (↑(List.take
                                                    ((List.take s1.length (List.drop (0 : Nat) s1)).length -
                                                      (List.take s3.length (List.drop (0 : Nat) s3)).length)
                                                    (List.drop (0 : Nat)
                                                      (List.take (0 : Nat)
                                                            (List.drop
                                                              (List.take s3.length (List.drop (0 : Nat) s3)).length
                                                              (List.take s1.length (List.drop (0 : Nat) s1))) ++
                                                          marks markStr1 (1 : Int) (1 : Int)
                                                            ((List.take s1.length (List.drop (0 : Nat) s1)).length -
                                                              (List.take s3.length (List.drop (0 : Nat) s3)).length) ++
                                                        List.drop
                                                          ((0 : Nat) +
                                                            ((List.take s1.length (List.drop (0 : Nat) s1)).length -
                                                              (List.take s3.length (List.drop (0 : Nat) s3)).length))
                                                          (List.drop (List.take s3.length (List.drop (0 : Nat) s3)).length
                                                            (List.take s1.length (List.drop (0 : Nat) s1)))))).length :
                                              Int) ≤
                                        lim))
                                  (ifB
                                    (decide
                                      (List.take
                                          ((List.take s1.length (List.drop (0 : Nat) s1)).length -
                                            (List.take s3.length (List.drop (0 : Nat) s3)).length)
                                          (List.drop (0 : Nat)
                                            (List.take (0 : Nat)
                                                  (List.drop (List.take s3.length (List.drop (0 : Nat) s3)).length
                                                    (List.take s1.length (List.drop (0 : Nat) s1))) ++
                                                marks markStr1 (1 : Int) (1 : Int)
                                                  ((List.take s1.length (List.drop (0 : Nat) s1)).length -
                                                    (List.take s3.length (List.drop (0 : Nat) s3)).length) ++
                                              List.drop
                                                ((0 : Nat) +
                                                  ((List.take s1.length (List.drop (0 : Nat) s1)).length -
                                                    (List.take s3.length (List.drop (0 : Nat) s3)).length))
                                                (List.drop (List.take s3.length (List.drop (0 : Nat) s3)).length
                                                  (List.take s1.length (List.drop (0 : Nat) s1))))) =
                                        marks markStr1 (1 : Int) (1 : Int)
                                          (List.take
                                              ((List.take s1.length (List.drop (0 : Nat) s1)).length -
                                                (List.take s3.length (List.drop (0 : Nat) s3)).length)
                                              (List.drop (0 : Nat)
                                                (List.take (0 : Nat)
                                                      (List.drop (List.take s3.length (List.drop (0 : Nat) s3)).length
                                                        (List.take s1.length (List.drop (0 : Nat) s1))) ++
                                                    marks markStr1 (1 : Int) (1 : Int)
                                                      ((List.take s1.length (List.drop (0 : Nat) s1)).length -
                                                        (List.take s3.length (List.drop (0 : Nat) s3)).length) ++
                                                  List.drop
                                                    ((0 : Nat) +
                                                      ((List.take s1.length (List.drop (0 : Nat) s1)).length -
                                                        (List.take s3.length (List.drop (0 : Nat) s3)).length))
                                                    (List.drop (List.take s3.length (List.drop (0 : Nat) s3)).length
                                                      (List.take s1.length (List.drop (0 : Nat) s1)))))).length))
                                    (ifB
                                      ((1 : Int) +
                                          (1 : Int) *
                                            (↑(List.take
                                                    ((List.take s1.length (List.drop (0 : Nat) s1)).length -
                                                      (List.take s3.length (List.drop (0 : Nat) s3)).length)
                                                    (List.drop (0 : Nat)
                                                      (List.take (0 : Nat)
                                                            (List.drop
                                                              (List.take s3.length (List.drop (0 : Nat) s3)).length
                                                              (List.take s1.length (List.drop (0 : Nat) s1))) ++
                                                          marks markStr1 (1 : Int) (1 : Int)
                                                            ((List.take s1.length (List.drop (0 : Nat) s1)).length -
                                                              (List.take s3.length (List.drop (0 : Nat) s3)).length) ++
                                                        List.drop
                                                          ((0 : Nat) +
                                                            ((List.take s1.length (List.drop (0 : Nat) s1)).length -
                                                              (List.take s3.length (List.drop (0 : Nat) s3)).length))
                                                          (List.drop (List.take s3.length (List.drop (0 : Nat) s3)).length
                                                            (List.take s1.length (List.drop (0 : Nat) s1)))))).length :
                                              Int) !=
                                        (1 : Int) +
                                          (1 : Int) *
                                            (↑((List.take s1.length (List.drop (0 : Nat) s1)).length -
                                                  (List.take s3.length (List.drop (0 : Nat) s3)).length) :
                                              Int))
                                      (some (V.b false, []))
                                      (ifT
                                        (decide
                                          (s1.length ≤ (1000000000 : Nat) ∧
                                            s3.length ≤ (1000000000 : Nat) ∧
                                              s4.length ≤ (1000000000 : Nat) ∧ s5.length ≤ (1000000000 : Nat)))
                                        (ifT
                                          (decide ((↑(List.take s3.length (List.drop (0 : Nat) s3)).length : Int) ≤ lim))
                                          (ifB
                                            (goodS s0 (List.take s1.length (List.drop (0 : Nat) s1)) s2
                                              (List.take s3.length (List.drop (0 : Nat) s3))
                                              (List.take s4.length (List.drop (0 : Nat) s4))
                                              (List.take s5.length (List.drop (0 : Nat) s5)))
                                            (ifB
                                              (!decide
                                                  (List.take
                                                      ((List.take s1.length (List.drop (0 : Nat) s1)).length -
                                                        (List.take s3.length (List.drop (0 : Nat) s3)).length)
                                                      (List.drop (0 : Nat)
                                                        (List.drop (List.take s3.length (List.drop (0 : Nat) s3)).length
                                                          (List.take s1.length (List.drop (0 : Nat) s1)))) =
                                                    List.take
                                                      ((List.take s1.length (List.drop (0 : Nat) s1)).length -
                                                        (List.take s3.length (List.drop (0 : Nat) s3)).length)
                                                      (List.drop (0 : Nat)
                                                        (List.drop (List.take s3.length (List.drop (0 : Nat) s3)).length
                                                          (List.take s1.length (List.drop (0 : Nat) s1))))))
                                              (some (V.b false, []))
                                              (ifT
                                                (decide
                                                  ((0 : Int) ≤ (1 : Int) ∧
                                                    (1 : Int) +
                                                        (1 : Int) *
                                                          (↑(List.take
                                                                  ((List.take s1.length (List.drop (0 : Nat) s1)).length -
                                                                    (List.take s3.length (List.drop (0 : Nat) s3)).length)
                                                                  (List.drop (0 : Nat)
                                                                    (List.take (0 : Nat)
                                                                          (List.drop
                                                                            (List.take s3.length
                                                                                (List.drop (0 : Nat) s3)).length
                                                                            (List.take s1.length
                                                                              (List.drop (0 : Nat) s1))) ++
                                                                        marks markStr1 (1 : Int) (1 : Int)
                                                                          ((List.take s1.length
                                                                                (List.drop (0 : Nat) s1)).length -
                                                                            (List.take s3.length
                                                                                (List.drop (0 : Nat) s3)).length) ++
                                                                      List.drop
                                                                        ((0 : Nat) +
                                                                          ((List.take s1.length
                                                                                (List.drop (0 : Nat) s1)).length -
                                                                            (List.take s3.length
                                                                                (List.drop (0 : Nat) s3)).length))
                                                                        (List.drop
                                                                          (List.take s3.length
                                                                              (List.drop (0 : Nat) s3)).length
                                                                          (List.take s1.length
                                                                            (List.drop (0 : Nat) s1)))))).length :
                                                            Int) ≤
                                                      lim))
                                                (ifB
                                                  (decide
                                                    (List.take
                                                        ((List.take s1.length (List.drop (0 : Nat) s1)).length -
                                                          (List.take s3.length (List.drop (0 : Nat) s3)).length)
                                                        (List.drop (0 : Nat)
                                                          (List.take (0 : Nat)
                                                                (List.drop
                                                                  (List.take s3.length (List.drop (0 : Nat) s3)).length
                                                                  (List.take s1.length (List.drop (0 : Nat) s1))) ++
                                                              marks markStr1 (1 : Int) (1 : Int)
                                                                ((List.take s1.length (List.drop (0 : Nat) s1)).length -
                                                                  (List.take s3.length
                                                                      (List.drop (0 : Nat) s3)).length) ++
                                                            List.drop
                                                              ((0 : Nat) +
                                                                ((List.take s1.length (List.drop (0 : Nat) s1)).length -
                                                                  (List.take s3.length (List.drop (0 : Nat) s3)).length))
                                                              (List.drop
                                                                (List.take s3.length (List.drop (0 : Nat) s3)).length
                                                                (List.take s1.length (List.drop (0 : Nat) s1))))) =
                                                      marks markStr1 (1 : Int) (1 : Int)
                                                        (List.take
                                                            ((List.take s1.length (List.drop (0 : Nat) s1)).length -
                                                              (List.take s3.length (List.drop (0 : Nat) s3)).length)
                                                            (List.drop (0 : Nat)
                                                              (List.take (0 : Nat)
                                                                    (List.drop
                                                                      (List.take s3.length
                                                                          (List.drop (0 : Nat) s3)).length
                                                                      (List.take s1.length (List.drop (0 : Nat) s1))) ++
                                                                  marks markStr1 (1 : Int) (1 : Int)
                                                                    ((List.take s1.length
                                                                          (List.drop (0 : Nat) s1)).length -
                                                                      (List.take s3.length
                                                                          (List.drop (0 : Nat) s3)).length) ++
                                                                List.drop
                                                                  ((0 : Nat) +
                                                                    ((List.take s1.length
                                                                          (List.drop (0 : Nat) s1)).length -
                                                                      (List.take s3.length
                                                                          (List.drop (0 : Nat) s3)).length))
                                                                  (List.drop
                                                                    (List.take s3.length (List.drop (0 : Nat) s3)).length
                                                                    (List.take s1.length
                                                                      (List.drop (0 : Nat) s1)))))).length))
                                                  (ifB
                                                    ((1 : Int) +
                                                        (1 : Int) *
                                                          (↑(List.take
                                                                  ((List.take s1.length (List.drop (0 : Nat) s1)).length -
                                                                    (List.take s3.length (List.drop (0 : Nat) s3)).length)
                                                                  (List.drop (0 : Nat)
                                                                    (List.take (0 : Nat)
                                                                          (List.drop
                                                                            (List.take s3.length
                                                                                (List.drop (0 : Nat) s3)).length
                                                                            (List.take s1.length
                                                                              (List.drop (0 : Nat) s1))) ++
                                                                        marks markStr1 (1 : Int) (1 : Int)
                                                                          ((List.take s1.length
                                                                                (List.drop (0 : Nat) s1)).length -
                                                                            (List.take s3.length
                                                                                (List.drop (0 : Nat) s3)).length) ++
                                                                      List.drop
                                                                        ((0 : Nat) +
                                                                          ((List.take s1.length
                                                                                (List.drop (0 : Nat) s1)).length -
                                                                            (List.take s3.length
                                                                                (List.drop (0 : Nat) s3)).length))
                                                                        (List.drop
                                                                          (List.take s3.length
                                                                              (List.drop (0 : Nat) s3)).length
                                                                          (List.take s1.length
                                                                            (List.drop (0 : Nat) s1)))))).length :
                                                            Int) !=
                                                      (1 : Int) +
                                                        (1 : Int) *
                                                          (↑((List.take s1.length (List.drop (0 : Nat) s1)).length -
                                                                (List.take s3.length (List.drop (0 : Nat) s3)).length) :
                                                            Int))
                                                    (some (V.b false, [])) (some (V.b true, [])))
                                                  (some (V.b false, [])))))
                                            (ifB
                                              (!decide
                                                  (List.take (0 : Nat) (List.drop (0 : Nat) (nilT Cd.str.den)) =
                                                    List.take
                                                      ((List.take s1.length (List.drop (0 : Nat) s1)).length -
                                                        (List.take s3.length (List.drop (0 : Nat) s3)).length)
                                                      (List.drop (0 : Nat)
                                                        (List.drop (List.take s3.length (List.drop (0 : Nat) s3)).length
                                                          (List.take s1.length (List.drop (0 : Nat) s1))))))
                                              (some (V.b false, [])) (some (V.b false, [])))))))
                                    (some (V.b false, []))))))))))
                    (ifB
                      (!decide
                          (List.take (0 : Nat) (List.drop (0 : Nat) (nilT Cd.str.den)) =
                            List.take
                              ((List.take s1.length (List.drop (0 : Nat) s1)).length -
                                (List.take s3.length (List.drop (0 : Nat) s3)).length)
                              (List.drop (0 : Nat)
                                (List.drop (List.take s3.length (List.drop (0 : Nat) s3)).length
                                  (List.take s1.length (List.drop (0 : Nat) s1))))))
                      (some (V.b false, [])) (some (V.b false, []))))))
              (ifT
                (decide
                  (s1.length ≤ (1000000000 : Nat) ∧
                    s3.length ≤ (1000000000 : Nat) ∧ s4.length ≤ (1000000000 : Nat) ∧ s5.length ≤ (1000000000 : Nat)))
                (ifT (decide ((↑(List.take s3.length (List.drop (0 : Nat) s3)).length : Int) ≤ lim))
                  (ifB
                    (goodS s0 (List.take s1.length (List.drop (0 : Nat) s1)) s2
                      (List.take s3.length (List.drop (0 : Nat) s3)) (List.take s4.length (List.drop (0 : Nat) s4))
                      (List.take s5.length (List.drop (0 : Nat) s5)))
                    (ifB
                      (!decide
                          (List.take
                              ((List.take s1.length (List.drop (0 : Nat) s1)).length -
                                (List.take s3.length (List.drop (0 : Nat) s3)).length)
                              (List.drop (0 : Nat)
                                (List.drop (List.take s3.length (List.drop (0 : Nat) s3)).length
                                  (List.take s1.length (List.drop (0 : Nat) s1)))) =
                            List.take (0 : Nat) (List.drop (0 : Nat) (nilT Cd.str.den))))
                      (some (V.b false, [])) (some (V.b false, [])))
                    (ifT
                      (decide
                        (s1.length ≤ (1000000000 : Nat) ∧
                          s3.length ≤ (1000000000 : Nat) ∧
                            s4.length ≤ (1000000000 : Nat) ∧ s5.length ≤ (1000000000 : Nat)))
                      (ifB
                        (!decide
                            (s0 = s0 ∧
                              List.take s1.length (List.drop (0 : Nat) s1) =
                                  List.take s1.length (List.drop (0 : Nat) s1) ∧
                                s2 = s2 ∧
                                  List.take s3.length (List.drop (0 : Nat) s3) =
                                      List.take s3.length (List.drop (0 : Nat) s3) ∧
                                    List.take s4.length (List.drop (0 : Nat) s4) =
                                        List.take s4.length (List.drop (0 : Nat) s4) ∧
                                      List.take s5.length (List.drop (0 : Nat) s5) =
                                        List.take s5.length (List.drop (0 : Nat) s5)))
                        (some (V.b false, []))
                        (ifT
                          (decide
                            ((0 : Nat) + s1.length ≤ s1.length ∧
                              (0 : Nat) + s3.length ≤ s3.length ∧
                                (0 : Nat) + s4.length ≤ s4.length ∧
                                  (0 : Nat) + s5.length ≤ s5.length ∧
                                    (0 : Int) ≤ (1 : Int) ∧
                                      (1 : Int) + (1 : Int) * (↑s1.length : Int) + (1 : Int) * (↑s3.length : Int) +
                                            (3 : Int) * (↑s4.length : Int) +
                                          (2 : Int) * (↑s5.length : Int) ≤
                                        lim))
                          (ifT
                            (decide
                              (s1.length ≤ (1000000000 : Nat) ∧
                                s3.length ≤ (1000000000 : Nat) ∧
                                  s4.length ≤ (1000000000 : Nat) ∧ s5.length ≤ (1000000000 : Nat)))
                            (ifT (decide ((↑(List.take s3.length (List.drop (0 : Nat) s3)).length : Int) ≤ lim))
                              (ifB
                                (goodS s0 (List.take s1.length (List.drop (0 : Nat) s1)) s2
                                  (List.take s3.length (List.drop (0 : Nat) s3))
                                  (List.take s4.length (List.drop (0 : Nat) s4))
                                  (List.take s5.length (List.drop (0 : Nat) s5)))
                                (ifB
                                  (!decide
                                      (List.take
                                          ((List.take s1.length (List.drop (0 : Nat) s1)).length -
                                            (List.take s3.length (List.drop (0 : Nat) s3)).length)
                                          (List.drop (0 : Nat)
                                            (List.drop (List.take s3.length (List.drop (0 : Nat) s3)).length
                                              (List.take s1.length (List.drop (0 : Nat) s1)))) =
                                        List.take (0 : Nat) (List.drop (0 : Nat) (nilT Cd.str.den))))
                                  (some (V.b false, [])) (some (V.b false, [])))
                                (some (V.b true, []))))))))))))))))) : _) := by kernel_rfl
  rw [e, ifT_true (decide_eq_true ⟨by omega, by unfold lim; omega, h1, h3, h4⟩)]
  clear e
  by_cases q : (((((1048576 : Int) - (↑s1.length : Int) - szStrsW s1) - (↑s3.length : Int) - szStrsW s3) - (↑s4.length : Int) - szPacketsW s4) - (↑s5.length : Int)) < 0
  · simp [q]
  have w1 := szStrsW_nonneg s1
  have w3 := szStrsW_nonneg s3
  have w4 := szPacketsW_nonneg s4
  have l1 : s1.length ≤ 1000000000 := by omega
  have l3 : s3.length ≤ 1000000000 := by omega
  have l4 : s4.length ≤ 1000000000 := by omega
  have l5 : s5.length ≤ 1000000000 := by omega
  have m3 : (↑s3.length : Int) ≤ lim := by unfold lim; omega
  have l135 : s1.length + s3.length + s4.length + s5.length ≤ 1048576 := by omega
  have e3 : List.take (s1.length - s3.length) (List.drop s3.length s1) = s1.drop s3.length := List.take_of_length_le (by simp)
  have e4 : (s1.drop s3.length).length = s1.length - s3.length := by simp
  simp only [List.drop_zero, List.take_length, e3, ← e4, List.take_zero, List.nil_append, Nat.zero_add, List.drop_length, List.append_nil]
  have e5 : (s1.drop s3.length).length ≤ 1048576 := by rw [e4]; omega
  generalize s1.drop s3.length = r at e5
  have e6 : List.take r.length (marks markStr1 1 1 r.length) = marks markStr1 1 1 r.length := List.take_of_length_le (by rw [marks_length]; exact Nat.le_refl _)
  simp only [e6, marks_length]
  cases hg : goodS s0 s1 s2 s3 s4 s5 <;> simp [q, l1, l3, l4, l5, m3]
  all_goals unfold lim; omega

theorem law_loops : LoopsOk Try.prog (look [(9, .rd1 szSessionG), (10, .rd1 specPendG), (11, .rd1 toSessionG), (12, .rd1 implPendG), (13, .rd1 eqStrsG), (14, .rd1 eqSessionG), (15, .own markSessionG), (16, .own markStrG), (17, .rd1 heldStrG)]) (look []) 0 (Try.f3.body.getD .skip) := loopsOk_nil _
end Go.Proofs.Ytpoepgnhdhpkjaa.Den
