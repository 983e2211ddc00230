/- What functions of the program do, by the machine: LGoodSes. -/
import Derived.Test.YtohoggoggchaeaaDGoodP
import Derived.KernelRfl
import Derived.Test.YtohoggoggchaeaaRows
namespace Go.Proofs.Ytohoggoggchaeaa.Den
open Go.Proofs
set_option maxRecDepth 100000
theorem law_knows : Knows Try.prog (look [(30, .rd1 szSessionG), (31, .rd1 specGoodG), (32, .rd1 toSessionG), (33, .rd1 implGoodG), (23, .rd1 eqSessionG)]) := KnowsL.knows (KnowsL.cons (enters_fn Try.func30 (by kernel_rfl) (by kernel_rfl)) szSession (KnowsL.cons (enters_fn Try.func31 (by kernel_rfl) (by kernel_rfl)) specGood (KnowsL.cons (enters_fn Try.func32 (by kernel_rfl) (by kernel_rfl)) toSession (KnowsL.cons (enters_fn Try.func33 (by kernel_rfl) (by kernel_rfl)) implGood (KnowsL.cons (enters_fn Try.func23 (by kernel_rfl) (by kernel_rfl)) eqSession KnowsL.nil)))))
theorem law_fun (s0 : Int) (s1 : List (List UInt8)) (s2 : Int) (s3 : List (List UInt8)) (s4 : List (Int × Int × List UInt8 × Unit)) (s5 : List (Int × Int × Unit)) (h1 : ∀ z ∈ s1, z.length ≤ maxI) (h3 : ∀ z ∈ s3, z.length ≤ maxI) (h4 : ∀ z ∈ s4, z.2.2.1.length ≤ maxI) : funK Try.prog (look [(30, .rd1 szSessionG), (31, .rd1 specGoodG), (32, .rd1 toSessionG), (33, .rd1 implGoodG), (23, .rd1 eqSessionG)]) (look []) Try.f8 [.agg [.i .i64 s0, .sl .str s1, .i .i64 s2, .sl .str s3, .sl (.pair (.int .i64) (.pair (.int .i64) (.pair .str .unit))) s4, .sl (.pair (.int .i64) (.pair (.int .i64) .unit)) s5]] [] = some (.b true, []) := by
  have e : funK Try.prog (look [(30, .rd1 szSessionG), (31, .rd1 specGoodG), (32, .rd1 toSessionG), (33, .rd1 implGoodG), (23, .rd1 eqSessionG)]) (look []) Try.f8 [.agg [.i .i64 s0, .sl .str s1, .i .i64 s2, .sl .str s3, .sl (.pair (.int .i64) (.pair (.int .i64) (.pair .str .unit))) s4, .sl (.pair (.int .i64) (.pair (.int .i64) .unit)) s5]] [] = ((ifT
    (decide
      ((0 : Int) ≤ (1048576 : Int) ∧
        (1048576 : Int) ≤ lim ∧
          (∀ (z : Cd.str.den), z ∈ s1 → List.length z ≤ maxI) ∧
            (∀ (z : Cd.str.den), z ∈ s3 → List.length z ≤ maxI) ∧
              ∀ (z : ((Cd.int IntKind.i64).pair ((Cd.int IntKind.i64).pair (Cd.str.pair Cd.unit))).den),
                z ∈ s4 → List.length z.snd.snd.fst ≤ maxI))
    (ifB
      (decide
        ((1048576 : Int) - (↑s1.length : Int) - szStrsW s1 - (↑s3.length : Int) - szStrsW s3 - (↑s4.length : Int) -
              szPacketsW s4 -
            (↑s5.length : Int) <
          (0 : Int)))
      (some (V.b true, []))
      (ifB
        (decide
          ((1048576 : Int) - (↑s1.length : Int) - szStrsW s1 - (↑s3.length : Int) - szStrsW s3 - (↑s4.length : Int) -
                szPacketsW s4 -
              (↑s5.length : Int) <
            (0 : Int)))
        (some (V.b true, []))
        (ifT
          (decide
            (s1.length ≤ (1000000000 : Nat) ∧
              s3.length ≤ (1000000000 : Nat) ∧ s4.length ≤ (1000000000 : Nat) ∧ s5.length ≤ (1000000000 : Nat)))
          (ifT (decide ((↑(List.take s3.length (List.drop (0 : Nat) s3)).length : Int) ≤ lim))
            (ifT
              (decide
                (s1.length ≤ (1000000000 : Nat) ∧
                  s3.length ≤ (1000000000 : Nat) ∧ s4.length ≤ (1000000000 : Nat) ∧ s5.length ≤ (1000000000 : Nat)))
              (ifB
                (!goodS s0 (List.take s1.length (List.drop (0 : Nat) s1)) s2
                      (List.take s3.length (List.drop (0 : Nat) s3)) (List.take s4.length (List.drop (0 : Nat) s4))
                      (List.take s5.length (List.drop (0 : Nat) s5)) ==
                    goodS s0 (List.take s1.length (List.drop (0 : Nat) s1)) s2
                      (List.take s3.length (List.drop (0 : Nat) s3)) (List.take s4.length (List.drop (0 : Nat) s4))
                      (List.take s5.length (List.drop (0 : Nat) s5)))
                (some (V.b false, []))
                (ifT
                  (decide
                    (s1.length ≤ (1000000000 : Nat) ∧
                      s3.length ≤ (1000000000 : Nat) ∧ s4.length ≤ (1000000000 : Nat) ∧ s5.length ≤ (1000000000 : Nat)))
                  (ifB
                    (!decide
                        (s0 = s0 ∧
                          List.take s1.length (List.drop (0 : Nat) s1) = List.take s1.length (List.drop (0 : Nat) s1) ∧
                            s2 = s2 ∧
                              List.take s3.length (List.drop (0 : Nat) s3) =
                                  List.take s3.length (List.drop (0 : Nat) s3) ∧
                                List.take s4.length (List.drop (0 : Nat) s4) =
                                    List.take s4.length (List.drop (0 : Nat) s4) ∧
                                  List.take s5.length (List.drop (0 : Nat) s5) =
                                    List.take s5.length (List.drop (0 : Nat) s5)))
                    (some (V.b false, [])) (some (V.b true, []))))))))))) : _) := by kernel_rfl
  rw [e, ifT_true (decide_eq_true ⟨by omega, by unfold lim; omega, h1, h3, h4⟩)]
  by_cases q : (((((1048576 : Int) - (↑s1.length : Int) - szStrsW s1) - (↑s3.length : Int) - szStrsW s3) - (↑s4.length : Int) - szPacketsW s4) - (↑s5.length : Int)) < 0
  · simp [q]
  · have w1 := szStrsW_nonneg s1
    have w3 := szStrsW_nonneg s3
    have w4 := szPacketsW_nonneg s4
    have l1 : s1.length ≤ 1000000000 := by omega
    have l3 : s3.length ≤ 1000000000 := by omega
    have l4 : s4.length ≤ 1000000000 := by omega
    have l5 : s5.length ≤ 1000000000 := by omega
    have m3 : (↑s3.length : Int) ≤ lim := by unfold lim; omega
    clear e
    simp only [List.drop_zero, List.take_length]
    rw [ifB_false (decide_eq_false q), ifB_false (decide_eq_false q), ifT_true (decide_eq_true ⟨l1, l3, l4, l5⟩), ifT_true (decide_eq_true m3), ifT_true (decide_eq_true ⟨l1, l3, l4, l5⟩), ifB_false (by simp), ifT_true (decide_eq_true ⟨l1, l3, l4, l5⟩), ifB_false (by simp)]
theorem law_loops : LoopsOk Try.prog (look [(30, .rd1 szSessionG), (31, .rd1 specGoodG), (32, .rd1 toSessionG), (33, .rd1 implGoodG), (23, .rd1 eqSessionG)]) (look []) 0 (Try.f8.body.getD .skip) := loopsOk_nil _
end Go.Proofs.Ytohoggoggchaeaa.Den
