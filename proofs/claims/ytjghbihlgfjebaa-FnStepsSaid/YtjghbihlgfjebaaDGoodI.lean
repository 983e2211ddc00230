/- What functions of the program do, by the machine: GoodI. -/
import Derived.Test.YtjghbihlgfjebaaDSlEq
import Derived.KernelRfl
import Derived.Test.YtjghbihlgfjebaaRows
namespace Go.Proofs.Ytjghbihlgfjebaa.Den
open Go.Proofs
set_option maxRecDepth 100000
/-- A good session. -/
def goodS (s0 : Int) (s1 : List (List UInt8)) (s2 : Int) (s3 : List (List UInt8)) (s4 : List (Int × Int × List UInt8 × Unit)) (s5 : List (Int × Int × Unit)) : Bool := decide (1 ≤ s0 ∧ s0 ≤ 1000) && (decide (s1.length ≤ 30) && (!(s1.any fun z => decide (20 < z.length)) && (decide (s3.length ≤ s1.length) && (decide (s3 = s1.take s3.length) && (decide (0 ≤ s2 ∧ s2 ≤ (↑s3.length : Int)) && (decide (s4.length ≤ 12) && (decide (s5.length ≤ 12) && (!(s4.any fun z => !decide (1 ≤ z.1 ∧ z.1 ≤ s0 ∧ 0 ≤ z.2.1 ∧ z.2.1 < s2 + 4 ∧ s1[z.2.1.toNat]? = some z.2.2.1)) && (!(s5.any fun z => !decide ((1 ≤ z.1 ∧ z.1 ≤ s0) ∧ (0 ≤ z.2.1 ∧ z.2.1 ≤ (↑s3.length : Int)))))))))))))
def implGoodG : List V → List Blk → Br (V × List (Option Blk))
  | [.agg [.i .i64 s0, .sl .str s1, .i .i64 s2, .sl .str s3, .sl (.pair (.int .i64) (.pair (.int .i64) (.pair .str .unit))) s4, .sl (.pair (.int .i64) (.pair (.int .i64) .unit)) s5]], [] => .leaf (.b (goodS s0 s1 s2 s3 s4 s5), [])
  | _, _ => .no
theorem implGood_fun (s0 : Int) (s1 : List (List UInt8)) (s2 : Int) (s3 : List (List UInt8)) (s4 : List (Int × Int × List UInt8 × Unit)) (s5 : List (Int × Int × Unit)) : funK Try.prog (look [(94, .rd1 withinG), (86, .rd1 has_good1G), (96, .rd1 slEqStrG), (97, .own has_good2G), (100, .own has_good3G)]) (look []) Try.f30 [.agg [.i .i64 s0, .sl .str s1, .i .i64 s2, .sl .str s3, .sl (.pair (.int .i64) (.pair (.int .i64) (.pair .str .unit))) s4, .sl (.pair (.int .i64) (.pair (.int .i64) .unit)) s5]] [] = some (.b (goodS s0 s1 s2 s3 s4 s5), []) := by
  have e : funK Try.prog (look [(94, .rd1 withinG), (86, .rd1 has_good1G), (96, .rd1 slEqStrG), (97, .own has_good2G), (100, .own has_good3G)]) (look []) Try.f30 [.agg [.i .i64 s0, .sl .str s1, .i .i64 s2, .sl .str s3, .sl (.pair (.int .i64) (.pair (.int .i64) (.pair .str .unit))) s4, .sl (.pair (.int .i64) (.pair (.int .i64) .unit)) s5]] [] =
    ((ifB (!decide ((1 : Int) ≤ s0 ∧ s0 ≤ (1000 : Int))) (some (V.b false, []))
  (ifB (decide ((↑s1.length : Int) > (30 : Int))) (some (V.b false, []))
  (ifB (s1.any fun z => decide ((20 : Nat) < z.length)) (some (V.b false, []))
  (ifB (decide ((↑s3.length : Int) > (↑s1.length : Int))) (some (V.b false, []))
  (ifT (decide ((0 : Int) ≤ (↑s3.length : Int)) && decide ((↑s3.length : Int) ≤ (↑s1.length : Int)))
  (ifB (!decide (s3 = List.take ((↑s3.length : Int).toNat - (0 : Nat)) (List.drop (0 : Nat) s1)))
  (some (V.b false, []))
  (ifB (!decide ((0 : Int) ≤ s2 ∧ s2 ≤ (↑s3.length : Int))) (some (V.b false, []))
  (ifB (decide ((↑s4.length : Int) > (12 : Int))) (some (V.b false, []))
  (ifB (decide ((↑s5.length : Int) > (12 : Int))) (some (V.b false, []))
  (ifT (decide (-lim ≤ s2 ∧ s2 ≤ lim))
  (ifB
  (s4.any fun z =>
  !decide
  ((1 : Int) ≤ z.fst ∧
  z.fst ≤ s0 ∧
  (0 : Int) ≤ z.snd.fst ∧
  z.snd.fst < s2 + (4 : Int) ∧ s1[z.snd.fst.toNat]? = some z.snd.snd.fst))
  (some (V.b false, []))
  (some
  (V.b
  !s5.any fun z =>
  !decide
  (((1 : Int) ≤ z.fst ∧ z.fst ≤ s0) ∧
  (0 : Int) ≤ z.snd.fst ∧ z.snd.fst ≤ (↑s3.length : Int)),
  []))))))))))))) : _) := by kernel_rfl
  rw [e, Int.toNat_natCast, Nat.sub_zero, List.drop_zero]
  by_cases q0 : 1 ≤ s0 ∧ s0 ≤ 1000
  rotate_left
  · rw [ifB_true (by simp [q0])]; unfold goodS; simp [q0]
  rw [ifB_false (by simp [q0])]
  by_cases q1 : s1.length ≤ 30
  rotate_left
  · rw [ifB_true (decide_eq_true (by omega))]; unfold goodS; simp [q1]
  rw [ifB_false (decide_eq_false (by omega))]
  by_cases q2 : (s1.any fun z => decide (20 < z.length)) = false
  rotate_left
  · rw [ifB_true (by simpa using q2)]; unfold goodS; rw [Bool.of_not_eq_false q2]; simp
  rw [ifB_false (by simpa using q2)]
  by_cases q3 : s3.length ≤ s1.length
  rotate_left
  · rw [ifB_true (decide_eq_true (by omega))]; unfold goodS; simp [q3]
  rw [ifB_false (decide_eq_false (by omega)), ifT_true (by simp; omega)]
  by_cases q4 : s3 = s1.take s3.length
  rotate_left
  · rw [ifB_true (by simpa using q4)]; unfold goodS; simp [q4]
  rw [ifB_false (by simpa using q4)]
  by_cases q5 : 0 ≤ s2 ∧ s2 ≤ (↑s3.length : Int)
  rotate_left
  · rw [ifB_true (by simp [q5])]; unfold goodS; simp [q5]
  rw [ifB_false (by simp [q5])]
  by_cases q6 : s4.length ≤ 12
  rotate_left
  · rw [ifB_true (decide_eq_true (by omega))]; unfold goodS; simp [q6]
  rw [ifB_false (decide_eq_false (by omega))]
  by_cases q7 : s5.length ≤ 12
  rotate_left
  · rw [ifB_true (decide_eq_true (by omega))]; unfold goodS; simp [q7]
  rw [ifB_false (decide_eq_false (by omega)), ifT_true (decide_eq_true (by unfold lim; omega))]
  by_cases q8 : (s4.any fun z => !decide (1 ≤ z.1 ∧ z.1 ≤ s0 ∧ 0 ≤ z.2.1 ∧ z.2.1 < s2 + 4 ∧ s1[z.2.1.toNat]? = some z.2.2.1)) = false
  rotate_left
  · rw [ifB_true (Bool.of_not_eq_false q8)]; unfold goodS; rw [Bool.of_not_eq_false q8]; simp
  rw [ifB_false q8]
  unfold goodS
  rw [q2, q8, decide_eq_true q4]
  simp only [q0, q1, q3, q5, q6, q7, decide_true, Bool.not_false, Bool.true_and, and_self]
theorem implGood : Contract Try.prog 30 (Ent.rd1 implGoodG).F := by
  refine fun_contract' (KnowsL.cons (enters_fn Try.func94 (by kernel_rfl) (by kernel_rfl)) within (KnowsL.cons (enters_fn Try.func86 (by kernel_rfl) (by kernel_rfl)) good1_has (KnowsL.cons (enters_fn Try.func96 (by kernel_rfl) (by kernel_rfl)) slEqStr (KnowsL.cons (enters_fn Try.func97 (by kernel_rfl) (by kernel_rfl)) good2_has (KnowsL.cons (enters_fn Try.func100 (by kernel_rfl) (by kernel_rfl)) good3_has KnowsL.nil))))).knows (Λ := look []) Try.func30 (c := Try.f30.body.getD .skip) (by kernel_rfl) fun vs bs r h hv hb => ?_
  unfold Ent.F implGoodG at h
  dsimp only at h
  split at h
  · rename_i s0 s1 s2 s3 s4 s5
    exact ⟨loopsOk_nil _, (implGood_fun s0 s1 s2 s3 s4 s5).trans h⟩
  · cases h
end Go.Proofs.Ytjghbihlgfjebaa.Den
