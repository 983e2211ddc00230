/- What functions of the program do, by the machine: Ses2. -/
import Derived.Test.YtjghbihlgfjebaaDSz
import Derived.KernelRfl
import Derived.Test.YtjghbihlgfjebaaRows
namespace Go.Proofs.Ytjghbihlgfjebaa.Den
open Go.Proofs
set_option maxRecDepth 100000
def toSessionG : List V → List Blk → Br (V × List (Option Blk))
  | [.agg [.i .i64 s0, .sl .str s1, .i .i64 s2, .sl .str s3, .sl (.pair (.int .i64) (.pair (.int .i64) (.pair .str .unit))) s4, .sl (.pair (.int .i64) (.pair (.int .i64) .unit)) s5]], [] => .need (decide (s1.length ≤ 1000000000 ∧ s3.length ≤ 1000000000 ∧ s4.length ≤ 1000000000 ∧ s5.length ≤ 1000000000)) (.leaf (.agg [.i .i64 s0, .ref 0 0 s1.length, .i .i64 s2, .ref 1 0 s3.length, .ref 2 0 s4.length, .ref 3 0 s5.length], [some (.row false none .str s1), some (.row false none .str s3), some (.row false none (.pair (.int .i64) (.pair (.int .i64) (.pair .str .unit))) s4), some (.row false none (.pair (.int .i64) (.pair (.int .i64) .unit)) s5)]))
  | _, _ => .no
def szSessionG : List V → List Blk → Br (V × List (Option Blk))
  | [.agg [.i .i64 s0, .sl .str s1, .i .i64 s2, .sl .str s3, .sl (.pair (.int .i64) (.pair (.int .i64) (.pair .str .unit))) s4, .sl (.pair (.int .i64) (.pair (.int .i64) .unit)) s5], .i .i64 k], [] => .need (decide (0 ≤ k ∧ k ≤ lim ∧ (∀ z ∈ s1, z.length ≤ maxI) ∧ (∀ z ∈ s3, z.length ≤ maxI) ∧ (∀ z ∈ s4, z.2.2.1.length ≤ maxI))) (.br (decide (((((k - (↑s1.length : Int) - szStrsW s1) - (↑s3.length : Int) - szStrsW s3) - (↑s4.length : Int) - szPacketsW s4) - (↑s5.length : Int)) < 0)) (.leaf (.i .i64 (-1), [])) (.leaf (.i .i64 ((((k - (↑s1.length : Int) - szStrsW s1) - (↑s3.length : Int) - szStrsW s3) - (↑s4.length : Int) - szPacketsW s4) - (↑s5.length : Int)), [])))
  | _, _ => .no
theorem toSession_fun (s0 : Int) (s1 : List (List UInt8)) (s2 : Int) (s3 : List (List UInt8)) (s4 : List (Int × Int × List UInt8 × Unit)) (s5 : List (Int × Int × Unit)) (h1 : s1.length ≤ 1000000000) (h3 : s3.length ≤ 1000000000) (h4 : s4.length ≤ 1000000000) (h5 : s5.length ≤ 1000000000) : funK Try.prog (look [(65, .rd1 toStrsG), (66, .rd1 toPacketsG), (67, .rd1 toAcksG)]) (look []) Try.f11 [.agg [.i .i64 s0, .sl .str s1, .i .i64 s2, .sl .str s3, .sl (.pair (.int .i64) (.pair (.int .i64) (.pair .str .unit))) s4, .sl (.pair (.int .i64) (.pair (.int .i64) .unit)) s5]] [] = (.leaf (.agg [.i .i64 s0, .ref 0 0 s1.length, .i .i64 s2, .ref 1 0 s3.length, .ref 2 0 s4.length, .ref 3 0 s5.length], [some (.row false none .str s1), some (.row false none .str s3), some (.row false none (.pair (.int .i64) (.pair (.int .i64) (.pair .str .unit))) s4), some (.row false none (.pair (.int .i64) (.pair (.int .i64) .unit)) s5)]) : Br (V × List (Option Blk))).run := by
  have e : funK Try.prog (look [(65, .rd1 toStrsG), (66, .rd1 toPacketsG), (67, .rd1 toAcksG)]) (look []) Try.f11 [.agg [.i .i64 s0, .sl .str s1, .i .i64 s2, .sl .str s3, .sl (.pair (.int .i64) (.pair (.int .i64) (.pair .str .unit))) s4, .sl (.pair (.int .i64) (.pair (.int .i64) .unit)) s5]] [] =
    ((ifT (decide (s1.length ≤ (1000000000 : Nat)))
  (ifT (decide (s3.length ≤ (1000000000 : Nat)))
  (ifT (decide (s4.length ≤ (1000000000 : Nat)))
  (ifT (decide (s5.length ≤ (1000000000 : Nat)))
  (some
  (V.agg
  [V.i IntKind.i64 s0, V.ref (0 : Nat) (0 : Nat) s1.length, V.i IntKind.i64 s2,
  V.ref (1 : Nat) (0 : Nat) s3.length, V.ref (2 : Nat) (0 : Nat) s4.length,
  V.ref (3 : Nat) (0 : Nat) s5.length],
  [some (Blk.row false none Cd.str s1), some (Blk.row false none Cd.str s3),
  some
  (Blk.row false none ((Cd.int IntKind.i64).pair ((Cd.int IntKind.i64).pair (Cd.str.pair Cd.unit))) s4),
  some (Blk.row false none ((Cd.int IntKind.i64).pair ((Cd.int IntKind.i64).pair Cd.unit)) s5)])))))) : _) := by kernel_rfl
  rw [e]
  rw [ifT_true (decide_eq_true h1), ifT_true (decide_eq_true h3), ifT_true (decide_eq_true h4), ifT_true (decide_eq_true h5)]
  rfl
theorem toSession : Contract Try.prog 11 (Ent.rd1 toSessionG).F := by
  refine fun_contract' (KnowsL.cons (enters_fn Try.func65 (by kernel_rfl) (by kernel_rfl)) toStrs (KnowsL.cons (enters_fn Try.func66 (by kernel_rfl) (by kernel_rfl)) toPackets (KnowsL.cons (enters_fn Try.func67 (by kernel_rfl) (by kernel_rfl)) toAcks KnowsL.nil))).knows (Λ := look []) Try.func11 (c := Try.f11.body.getD .skip) (by kernel_rfl) fun vs bs r h hv hb => ?_
  unfold Ent.F toSessionG at h
  dsimp only at h
  split at h
  · rename_i s0 s1 s2 s3 s4 s5
    obtain ⟨hc, h⟩ := need_some h
    have hc := of_decide_eq_true hc
    exact ⟨loopsOk_nil _, (toSession_fun s0 s1 s2 s3 s4 s5 hc.1 hc.2.1 hc.2.2.1 hc.2.2.2).trans h⟩
  · cases h
theorem szSession_fun (s0 : Int) (s1 : List (List UInt8)) (s2 : Int) (s3 : List (List UInt8)) (s4 : List (Int × Int × List UInt8 × Unit)) (s5 : List (Int × Int × Unit)) (k : Int) (h0 : 0 ≤ k) (hk : k ≤ lim) (h1 : (∀ z ∈ s1, z.length ≤ maxI)) (h3 : (∀ z ∈ s3, z.length ≤ maxI)) (h4 : (∀ z ∈ s4, z.2.2.1.length ≤ maxI)) : funK Try.prog (look [(59, .rd1 szStrsG), (60, .rd1 szPacketsG), (61, .rd1 szAcksG)]) (look []) Try.f9 [.agg [.i .i64 s0, .sl .str s1, .i .i64 s2, .sl .str s3, .sl (.pair (.int .i64) (.pair (.int .i64) (.pair .str .unit))) s4, .sl (.pair (.int .i64) (.pair (.int .i64) .unit)) s5], .i .i64 k] [] = (.br (decide (((((k - (↑s1.length : Int) - szStrsW s1) - (↑s3.length : Int) - szStrsW s3) - (↑s4.length : Int) - szPacketsW s4) - (↑s5.length : Int)) < 0)) (.leaf (.i .i64 (-1), [])) (.leaf (.i .i64 ((((k - (↑s1.length : Int) - szStrsW s1) - (↑s3.length : Int) - szStrsW s3) - (↑s4.length : Int) - szPacketsW s4) - (↑s5.length : Int)), [])) : Br (V × List (Option Blk))).run := by
  have e : funK Try.prog (look [(59, .rd1 szStrsG), (60, .rd1 szPacketsG), (61, .rd1 szAcksG)]) (look []) Try.f9 [.agg [.i .i64 s0, .sl .str s1, .i .i64 s2, .sl .str s3, .sl (.pair (.int .i64) (.pair (.int .i64) (.pair .str .unit))) s4, .sl (.pair (.int .i64) (.pair (.int .i64) .unit)) s5], .i .i64 k] [] =
    ((ifT (decide ((0 : Int) ≤ k ∧ k ≤ lim ∧ ∀ (z : Cd.str.den), z ∈ s1 → List.length z ≤ maxI))
  (ifB (decide (k - (↑s1.length : Int) - szStrsW s1 < (0 : Int))) (some (V.i IntKind.i64 (-1 : Int), []))
  (ifB (decide (k - (↑s1.length : Int) - szStrsW s1 < (0 : Int))) (some (V.i IntKind.i64 (-1 : Int), []))
  (ifT
  (decide
  ((0 : Int) ≤ k - (↑s1.length : Int) - szStrsW s1 ∧
  k - (↑s1.length : Int) - szStrsW s1 ≤ lim ∧ ∀ (z : Cd.str.den), z ∈ s3 → List.length z ≤ maxI))
  (ifB (decide (k - (↑s1.length : Int) - szStrsW s1 - (↑s3.length : Int) - szStrsW s3 < (0 : Int)))
  (some (V.i IntKind.i64 (-1 : Int), []))
  (ifB (decide (k - (↑s1.length : Int) - szStrsW s1 - (↑s3.length : Int) - szStrsW s3 < (0 : Int)))
  (some (V.i IntKind.i64 (-1 : Int), []))
  (ifT
  (decide
  ((0 : Int) ≤ k - (↑s1.length : Int) - szStrsW s1 - (↑s3.length : Int) - szStrsW s3 ∧
  k - (↑s1.length : Int) - szStrsW s1 - (↑s3.length : Int) - szStrsW s3 ≤ lim ∧
  ∀ (z : ((Cd.int IntKind.i64).pair ((Cd.int IntKind.i64).pair (Cd.str.pair Cd.unit))).den),
  z ∈ s4 → List.length z.snd.snd.fst ≤ maxI))
  (ifB
  (decide
  (k - (↑s1.length : Int) - szStrsW s1 - (↑s3.length : Int) - szStrsW s3 - (↑s4.length : Int) -
  szPacketsW s4 <
  (0 : Int)))
  (some (V.i IntKind.i64 (-1 : Int), []))
  (ifB
  (decide
  (k - (↑s1.length : Int) - szStrsW s1 - (↑s3.length : Int) - szStrsW s3 - (↑s4.length : Int) -
  szPacketsW s4 <
  (0 : Int)))
  (some (V.i IntKind.i64 (-1 : Int), []))
  (ifT
  (decide
  ((0 : Int) ≤
  k - (↑s1.length : Int) - szStrsW s1 - (↑s3.length : Int) - szStrsW s3 - (↑s4.length : Int) -
  szPacketsW s4 ∧
  k - (↑s1.length : Int) - szStrsW s1 - (↑s3.length : Int) - szStrsW s3 - (↑s4.length : Int) -
  szPacketsW s4 ≤
  lim))
  (ifB
  (decide
  (k - (↑s1.length : Int) - szStrsW s1 - (↑s3.length : Int) - szStrsW s3 - (↑s4.length : Int) -
  szPacketsW s4 -
  (↑s5.length : Int) <
  (0 : Int)))
  (some (V.i IntKind.i64 (-1 : Int), []))
  (ifB
  (decide
  (k - (↑s1.length : Int) - szStrsW s1 - (↑s3.length : Int) - szStrsW s3 - (↑s4.length : Int) -
  szPacketsW s4 -
  (↑s5.length : Int) <
  (0 : Int)))
  (some (V.i IntKind.i64 (-1 : Int), []))
  (some
  (V.i IntKind.i64
  (k - (↑s1.length : Int) - szStrsW s1 - (↑s3.length : Int) - szStrsW s3 -
  (↑s4.length : Int) -
  szPacketsW s4 -
  (↑s5.length : Int)),
  [])))))))))))))) : _) := by kernel_rfl
  rw [e]
  unfold lim at hk
  have w1 := szStrsW_nonneg s1
  have w3 := szStrsW_nonneg s3
  have w4 := szPacketsW_nonneg s4
  rw [br_run]
  rw [ifT_true (decide_eq_true ⟨by omega, by unfold lim; omega, h1⟩)]
  by_cases q0 : (k - (↑s1.length : Int) - szStrsW s1) < 0
  · rw [ifB_true (decide_eq_true q0), if_pos (by omega)]; rfl
  · rw [ifB_false (decide_eq_false q0), ifB_false (decide_eq_false q0)]
    rw [ifT_true (decide_eq_true ⟨by omega, by unfold lim; omega, h3⟩)]
    by_cases q1 : ((k - (↑s1.length : Int) - szStrsW s1) - (↑s3.length : Int) - szStrsW s3) < 0
    · rw [ifB_true (decide_eq_true q1), if_pos (by omega)]; rfl
    · rw [ifB_false (decide_eq_false q1), ifB_false (decide_eq_false q1)]
      rw [ifT_true (decide_eq_true ⟨by omega, by unfold lim; omega, h4⟩)]
      by_cases q2 : (((k - (↑s1.length : Int) - szStrsW s1) - (↑s3.length : Int) - szStrsW s3) - (↑s4.length : Int) - szPacketsW s4) < 0
      · rw [ifB_true (decide_eq_true q2), if_pos (by omega)]; rfl
      · rw [ifB_false (decide_eq_false q2), ifB_false (decide_eq_false q2)]
        rw [ifT_true (decide_eq_true ⟨by omega, by unfold lim; omega⟩)]
        by_cases q3 : ((((k - (↑s1.length : Int) - szStrsW s1) - (↑s3.length : Int) - szStrsW s3) - (↑s4.length : Int) - szPacketsW s4) - (↑s5.length : Int)) < 0
        · rw [ifB_true (decide_eq_true q3), if_pos (by omega)]; rfl
        · rw [ifB_false (decide_eq_false q3), ifB_false (decide_eq_false q3)]
          rw [if_neg q3]; rfl
theorem szSession : Contract Try.prog 9 (Ent.rd1 szSessionG).F := by
  refine fun_contract' (KnowsL.cons (enters_fn Try.func59 (by kernel_rfl) (by kernel_rfl)) szStrs (KnowsL.cons (enters_fn Try.func60 (by kernel_rfl) (by kernel_rfl)) szPackets (KnowsL.cons (enters_fn Try.func61 (by kernel_rfl) (by kernel_rfl)) szAcks KnowsL.nil))).knows (Λ := look []) Try.func9 (c := Try.f9.body.getD .skip) (by kernel_rfl) fun vs bs r h hv hb => ?_
  unfold Ent.F szSessionG at h
  dsimp only at h
  split at h
  · rename_i s0 s1 s2 s3 s4 s5 k
    obtain ⟨hc, h⟩ := need_some h
    have hc := of_decide_eq_true hc
    exact ⟨loopsOk_nil _, (szSession_fun s0 s1 s2 s3 s4 s5 k hc.1 hc.2.1 hc.2.2.1 hc.2.2.2.1 hc.2.2.2.2).trans h⟩
  · cases h
end Go.Proofs.Ytjghbihlgfjebaa.Den
