/- What functions of the program do, by the machine: Pend. -/
import Derived.Test.YtpoepgnhdhpkjaaDClone
import Derived.KernelRfl
import Derived.Test.YtpoepgnhdhpkjaaRows
namespace Go.Proofs.Ytpoepgnhdhpkjaa.Den
open Go.Proofs
set_option maxRecDepth 100000
def implPendG : List V → List Blk → Br (V × List (Option Blk))
  | [.agg [.i .i64 s0, .sl .str s1, .i .i64 s2, .sl .str s3, .sl (.pair (.int .i64) (.pair (.int .i64) (.pair .str .unit))) s4, .sl (.pair (.int .i64) (.pair (.int .i64) .unit)) s5]], [] => .need (decide (s3.length ≤ lim)) (.br (goodS s0 s1 s2 s3 s4 s5) (.leaf (.tup [.ref 0 0 (s1.length - s3.length), .b true], [some (.row false none .str (s1.drop s3.length))])) (.leaf (.tup [.ref 0 0 0, .b false], [some (.row false none .str [])])))
  | _, _ => .no
def specPendG : List V → List Blk → Br (V × List (Option Blk))
  | [.agg [.i .i64 s0, .sl .str s1, .i .i64 s2, .sl .str s3, .sl (.pair (.int .i64) (.pair (.int .i64) (.pair .str .unit))) s4, .sl (.pair (.int .i64) (.pair (.int .i64) .unit)) s5]], [] => .need (decide (s3.length ≤ lim)) (.br (goodS s0 s1 s2 s3 s4 s5) (.leaf (.tup [.ref 0 0 (s1.length - s3.length), .b true], [some (.row false none .str (s1.drop s3.length))])) (.leaf (.tup [.ref 0 0 0, .b false], [some (.row false none .str [])])))
  | _, _ => .no
theorem good_len {s0 : Int} {s1 : List (List UInt8)} {s2 : Int} {s3 : List (List UInt8)} {s4 : List (Int × Int × List UInt8 × Unit)} {s5 : List (Int × Int × Unit)} (h : goodS s0 s1 s2 s3 s4 s5 = true) : (1 ≤ s0 ∧ s0 ≤ 1000) ∧ s1.length ≤ 30 ∧ (∀ z ∈ s1, z.length ≤ 20) ∧ s3.length ≤ s1.length ∧ s3 = s1.take s3.length ∧ (0 ≤ s2 ∧ s2 ≤ (↑s3.length : Int)) ∧ s4.length ≤ 12 ∧ s5.length ≤ 12 ∧ (∀ z ∈ s4, 1 ≤ z.1 ∧ z.1 ≤ s0 ∧ 0 ≤ z.2.1 ∧ z.2.1 < s2 + 4 ∧ s1[z.2.1.toNat]? = some z.2.2.1) ∧ (∀ z ∈ s5, (1 ≤ z.1 ∧ z.1 ≤ s0) ∧ (0 ≤ z.2.1 ∧ z.2.1 ≤ (↑s3.length : Int))) := by
  unfold goodS at h
  simp only [Bool.and_eq_true, decide_eq_true_eq, Bool.not_eq_true', List.any_eq_false, Bool.not_eq_true, decide_eq_false_iff_not, Bool.not_eq_false'] at h
  obtain ⟨h0, h1, h2, h3, h4, h5, h6, h7, h8, h9⟩ := h
  exact ⟨h0, h1, fun z hz => by have := h2 z hz; omega, h3, h4, h5, h6, h7, fun z hz => by simpa using h8 z hz, fun z hz => by have := h9 z hz; simp at this; exact ⟨⟨this.1, this.2.1⟩, this.2.2⟩⟩
theorem implPend_fun (s0 : Int) (s1 : List (List UInt8)) (s2 : Int) (s3 : List (List UInt8)) (s4 : List (Int × Int × List UInt8 × Unit)) (s5 : List (Int × Int × Unit)) (h3 : s3.length ≤ lim) : funN Try.prog (look [(54, .rd1 implGoodG), (55, .rd1 cloneStrG)]) (look []) Try.f12 [.agg [.i .i64 s0, .sl .str s1, .i .i64 s2, .sl .str s3, .sl (.pair (.int .i64) (.pair (.int .i64) (.pair .str .unit))) s4, .sl (.pair (.int .i64) (.pair (.int .i64) .unit)) s5]] [] = (.br (goodS s0 s1 s2 s3 s4 s5) (.leaf (.tup [.ref 0 0 (s1.length - s3.length), .b true], [some (.row false none .str (s1.drop s3.length))])) (.leaf (.tup [.ref 0 0 0, .b false], [some (.row false none .str [])])) : Br (V × List (Option Blk))).run := by
  have e : funN Try.prog (look [(54, .rd1 implGoodG), (55, .rd1 cloneStrG)]) (look []) Try.f12 [.agg [.i .i64 s0, .sl .str s1, .i .i64 s2, .sl .str s3, .sl (.pair (.int .i64) (.pair (.int .i64) (.pair .str .unit))) s4, .sl (.pair (.int .i64) (.pair (.int .i64) .unit)) s5]] [] =
    ((ifB (!goodS s0 s1 s2 s3 s4 s5)
    (some (V.tup [V.ref (0 : Nat) (0 : Nat) (0 : Nat), V.b false], [some (Blk.row false none Cd.str (nilT Cd.str.den))]))
    (ifT (decide ((0 : Int) ≤ (↑s3.length : Int)) && decide ((↑s3.length : Int) ≤ (↑s1.length : Int)))
      (ifT
        (decide
          ((List.take (s1.length - (↑s3.length : Int).toNat) (List.drop (↑s3.length : Int).toNat s1)).length ≤
            (1000000000 : Nat)))
        (some
          (V.tup
              [V.ref (0 : Nat) (0 : Nat)
                  (List.take (s1.length - (↑s3.length : Int).toNat) (List.drop (↑s3.length : Int).toNat s1)).length,
                V.b true],
            [some
                (Blk.row false none Cd.str
                  (List.take (s1.length - (↑s3.length : Int).toNat) (List.drop (↑s3.length : Int).toNat s1)))]))))) : _) := by kernel_rfl
  rw [e]
  cases q : goodS s0 s1 s2 s3 s4 s5 with
  | false => rfl
  | true =>
    obtain ⟨-, h1, -, h2, -⟩ := good_len q
    simp only [ifB_not, ifB_t, ifB_f, Br.run]
    have e3 : List.take (s1.length - s3.length) (List.drop s3.length s1) = s1.drop s3.length := List.take_of_length_le (by simp)
    simp only [Int.toNat_natCast, e3, List.length_drop]
    rw [ifT_true (by simp; omega), ifT_true (decide_eq_true (by omega))]
theorem implPend : Contract Try.prog 12 (Ent.rd1 implPendG).F := by
  refine fun_contractN' (KnowsL.cons (enters_fn Try.func54 (by kernel_rfl) (by kernel_rfl)) implGood (KnowsL.cons (enters_fn Try.func55 (by kernel_rfl) (by kernel_rfl)) cloneStr KnowsL.nil)).knows (Λ := look []) Try.func12 (c := Try.f12.body.getD .skip) (by kernel_rfl) fun vs bs r h hv hb => ?_
  unfold Ent.F implPendG at h
  dsimp only at h
  split at h
  · rename_i s0 s1 s2 s3 s4 s5
    obtain ⟨hc, h⟩ := need_some h
    have hc := of_decide_eq_true hc
    exact ⟨loopsOk_nil _, (implPend_fun s0 s1 s2 s3 s4 s5 hc).trans h⟩
  · cases h
theorem specPend_fun (s0 : Int) (s1 : List (List UInt8)) (s2 : Int) (s3 : List (List UInt8)) (s4 : List (Int × Int × List UInt8 × Unit)) (s5 : List (Int × Int × Unit)) (h3 : s3.length ≤ lim) : funN Try.prog (look [(50, .rd1 specGoodG)]) (look []) Try.f10 [.agg [.i .i64 s0, .sl .str s1, .i .i64 s2, .sl .str s3, .sl (.pair (.int .i64) (.pair (.int .i64) (.pair .str .unit))) s4, .sl (.pair (.int .i64) (.pair (.int .i64) .unit)) s5]] [] = (.br (goodS s0 s1 s2 s3 s4 s5) (.leaf (.tup [.ref 0 0 (s1.length - s3.length), .b true], [some (.row false none .str (s1.drop s3.length))])) (.leaf (.tup [.ref 0 0 0, .b false], [some (.row false none .str [])])) : Br (V × List (Option Blk))).run := by
  have e : funN Try.prog (look [(50, .rd1 specGoodG)]) (look []) Try.f10 [.agg [.i .i64 s0, .sl .str s1, .i .i64 s2, .sl .str s3, .sl (.pair (.int .i64) (.pair (.int .i64) (.pair .str .unit))) s4, .sl (.pair (.int .i64) (.pair (.int .i64) .unit)) s5]] [] =
    ((ifT (decide ((↑s3.length : Int) ≤ lim))
    (ifB (!goodS s0 s1 s2 s3 s4 s5)
      (some
        (V.tup [V.ref (0 : Nat) (0 : Nat) (0 : Nat), V.b false], [some (Blk.row false none Cd.str (nilT Cd.str.den))]))
      (ifT (decide ((0 : Int) ≤ (↑s3.length : Int)) && decide ((↑s3.length : Int) ≤ (↑s1.length : Int)))
        (ifT
          (decide
              (((0 : Nat) +
                    (List.take (s1.length - (↑s3.length : Int).toNat) (List.drop (↑s3.length : Int).toNat s1)).length) *
                  (16 : Nat) ≤
                (140737488355328 : Nat)) &&
            decide
              ((0 : Nat) +
                  (List.take (s1.length - (↑s3.length : Int).toNat) (List.drop (↑s3.length : Int).toNat s1)).length ≤
                maxI))
          (some
            (V.tup
                [V.ref (0 : Nat) (0 : Nat)
                    ((0 : Nat) +
                      (List.take (s1.length - (↑s3.length : Int).toNat) (List.drop (↑s3.length : Int).toNat s1)).length),
                  V.b true],
              [some
                  (Blk.row false none Cd.str
                    (nilT Cd.str.den ++
                      List.take (s1.length - (↑s3.length : Int).toNat) (List.drop (↑s3.length : Int).toNat s1)))])))))) : _) := by kernel_rfl
  rw [e]
  rw [ifT_true (decide_eq_true h3)]
  cases q : goodS s0 s1 s2 s3 s4 s5 with
  | false => rfl
  | true =>
    obtain ⟨-, h1, -, h2, -⟩ := good_len q
    simp only [ifB_not, ifB_t, ifB_f, Br.run]
    have e3 : List.take (s1.length - s3.length) (List.drop s3.length s1) = s1.drop s3.length := List.take_of_length_le (by simp)
    simp only [Int.toNat_natCast, e3, List.length_drop]
    rw [ifT_true (by simp; omega), ifT_true (by simp [maxI]; omega)]
    simp
theorem specPend : Contract Try.prog 10 (Ent.rd1 specPendG).F := by
  refine fun_contractN' (KnowsL.cons (enters_fn Try.func50 (by kernel_rfl) (by kernel_rfl)) specGood KnowsL.nil).knows (Λ := look []) Try.func10 (c := Try.f10.body.getD .skip) (by kernel_rfl) fun vs bs r h hv hb => ?_
  unfold Ent.F specPendG at h
  dsimp only at h
  split at h
  · rename_i s0 s1 s2 s3 s4 s5
    obtain ⟨hc, h⟩ := need_some h
    have hc := of_decide_eq_true hc
    exact ⟨loopsOk_nil _, (specPend_fun s0 s1 s2 s3 s4 s5 hc).trans h⟩
  · cases h
end Go.Proofs.Ytpoepgnhdhpkjaa.Den
