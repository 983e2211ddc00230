/- What functions of the program do, by the machine: PendI. -/
import Derived.Test.YtjghbihlgfjebaaDSame2
import Derived.KernelRfl
import Derived.Test.YtjghbihlgfjebaaRows
namespace Go.Proofs.Ytjghbihlgfjebaa.Den
open Go.Proofs
set_option maxRecDepth 100000
def implPendG : List V → List Blk → Br (V × List (Option Blk))
  | [.agg [.i .i64 s0, .sl .str s1, .i .i64 s2, .sl .str s3, .sl (.pair (.int .i64) (.pair (.int .i64) (.pair .str .unit))) s4, .sl (.pair (.int .i64) (.pair (.int .i64) .unit)) s5]], [] => .need (decide (s3.length ≤ lim)) (.br (goodS s0 s1 s2 s3 s4 s5) (.leaf (.tup [.ref 0 0 (s1.length - s3.length), .b true], [some (.row false none .str (s1.drop s3.length))])) (.leaf (.tup [.ref 0 0 0, .b false], [some (.row false none .str [])])))
  | _, _ => .no
theorem implPend_fun (s0 : Int) (s1 : List (List UInt8)) (s2 : Int) (s3 : List (List UInt8)) (s4 : List (Int × Int × List UInt8 × Unit)) (s5 : List (Int × Int × Unit)) (h3 : s3.length ≤ lim) : funN Try.prog (look [(30, .rd1 implGoodG), (102, .rd1 cloneStrG)]) (look []) Try.f31 [.agg [.i .i64 s0, .sl .str s1, .i .i64 s2, .sl .str s3, .sl (.pair (.int .i64) (.pair (.int .i64) (.pair .str .unit))) s4, .sl (.pair (.int .i64) (.pair (.int .i64) .unit)) s5]] [] = (.br (goodS s0 s1 s2 s3 s4 s5) (.leaf (.tup [.ref 0 0 (s1.length - s3.length), .b true], [some (.row false none .str (s1.drop s3.length))])) (.leaf (.tup [.ref 0 0 0, .b false], [some (.row false none .str [])])) : Br (V × List (Option Blk))).run := by
  have e : funN Try.prog (look [(30, .rd1 implGoodG), (102, .rd1 cloneStrG)]) (look []) Try.f31 [.agg [.i .i64 s0, .sl .str s1, .i .i64 s2, .sl .str s3, .sl (.pair (.int .i64) (.pair (.int .i64) (.pair .str .unit))) s4, .sl (.pair (.int .i64) (.pair (.int .i64) .unit)) s5]] [] =
    ((ifB (!goodS s0 s1 s2 s3 s4 s5)
  (some (V.tup [V.ref (0 : Nat) (0 : Nat) (0 : Nat), V.b false], [some (Blk.row false none Cd.str (nilT Cd.str.den))]))
  (ifT (decide ((0 : Int) ≤ (↑s3.length : Int)) && decide ((↑s3.length : Int) ≤ (↑s1.length : Int)))
  (ifT
  (decide
  ((List.take (s1.length - (↑s3.length : Int).toNat) (List.drop (↑s3.length : Int).toNat s1)).length ≤
  (1000000000 : Nat)))
  (some
  (V.tup
  [V.ref (0 : Nat) (0 : Nat)
  (List.take (s1.length - (↑s3.length : Int).toNat) (List.drop (↑s3.length : Int).toNat s1)).length,
  V.b true],
  [some
  (Blk.row false none Cd.str
  (List.take (s1.length - (↑s3.length : Int).toNat) (List.drop (↑s3.length : Int).toNat s1)))]))))) : _) := by kernel_rfl
  rw [e]
  cases q : goodS s0 s1 s2 s3 s4 s5 with
  | false => rfl
  | true =>
    obtain ⟨-, h1, -, h2, -⟩ := good_len q
    simp only [ifB_not, ifB_t, ifB_f, Br.run]
    have e3 : List.take (s1.length - s3.length) (List.drop s3.length s1) = s1.drop s3.length := List.take_of_length_le (by simp)
    simp only [Int.toNat_natCast, e3, List.length_drop]
    rw [ifT_true (by simp; omega), ifT_true (decide_eq_true (by omega))]
theorem implPend : Contract Try.prog 31 (Ent.rd1 implPendG).F := by
  refine fun_contractN' (KnowsL.cons (enters_fn Try.func30 (by kernel_rfl) (by kernel_rfl)) implGood (KnowsL.cons (enters_fn Try.func102 (by kernel_rfl) (by kernel_rfl)) cloneStr KnowsL.nil)).knows (Λ := look []) Try.func31 (c := Try.f31.body.getD .skip) (by kernel_rfl) fun vs bs r h hv hb => ?_
  unfold Ent.F implPendG at h
  dsimp only at h
  split at h
  · rename_i s0 s1 s2 s3 s4 s5
    obtain ⟨hc, h⟩ := need_some h
    have hc := of_decide_eq_true hc
    exact ⟨loopsOk_nil _, (implPend_fun s0 s1 s2 s3 s4 s5 hc).trans h⟩
  · cases h
end Go.Proofs.Ytjghbihlgfjebaa.Den
