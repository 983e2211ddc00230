/- What functions of the program do, by the machine: Ses. -/
import Derived.Test.YtjghbihlgfjebaaDHeld
import Derived.KernelRfl
import Derived.Test.YtjghbihlgfjebaaRows
namespace Go.Proofs.Ytjghbihlgfjebaa.Den
open Go.Proofs
set_option maxRecDepth 100000
def eqSessionG : List V → List Blk → Br (V × List (Option Blk))
  | [.agg [.i .i64 a0, .sl .str a1, .i .i64 a2, .sl .str a3, .sl (.pair (.int .i64) (.pair (.int .i64) (.pair .str .unit))) a4, .sl (.pair (.int .i64) (.pair (.int .i64) .unit)) a5], .agg [.i .i64 b0, .sl .str b1, .i .i64 b2, .sl .str b3, .sl (.pair (.int .i64) (.pair (.int .i64) (.pair .str .unit))) b4, .sl (.pair (.int .i64) (.pair (.int .i64) .unit)) b5]], [] => .leaf (.b (decide (a0 = b0 ∧ a1 = b1 ∧ a2 = b2 ∧ a3 = b3 ∧ a4 = b4 ∧ a5 = b5)), [])
  | _, _ => .no
def markSessionG : List V → List Blk → Br (V × List (Option Blk))
  | [.agg [.i .i64 a0, .ref 0 p1 m1, .i .i64 a2, .ref 1 p3 m3, .ref 2 p4 m4, .ref 3 p5 m5], .i .i64 k], [.row false n1 .str l1, .row false n3 .str l3, .row false n4 (.pair (.int .i64) (.pair (.int .i64) (.pair .str .unit))) l4, .row false n5 (.pair (.int .i64) (.pair (.int .i64) .unit)) l5] => .need (decide (p1 + m1 ≤ l1.length ∧ p3 + m3 ≤ l3.length ∧ p4 + m4 ≤ l4.length ∧ p5 + m5 ≤ l5.length ∧ 0 ≤ k ∧ (k + 1 * (↑m1 : Int) + 1 * (↑m3 : Int) + 3 * (↑m4 : Int)) + 2 * (↑m5 : Int) ≤ lim)) (.leaf (.i .i64 ((k + 1 * (↑m1 : Int) + 1 * (↑m3 : Int) + 3 * (↑m4 : Int)) + 2 * (↑m5 : Int)), [some (.row false none .str (l1.take p1 ++ marks markStr1 1 k m1 ++ l1.drop (p1 + m1))), some (.row false none .str (l3.take p3 ++ marks markStr1 1 (k + 1 * (↑m1 : Int)) m3 ++ l3.drop (p3 + m3))), some (.row false none (.pair (.int .i64) (.pair (.int .i64) (.pair .str .unit))) (l4.take p4 ++ marks markPacket1 3 (k + 1 * (↑m1 : Int) + 1 * (↑m3 : Int)) m4 ++ l4.drop (p4 + m4))), some (.row false none (.pair (.int .i64) (.pair (.int .i64) .unit)) (l5.take p5 ++ marks markAck1 2 (k + 1 * (↑m1 : Int) + 1 * (↑m3 : Int) + 3 * (↑m4 : Int)) m5 ++ l5.drop (p5 + m5)))]))
  | _, _ => .no
def heldSessionG : List V → List Blk → Br (V × List (Option Blk))
  | [.agg [.i .i64 s0, .sl .str s1, .i .i64 s2, .sl .str s3, .sl (.pair (.int .i64) (.pair (.int .i64) (.pair .str .unit))) s4, .sl (.pair (.int .i64) (.pair (.int .i64) .unit)) s5], .i .i64 k], [] => .need (decide (0 ≤ k ∧ (k + 1 * (↑s1.length : Int) + 1 * (↑s3.length : Int) + 3 * (↑s4.length : Int)) + 2 * (↑s5.length : Int) ≤ lim)) (.br (decide (s1 = marks markStr1 1 k s1.length ∧ s3 = marks markStr1 1 (k + 1 * (↑s1.length : Int)) s3.length ∧ s4 = marks markPacket1 3 (k + 1 * (↑s1.length : Int) + 1 * (↑s3.length : Int)) s4.length ∧ s5 = marks markAck1 2 (k + 1 * (↑s1.length : Int) + 1 * (↑s3.length : Int) + 3 * (↑s4.length : Int)) s5.length)) (.leaf (.i .i64 ((k + 1 * (↑s1.length : Int) + 1 * (↑s3.length : Int) + 3 * (↑s4.length : Int)) + 2 * (↑s5.length : Int)), [])) (.leaf (.i .i64 (-1), [])))
  | _, _ => .no
theorem eqSession_fun (a0 : Int) (a1 : List (List UInt8)) (a2 : Int) (a3 : List (List UInt8)) (a4 : List (Int × Int × List UInt8 × Unit)) (a5 : List (Int × Int × Unit)) (b0 : Int) (b1 : List (List UInt8)) (b2 : Int) (b3 : List (List UInt8)) (b4 : List (Int × Int × List UInt8 × Unit)) (b5 : List (Int × Int × Unit)) : funK Try.prog (look [(71, .rd1 eqStrsG), (72, .rd1 eqPacketsG), (73, .rd1 eqAcksG)]) (look []) Try.f13 [.agg [.i .i64 a0, .sl .str a1, .i .i64 a2, .sl .str a3, .sl (.pair (.int .i64) (.pair (.int .i64) (.pair .str .unit))) a4, .sl (.pair (.int .i64) (.pair (.int .i64) .unit)) a5], .agg [.i .i64 b0, .sl .str b1, .i .i64 b2, .sl .str b3, .sl (.pair (.int .i64) (.pair (.int .i64) (.pair .str .unit))) b4, .sl (.pair (.int .i64) (.pair (.int .i64) .unit)) b5]] [] = (.leaf (.b (decide (a0 = b0 ∧ a1 = b1 ∧ a2 = b2 ∧ a3 = b3 ∧ a4 = b4 ∧ a5 = b5)), []) : Br (V × List (Option Blk))).run := by
  have e : funK Try.prog (look [(71, .rd1 eqStrsG), (72, .rd1 eqPacketsG), (73, .rd1 eqAcksG)]) (look []) Try.f13 [.agg [.i .i64 a0, .sl .str a1, .i .i64 a2, .sl .str a3, .sl (.pair (.int .i64) (.pair (.int .i64) (.pair .str .unit))) a4, .sl (.pair (.int .i64) (.pair (.int .i64) .unit)) a5], .agg [.i .i64 b0, .sl .str b1, .i .i64 b2, .sl .str b3, .sl (.pair (.int .i64) (.pair (.int .i64) (.pair .str .unit))) b4, .sl (.pair (.int .i64) (.pair (.int .i64) .unit)) b5]] [] =
    ((ifB (a0 != b0) (some (V.b false, []))
  (ifB (!decide (a1 = b1)) (some (V.b false, []))
  (ifB (a2 != b2) (some (V.b false, []))
  (ifB (!decide (a3 = b3)) (some (V.b false, []))
  (ifB (!decide (a4 = b4)) (some (V.b false, []))
  (ifB (!decide (a5 = b5)) (some (V.b false, [])) (some (V.b true, [])))))))) : _) := by kernel_rfl
  rw [e]
  simp only [Br.run]
  by_cases h0 : a0 = b0 <;> by_cases h1 : a1 = b1 <;> by_cases h2 : a2 = b2 <;> by_cases h3 : a3 = b3 <;> by_cases h4 : a4 = b4 <;> by_cases h5 : a5 = b5 <;> simp [h0, h1, h2, h3, h4, h5]
theorem eqSession : Contract Try.prog 13 (Ent.rd1 eqSessionG).F := by
  refine fun_contract' (KnowsL.cons (enters_fn Try.func71 (by kernel_rfl) (by kernel_rfl)) eqStrs (KnowsL.cons (enters_fn Try.func72 (by kernel_rfl) (by kernel_rfl)) eqPackets (KnowsL.cons (enters_fn Try.func73 (by kernel_rfl) (by kernel_rfl)) eqAcks KnowsL.nil))).knows (Λ := look []) Try.func13 (c := Try.f13.body.getD .skip) (by kernel_rfl) fun vs bs r h hv hb => ?_
  unfold Ent.F eqSessionG at h
  dsimp only at h
  split at h
  · rename_i a0 a1 a2 a3 a4 a5 b0 b1 b2 b3 b4 b5
    exact ⟨loopsOk_nil _, (eqSession_fun a0 a1 a2 a3 a4 a5 b0 b1 b2 b3 b4 b5).trans h⟩
  · cases h
theorem markSession_fun (a0 : Int) (p1 m1 : Nat) (a2 : Int) (p3 m3 p4 m4 p5 m5 : Nat) (k : Int) (n1 : Option Bool) (l1 : List (List UInt8)) (n3 : Option Bool) (l3 : List (List UInt8)) (n4 : Option Bool) (l4 : List (Int × Int × List UInt8 × Unit)) (n5 : Option Bool) (l5 : List (Int × Int × Unit)) (h1 : p1 + m1 ≤ l1.length) (h3 : p3 + m3 ≤ l3.length) (h4 : p4 + m4 ≤ l4.length) (h5 : p5 + m5 ≤ l5.length) (h0 : 0 ≤ k) (hk : (k + 1 * (↑m1 : Int) + 1 * (↑m3 : Int) + 3 * (↑m4 : Int)) + 2 * (↑m5 : Int) ≤ lim) : funK Try.prog (look [(74, .own markStrG), (75, .own markPacketG), (76, .own markAckG)]) (look []) Try.f14 [.agg [.i .i64 a0, .ref 0 p1 m1, .i .i64 a2, .ref 1 p3 m3, .ref 2 p4 m4, .ref 3 p5 m5], .i .i64 k] [.row false n1 .str l1, .row false n3 .str l3, .row false n4 (.pair (.int .i64) (.pair (.int .i64) (.pair .str .unit))) l4, .row false n5 (.pair (.int .i64) (.pair (.int .i64) .unit)) l5] = (.leaf (.i .i64 ((k + 1 * (↑m1 : Int) + 1 * (↑m3 : Int) + 3 * (↑m4 : Int)) + 2 * (↑m5 : Int)), [some (.row false none .str (l1.take p1 ++ marks markStr1 1 k m1 ++ l1.drop (p1 + m1))), some (.row false none .str (l3.take p3 ++ marks markStr1 1 (k + 1 * (↑m1 : Int)) m3 ++ l3.drop (p3 + m3))), some (.row false none (.pair (.int .i64) (.pair (.int .i64) (.pair .str .unit))) (l4.take p4 ++ marks markPacket1 3 (k + 1 * (↑m1 : Int) + 1 * (↑m3 : Int)) m4 ++ l4.drop (p4 + m4))), some (.row false none (.pair (.int .i64) (.pair (.int .i64) .unit)) (l5.take p5 ++ marks markAck1 2 (k + 1 * (↑m1 : Int) + 1 * (↑m3 : Int) + 3 * (↑m4 : Int)) m5 ++ l5.drop (p5 + m5)))]) : Br (V × List (Option Blk))).run := by
  have e : funK Try.prog (look [(74, .own markStrG), (75, .own markPacketG), (76, .own markAckG)]) (look []) Try.f14 [.agg [.i .i64 a0, .ref 0 p1 m1, .i .i64 a2, .ref 1 p3 m3, .ref 2 p4 m4, .ref 3 p5 m5], .i .i64 k] [.row false n1 .str l1, .row false n3 .str l3, .row false n4 (.pair (.int .i64) (.pair (.int .i64) (.pair .str .unit))) l4, .row false n5 (.pair (.int .i64) (.pair (.int .i64) .unit)) l5] =
    ((ifT (decide (p1 + m1 ≤ l1.length ∧ (0 : Int) ≤ k ∧ k + (1 : Int) * (↑m1 : Int) ≤ lim))
  (ifT
  (decide
  (p3 + m3 ≤ l3.length ∧
  (0 : Int) ≤ k + (1 : Int) * (↑m1 : Int) ∧ k + (1 : Int) * (↑m1 : Int) + (1 : Int) * (↑m3 : Int) ≤ lim))
  (ifT
  (decide
  (p4 + m4 ≤ l4.length ∧
  (0 : Int) ≤ k + (1 : Int) * (↑m1 : Int) + (1 : Int) * (↑m3 : Int) ∧
  k + (1 : Int) * (↑m1 : Int) + (1 : Int) * (↑m3 : Int) + (3 : Int) * (↑m4 : Int) ≤ lim))
  (ifT
  (decide
  (p5 + m5 ≤ l5.length ∧
  (0 : Int) ≤ k + (1 : Int) * (↑m1 : Int) + (1 : Int) * (↑m3 : Int) + (3 : Int) * (↑m4 : Int) ∧
  k + (1 : Int) * (↑m1 : Int) + (1 : Int) * (↑m3 : Int) + (3 : Int) * (↑m4 : Int) +
  (2 : Int) * (↑m5 : Int) ≤
  lim))
  (some
  (V.i IntKind.i64
  (k + (1 : Int) * (↑m1 : Int) + (1 : Int) * (↑m3 : Int) + (3 : Int) * (↑m4 : Int) +
  (2 : Int) * (↑m5 : Int)),
  [some
  (Blk.row false none Cd.str
  (List.take p1 l1 ++ marks markStr1 (1 : Int) k m1 ++ List.drop (p1 + m1) l1)),
  some
  (Blk.row false none Cd.str
  (List.take p3 l3 ++ marks markStr1 (1 : Int) (k + (1 : Int) * (↑m1 : Int)) m3 ++
  List.drop (p3 + m3) l3)),
  some
  (Blk.row false none ((Cd.int IntKind.i64).pair ((Cd.int IntKind.i64).pair (Cd.str.pair Cd.unit)))
  (List.take p4 l4 ++
  marks markPacket1 (3 : Int) (k + (1 : Int) * (↑m1 : Int) + (1 : Int) * (↑m3 : Int)) m4 ++
  List.drop (p4 + m4) l4)),
  some
  (Blk.row false none ((Cd.int IntKind.i64).pair ((Cd.int IntKind.i64).pair Cd.unit))
  (List.take p5 l5 ++
  marks markAck1 (2 : Int)
  (k + (1 : Int) * (↑m1 : Int) + (1 : Int) * (↑m3 : Int) + (3 : Int) * (↑m4 : Int)) m5 ++
  List.drop (p5 + m5) l5))])))))) : _) := by kernel_rfl
  rw [e]
  unfold lim at *
  rw [ifT_true (decide_eq_true ⟨h1, h0, by omega⟩), ifT_true (decide_eq_true ⟨h3, by omega, by omega⟩), ifT_true (decide_eq_true ⟨h4, by omega, by omega⟩), ifT_true (decide_eq_true ⟨h5, by omega, by omega⟩)]
  rfl
theorem markSession : Contract Try.prog 14 (Ent.own markSessionG).F := by
  refine fun_contract' (KnowsL.cons (enters_fn Try.func74 (by kernel_rfl) (by kernel_rfl)) markStr (KnowsL.cons (enters_fn Try.func75 (by kernel_rfl) (by kernel_rfl)) markPacket (KnowsL.cons (enters_fn Try.func76 (by kernel_rfl) (by kernel_rfl)) markAck KnowsL.nil))).knows (Λ := look []) Try.func14 (c := Try.f14.body.getD .skip) (by kernel_rfl) fun vs bs r h hv hb => ?_
  unfold Ent.F markSessionG at h
  dsimp only at h
  split at h
  · rename_i a0 p1 m1 a2 p3 m3 p4 m4 p5 m5 k n1 l1 n3 l3 n4 l4 n5 l5
    obtain ⟨hc, h⟩ := need_some h
    have hc := of_decide_eq_true hc
    exact ⟨loopsOk_nil _, (markSession_fun a0 p1 m1 a2 p3 m3 p4 m4 p5 m5 k n1 l1 n3 l3 n4 l4 n5 l5 hc.1 hc.2.1 hc.2.2.1 hc.2.2.2.1 hc.2.2.2.2.1 hc.2.2.2.2.2).trans h⟩
  · cases h
theorem heldSession_fun (s0 : Int) (s1 : List (List UInt8)) (s2 : Int) (s3 : List (List UInt8)) (s4 : List (Int × Int × List UInt8 × Unit)) (s5 : List (Int × Int × Unit)) (k : Int) (h0 : 0 ≤ k) (hk : (k + 1 * (↑s1.length : Int) + 1 * (↑s3.length : Int) + 3 * (↑s4.length : Int)) + 2 * (↑s5.length : Int) ≤ lim) : funK Try.prog (look [(77, .rd1 heldStrG), (78, .rd1 heldPacketG), (79, .rd1 heldAckG)]) (look []) Try.f15 [.agg [.i .i64 s0, .sl .str s1, .i .i64 s2, .sl .str s3, .sl (.pair (.int .i64) (.pair (.int .i64) (.pair .str .unit))) s4, .sl (.pair (.int .i64) (.pair (.int .i64) .unit)) s5], .i .i64 k] [] = (.br (decide (s1 = marks markStr1 1 k s1.length ∧ s3 = marks markStr1 1 (k + 1 * (↑s1.length : Int)) s3.length ∧ s4 = marks markPacket1 3 (k + 1 * (↑s1.length : Int) + 1 * (↑s3.length : Int)) s4.length ∧ s5 = marks markAck1 2 (k + 1 * (↑s1.length : Int) + 1 * (↑s3.length : Int) + 3 * (↑s4.length : Int)) s5.length)) (.leaf (.i .i64 ((k + 1 * (↑s1.length : Int) + 1 * (↑s3.length : Int) + 3 * (↑s4.length : Int)) + 2 * (↑s5.length : Int)), [])) (.leaf (.i .i64 (-1), [])) : Br (V × List (Option Blk))).run := by
  have e : funK Try.prog (look [(77, .rd1 heldStrG), (78, .rd1 heldPacketG), (79, .rd1 heldAckG)]) (look []) Try.f15 [.agg [.i .i64 s0, .sl .str s1, .i .i64 s2, .sl .str s3, .sl (.pair (.int .i64) (.pair (.int .i64) (.pair .str .unit))) s4, .sl (.pair (.int .i64) (.pair (.int .i64) .unit)) s5], .i .i64 k] [] =
    ((ifT (decide ((0 : Int) ≤ k ∧ k + (1 : Int) * (↑s1.length : Int) ≤ lim))
  (ifB (decide (s1 = marks markStr1 (1 : Int) k s1.length))
  (ifB (decide (k + (1 : Int) * (↑s1.length : Int) < (0 : Int))) (some (V.i IntKind.i64 (-1 : Int), []))
  (ifT
  (decide
  ((0 : Int) ≤ k + (1 : Int) * (↑s1.length : Int) ∧
  k + (1 : Int) * (↑s1.length : Int) + (1 : Int) * (↑s3.length : Int) ≤ lim))
  (ifB (decide (s3 = marks markStr1 (1 : Int) (k + (1 : Int) * (↑s1.length : Int)) s3.length))
  (ifB (decide (k + (1 : Int) * (↑s1.length : Int) + (1 : Int) * (↑s3.length : Int) < (0 : Int)))
  (some (V.i IntKind.i64 (-1 : Int), []))
  (ifT
  (decide
  ((0 : Int) ≤ k + (1 : Int) * (↑s1.length : Int) + (1 : Int) * (↑s3.length : Int) ∧
  k + (1 : Int) * (↑s1.length : Int) + (1 : Int) * (↑s3.length : Int) + (3 : Int) * (↑s4.length : Int) ≤
  lim))
  (ifB
  (decide
  (s4 =
  marks markPacket1 (3 : Int) (k + (1 : Int) * (↑s1.length : Int) + (1 : Int) * (↑s3.length : Int))
  s4.length))
  (ifB
  (decide
  (k + (1 : Int) * (↑s1.length : Int) + (1 : Int) * (↑s3.length : Int) +
  (3 : Int) * (↑s4.length : Int) <
  (0 : Int)))
  (some (V.i IntKind.i64 (-1 : Int), []))
  (ifT
  (decide
  ((0 : Int) ≤
  k + (1 : Int) * (↑s1.length : Int) + (1 : Int) * (↑s3.length : Int) +
  (3 : Int) * (↑s4.length : Int) ∧
  k + (1 : Int) * (↑s1.length : Int) + (1 : Int) * (↑s3.length : Int) +
  (3 : Int) * (↑s4.length : Int) +
  (2 : Int) * (↑s5.length : Int) ≤
  lim))
  (ifB
  (decide
  (s5 =
  marks markAck1 (2 : Int)
  (k + (1 : Int) * (↑s1.length : Int) + (1 : Int) * (↑s3.length : Int) +
  (3 : Int) * (↑s4.length : Int))
  s5.length))
  (ifB
  (decide
  (k + (1 : Int) * (↑s1.length : Int) + (1 : Int) * (↑s3.length : Int) +
  (3 : Int) * (↑s4.length : Int) +
  (2 : Int) * (↑s5.length : Int) <
  (0 : Int)))
  (some (V.i IntKind.i64 (-1 : Int), []))
  (some
  (V.i IntKind.i64
  (k + (1 : Int) * (↑s1.length : Int) + (1 : Int) * (↑s3.length : Int) +
  (3 : Int) * (↑s4.length : Int) +
  (2 : Int) * (↑s5.length : Int)),
  [])))
  (some (V.i IntKind.i64 (-1 : Int), [])))))
  (some (V.i IntKind.i64 (-1 : Int), [])))))
  (some (V.i IntKind.i64 (-1 : Int), [])))))
  (some (V.i IntKind.i64 (-1 : Int), [])))) : _) := by kernel_rfl
  rw [e]
  unfold lim at *
  rw [br_run, ifT_true (decide_eq_true ⟨by omega, by omega⟩)]
  by_cases q0 : s1 = marks markStr1 1 k s1.length
  · rw [ifB_true (decide_eq_true q0), ifB_false (decide_eq_false (by omega)), ifT_true (decide_eq_true ⟨by omega, by omega⟩)]
    by_cases q1 : s3 = marks markStr1 1 (k + 1 * (↑s1.length : Int)) s3.length
    · rw [ifB_true (decide_eq_true q1), ifB_false (decide_eq_false (by omega)), ifT_true (decide_eq_true ⟨by omega, by omega⟩)]
      by_cases q2 : s4 = marks markPacket1 3 (k + 1 * (↑s1.length : Int) + 1 * (↑s3.length : Int)) s4.length
      · rw [ifB_true (decide_eq_true q2), ifB_false (decide_eq_false (by omega)), ifT_true (decide_eq_true ⟨by omega, by omega⟩)]
        by_cases q3 : s5 = marks markAck1 2 (k + 1 * (↑s1.length : Int) + 1 * (↑s3.length : Int) + 3 * (↑s4.length : Int)) s5.length
        · rw [ifB_true (decide_eq_true q3), ifB_false (decide_eq_false (by omega)), if_pos ⟨q0, q1, q2, q3⟩]; rfl
        · rw [ifB_false (decide_eq_false q3), if_neg (fun h => q3 h.2.2.2)]; rfl
      · rw [ifB_false (decide_eq_false q2), if_neg (fun h => q2 h.2.2.1)]; rfl
    · rw [ifB_false (decide_eq_false q1), if_neg (fun h => q1 h.2.1)]; rfl
  · rw [ifB_false (decide_eq_false q0), if_neg (fun h => q0 h.1)]; rfl
theorem heldSession : Contract Try.prog 15 (Ent.rd1 heldSessionG).F := by
  refine fun_contract' (KnowsL.cons (enters_fn Try.func77 (by kernel_rfl) (by kernel_rfl)) heldStr (KnowsL.cons (enters_fn Try.func78 (by kernel_rfl) (by kernel_rfl)) heldPacket (KnowsL.cons (enters_fn Try.func79 (by kernel_rfl) (by kernel_rfl)) heldAck KnowsL.nil))).knows (Λ := look []) Try.func15 (c := Try.f15.body.getD .skip) (by kernel_rfl) fun vs bs r h hv hb => ?_
  unfold Ent.F heldSessionG at h
  dsimp only at h
  split at h
  · rename_i s0 s1 s2 s3 s4 s5 k
    obtain ⟨hc, h⟩ := need_some h
    have hc := of_decide_eq_true hc
    exact ⟨loopsOk_nil _, (heldSession_fun s0 s1 s2 s3 s4 s5 k hc.1 hc.2).trans h⟩
  · cases h
end Go.Proofs.Ytjghbihlgfjebaa.Den
