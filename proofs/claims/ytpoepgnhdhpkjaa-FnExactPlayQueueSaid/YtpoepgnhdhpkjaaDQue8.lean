/- What functions of the program do, by the machine: Que8. -/
import Derived.Test.YtpoepgnhdhpkjaaDSzI
import Derived.KernelRfl
import Derived.Test.YtpoepgnhdhpkjaaRows
namespace Go.Proofs.Ytpoepgnhdhpkjaa.Den
open Go.Proofs
set_option maxRecDepth 100000
def eqQueueG : List V → List Blk → Br (V × List (Option Blk))
  | [.agg [.i .i64 a0, .i .i64 a1, .i .i64 a2, .sl (.int .i64) a3, .sl (.int .i64) a4, .sl (.int .i64) a5], .agg [.i .i64 b0, .i .i64 b1, .i .i64 b2, .sl (.int .i64) b3, .sl (.int .i64) b4, .sl (.int .i64) b5]], [] => .leaf (.b (decide (a0 = b0 ∧ a1 = b1 ∧ a2 = b2 ∧ a3 = b3 ∧ a4 = b4 ∧ a5 = b5)), [])
  | _, _ => .no
def markQueueG : List V → List Blk → Br (V × List (Option Blk))
  | [.agg [.i .i64 a0, .i .i64 a1, .i .i64 a2, .ref 0 p3 m3, .ref 1 p4 m4, .ref 2 p5 m5], .i .i64 k], [.row false n3 (.int .i64) l3, .row false n4 (.int .i64) l4, .row false n5 (.int .i64) l5] => .need (decide (p3 + m3 ≤ l3.length ∧ p4 + m4 ≤ l4.length ∧ p5 + m5 ≤ l5.length ∧ 0 ≤ k ∧ (k + 1 * (↑m3 : Int) + 1 * (↑m4 : Int)) + 1 * (↑m5 : Int) ≤ lim)) (.leaf (.i .i64 ((k + 1 * (↑m3 : Int) + 1 * (↑m4 : Int)) + 1 * (↑m5 : Int)), [some (.row false none (.int .i64) (l3.take p3 ++ marks markInt1 1 k m3 ++ l3.drop (p3 + m3))), some (.row false none (.int .i64) (l4.take p4 ++ marks markInt1 1 (k + 1 * (↑m3 : Int)) m4 ++ l4.drop (p4 + m4))), some (.row false none (.int .i64) (l5.take p5 ++ marks markInt1 1 (k + 1 * (↑m3 : Int) + 1 * (↑m4 : Int)) m5 ++ l5.drop (p5 + m5)))]))
  | _, _ => .no
def heldQueueG : List V → List Blk → Br (V × List (Option Blk))
  | [.agg [.i .i64 s0, .i .i64 s1, .i .i64 s2, .sl (.int .i64) s3, .sl (.int .i64) s4, .sl (.int .i64) s5], .i .i64 k], [] => .need (decide (0 ≤ k ∧ (k + 1 * (↑s3.length : Int) + 1 * (↑s4.length : Int)) + 1 * (↑s5.length : Int) ≤ lim)) (.br (decide (s3 = marks markInt1 1 k s3.length ∧ s4 = marks markInt1 1 (k + 1 * (↑s3.length : Int)) s4.length ∧ s5 = marks markInt1 1 (k + 1 * (↑s3.length : Int) + 1 * (↑s4.length : Int)) s5.length)) (.leaf (.i .i64 ((k + 1 * (↑s3.length : Int) + 1 * (↑s4.length : Int)) + 1 * (↑s5.length : Int)), [])) (.leaf (.i .i64 (-1), [])))
  | _, _ => .no
def toQueueG : List V → List Blk → Br (V × List (Option Blk))
  | [.agg [.i .i64 s0, .i .i64 s1, .i .i64 s2, .sl (.int .i64) s3, .sl (.int .i64) s4, .sl (.int .i64) s5]], [] => .need (decide (s3.length ≤ 1000000000 ∧ s4.length ≤ 1000000000 ∧ s5.length ≤ 1000000000)) (.leaf (.agg [.i .i64 s0, .i .i64 s1, .i .i64 s2, .ref 0 0 s3.length, .ref 1 0 s4.length, .ref 2 0 s5.length], [some (.row false none (.int .i64) s3), some (.row false none (.int .i64) s4), some (.row false none (.int .i64) s5)]))
  | _, _ => .no
def szQueueG : List V → List Blk → Br (V × List (Option Blk))
  | [.agg [.i .i64 s0, .i .i64 s1, .i .i64 s2, .sl (.int .i64) s3, .sl (.int .i64) s4, .sl (.int .i64) s5], .i .i64 k], [] => .need (decide (0 ≤ k ∧ k ≤ lim)) (.br (decide ((((k - (↑s3.length : Int)) - (↑s4.length : Int)) - (↑s5.length : Int)) < 0)) (.leaf (.i .i64 (-1), [])) (.leaf (.i .i64 (((k - (↑s3.length : Int)) - (↑s4.length : Int)) - (↑s5.length : Int)), [])))
  | _, _ => .no
theorem eqQueue_fun (a0 a1 a2 : Int) (a3 a4 a5 : List Int) (b0 b1 b2 : Int) (b3 b4 b5 : List Int) : funK Try.prog (look [(30, .rd1 eqIntsG)]) (look []) Try.f22 [.agg [.i .i64 a0, .i .i64 a1, .i .i64 a2, .sl (.int .i64) a3, .sl (.int .i64) a4, .sl (.int .i64) a5], .agg [.i .i64 b0, .i .i64 b1, .i .i64 b2, .sl (.int .i64) b3, .sl (.int .i64) b4, .sl (.int .i64) b5]] [] = (.leaf (.b (decide (a0 = b0 ∧ a1 = b1 ∧ a2 = b2 ∧ a3 = b3 ∧ a4 = b4 ∧ a5 = b5)), []) : Br (V × List (Option Blk))).run := by
  have e : funK Try.prog (look [(30, .rd1 eqIntsG)]) (look []) Try.f22 [.agg [.i .i64 a0, .i .i64 a1, .i .i64 a2, .sl (.int .i64) a3, .sl (.int .i64) a4, .sl (.int .i64) a5], .agg [.i .i64 b0, .i .i64 b1, .i .i64 b2, .sl (.int .i64) b3, .sl (.int .i64) b4, .sl (.int .i64) b5]] [] =
    ((ifB (a0 != b0) (some (V.b false, []))
  (ifB (a1 != b1) (some (V.b false, []))
  (ifB (a2 != b2) (some (V.b false, []))
  (ifB (!decide (a3 = b3)) (some (V.b false, []))
  (ifB (!decide (a4 = b4)) (some (V.b false, []))
  (ifB (!decide (a5 = b5)) (some (V.b false, [])) (some (V.b true, [])))))))) : _) := by kernel_rfl
  rw [e]
  simp only [Br.run]
  by_cases h0 : a0 = b0 <;> by_cases h1 : a1 = b1 <;> by_cases h2 : a2 = b2 <;> by_cases h3 : a3 = b3 <;> by_cases h4 : a4 = b4 <;> by_cases h5 : a5 = b5 <;> simp [h0, h1, h2, h3, h4, h5]
theorem eqQueue : Contract Try.prog 22 (Ent.rd1 eqQueueG).F := by
  refine fun_contract' (KnowsL.cons (enters_fn Try.func30 (by kernel_rfl) (by kernel_rfl)) eqInts KnowsL.nil).knows (Λ := look []) Try.func22 (c := Try.f22.body.getD .skip) (by kernel_rfl) fun vs bs r h hv hb => ?_
  unfold Ent.F eqQueueG at h
  dsimp only at h
  split at h
  · rename_i a0 a1 a2 a3 a4 a5 b0 b1 b2 b3 b4 b5
    exact ⟨loopsOk_nil _, (eqQueue_fun a0 a1 a2 a3 a4 a5 b0 b1 b2 b3 b4 b5).trans h⟩
  · cases h
theorem markQueue_fun (a0 a1 a2 : Int) (p3 m3 p4 m4 p5 m5 : Nat) (k : Int) (n3 : Option Bool) (l3 : List Int) (n4 : Option Bool) (l4 : List Int) (n5 : Option Bool) (l5 : List Int) (h3 : p3 + m3 ≤ l3.length) (h4 : p4 + m4 ≤ l4.length) (h5 : p5 + m5 ≤ l5.length) (h0 : 0 ≤ k) (hk : (k + 1 * (↑m3 : Int) + 1 * (↑m4 : Int)) + 1 * (↑m5 : Int) ≤ lim) : funK Try.prog (look [(33, .own markIntG)]) (look []) Try.f23 [.agg [.i .i64 a0, .i .i64 a1, .i .i64 a2, .ref 0 p3 m3, .ref 1 p4 m4, .ref 2 p5 m5], .i .i64 k] [.row false n3 (.int .i64) l3, .row false n4 (.int .i64) l4, .row false n5 (.int .i64) l5] = (.leaf (.i .i64 ((k + 1 * (↑m3 : Int) + 1 * (↑m4 : Int)) + 1 * (↑m5 : Int)), [some (.row false none (.int .i64) (l3.take p3 ++ marks markInt1 1 k m3 ++ l3.drop (p3 + m3))), some (.row false none (.int .i64) (l4.take p4 ++ marks markInt1 1 (k + 1 * (↑m3 : Int)) m4 ++ l4.drop (p4 + m4))), some (.row false none (.int .i64) (l5.take p5 ++ marks markInt1 1 (k + 1 * (↑m3 : Int) + 1 * (↑m4 : Int)) m5 ++ l5.drop (p5 + m5)))]) : Br (V × List (Option Blk))).run := by
  have e : funK Try.prog (look [(33, .own markIntG)]) (look []) Try.f23 [.agg [.i .i64 a0, .i .i64 a1, .i .i64 a2, .ref 0 p3 m3, .ref 1 p4 m4, .ref 2 p5 m5], .i .i64 k] [.row false n3 (.int .i64) l3, .row false n4 (.int .i64) l4, .row false n5 (.int .i64) l5] =
    ((ifT (decide (p3 + m3 ≤ l3.length ∧ (0 : Int) ≤ k ∧ k + (1 : Int) * (↑m3 : Int) ≤ lim))
  (ifT
  (decide
  (p4 + m4 ≤ l4.length ∧
  (0 : Int) ≤ k + (1 : Int) * (↑m3 : Int) ∧ k + (1 : Int) * (↑m3 : Int) + (1 : Int) * (↑m4 : Int) ≤ lim))
  (ifT
  (decide
  (p5 + m5 ≤ l5.length ∧
  (0 : Int) ≤ k + (1 : Int) * (↑m3 : Int) + (1 : Int) * (↑m4 : Int) ∧
  k + (1 : Int) * (↑m3 : Int) + (1 : Int) * (↑m4 : Int) + (1 : Int) * (↑m5 : Int) ≤ lim))
  (some
  (V.i IntKind.i64 (k + (1 : Int) * (↑m3 : Int) + (1 : Int) * (↑m4 : Int) + (1 : Int) * (↑m5 : Int)),
  [some
  (Blk.row false none (Cd.int IntKind.i64)
  (List.take p3 l3 ++ marks markInt1 (1 : Int) k m3 ++ List.drop (p3 + m3) l3)),
  some
  (Blk.row false none (Cd.int IntKind.i64)
  (List.take p4 l4 ++ marks markInt1 (1 : Int) (k + (1 : Int) * (↑m3 : Int)) m4 ++
  List.drop (p4 + m4) l4)),
  some
  (Blk.row false none (Cd.int IntKind.i64)
  (List.take p5 l5 ++
  marks markInt1 (1 : Int) (k + (1 : Int) * (↑m3 : Int) + (1 : Int) * (↑m4 : Int)) m5 ++
  List.drop (p5 + m5) l5))]))))) : _) := by kernel_rfl
  rw [e]
  unfold lim at *
  rw [ifT_true (decide_eq_true ⟨h3, h0, by omega⟩), ifT_true (decide_eq_true ⟨h4, by omega, by omega⟩), ifT_true (decide_eq_true ⟨h5, by omega, by omega⟩)]
  rfl
theorem markQueue : Contract Try.prog 23 (Ent.own markQueueG).F := by
  refine fun_contract' (KnowsL.cons (enters_fn Try.func33 (by kernel_rfl) (by kernel_rfl)) markInt KnowsL.nil).knows (Λ := look []) Try.func23 (c := Try.f23.body.getD .skip) (by kernel_rfl) fun vs bs r h hv hb => ?_
  unfold Ent.F markQueueG at h
  dsimp only at h
  split at h
  · rename_i a0 a1 a2 p3 m3 p4 m4 p5 m5 k n3 l3 n4 l4 n5 l5
    obtain ⟨hc, h⟩ := need_some h
    have hc := of_decide_eq_true hc
    exact ⟨loopsOk_nil _, (markQueue_fun a0 a1 a2 p3 m3 p4 m4 p5 m5 k n3 l3 n4 l4 n5 l5 hc.1 hc.2.1 hc.2.2.1 hc.2.2.2.1 hc.2.2.2.2).trans h⟩
  · cases h
theorem heldQueue_fun (s0 s1 s2 : Int) (s3 s4 s5 : List Int) (k : Int) (h0 : 0 ≤ k) (hk : (k + 1 * (↑s3.length : Int) + 1 * (↑s4.length : Int)) + 1 * (↑s5.length : Int) ≤ lim) : funK Try.prog (look [(34, .rd1 heldIntG)]) (look []) Try.f24 [.agg [.i .i64 s0, .i .i64 s1, .i .i64 s2, .sl (.int .i64) s3, .sl (.int .i64) s4, .sl (.int .i64) s5], .i .i64 k] [] = (.br (decide (s3 = marks markInt1 1 k s3.length ∧ s4 = marks markInt1 1 (k + 1 * (↑s3.length : Int)) s4.length ∧ s5 = marks markInt1 1 (k + 1 * (↑s3.length : Int) + 1 * (↑s4.length : Int)) s5.length)) (.leaf (.i .i64 ((k + 1 * (↑s3.length : Int) + 1 * (↑s4.length : Int)) + 1 * (↑s5.length : Int)), [])) (.leaf (.i .i64 (-1), [])) : Br (V × List (Option Blk))).run := by
  have e : funK Try.prog (look [(34, .rd1 heldIntG)]) (look []) Try.f24 [.agg [.i .i64 s0, .i .i64 s1, .i .i64 s2, .sl (.int .i64) s3, .sl (.int .i64) s4, .sl (.int .i64) s5], .i .i64 k] [] =
    ((ifT (decide ((0 : Int) ≤ k ∧ k + (1 : Int) * (↑s3.length : Int) ≤ lim))
  (ifB (decide (s3 = marks markInt1 (1 : Int) k s3.length))
  (ifB (decide (k + (1 : Int) * (↑s3.length : Int) < (0 : Int))) (some (V.i IntKind.i64 (-1 : Int), []))
  (ifT
  (decide
  ((0 : Int) ≤ k + (1 : Int) * (↑s3.length : Int) ∧
  k + (1 : Int) * (↑s3.length : Int) + (1 : Int) * (↑s4.length : Int) ≤ lim))
  (ifB (decide (s4 = marks markInt1 (1 : Int) (k + (1 : Int) * (↑s3.length : Int)) s4.length))
  (ifB (decide (k + (1 : Int) * (↑s3.length : Int) + (1 : Int) * (↑s4.length : Int) < (0 : Int)))
  (some (V.i IntKind.i64 (-1 : Int), []))
  (ifT
  (decide
  ((0 : Int) ≤ k + (1 : Int) * (↑s3.length : Int) + (1 : Int) * (↑s4.length : Int) ∧
  k + (1 : Int) * (↑s3.length : Int) + (1 : Int) * (↑s4.length : Int) + (1 : Int) * (↑s5.length : Int) ≤
  lim))
  (ifB
  (decide
  (s5 =
  marks markInt1 (1 : Int) (k + (1 : Int) * (↑s3.length : Int) + (1 : Int) * (↑s4.length : Int))
  s5.length))
  (ifB
  (decide
  (k + (1 : Int) * (↑s3.length : Int) + (1 : Int) * (↑s4.length : Int) +
  (1 : Int) * (↑s5.length : Int) <
  (0 : Int)))
  (some (V.i IntKind.i64 (-1 : Int), []))
  (some
  (V.i IntKind.i64
  (k + (1 : Int) * (↑s3.length : Int) + (1 : Int) * (↑s4.length : Int) +
  (1 : Int) * (↑s5.length : Int)),
  [])))
  (some (V.i IntKind.i64 (-1 : Int), [])))))
  (some (V.i IntKind.i64 (-1 : Int), [])))))
  (some (V.i IntKind.i64 (-1 : Int), [])))) : _) := by kernel_rfl
  rw [e]
  unfold lim at *
  rw [br_run, ifT_true (decide_eq_true ⟨by omega, by omega⟩)]
  by_cases q0 : s3 = marks markInt1 1 k s3.length
  · rw [ifB_true (decide_eq_true q0), ifB_false (decide_eq_false (by omega)), ifT_true (decide_eq_true ⟨by omega, by omega⟩)]
    by_cases q1 : s4 = marks markInt1 1 (k + 1 * (↑s3.length : Int)) s4.length
    · rw [ifB_true (decide_eq_true q1), ifB_false (decide_eq_false (by omega)), ifT_true (decide_eq_true ⟨by omega, by omega⟩)]
      by_cases q2 : s5 = marks markInt1 1 (k + 1 * (↑s3.length : Int) + 1 * (↑s4.length : Int)) s5.length
      · rw [ifB_true (decide_eq_true q2), ifB_false (decide_eq_false (by omega)), if_pos ⟨q0, q1, q2⟩]; rfl
      · rw [ifB_false (decide_eq_false q2), if_neg (fun h => q2 h.2.2)]; rfl
    · rw [ifB_false (decide_eq_false q1), if_neg (fun h => q1 h.2.1)]; rfl
  · rw [ifB_false (decide_eq_false q0), if_neg (fun h => q0 h.1)]; rfl
theorem heldQueue : Contract Try.prog 24 (Ent.rd1 heldQueueG).F := by
  refine fun_contract' (KnowsL.cons (enters_fn Try.func34 (by kernel_rfl) (by kernel_rfl)) heldInt KnowsL.nil).knows (Λ := look []) Try.func24 (c := Try.f24.body.getD .skip) (by kernel_rfl) fun vs bs r h hv hb => ?_
  unfold Ent.F heldQueueG at h
  dsimp only at h
  split at h
  · rename_i s0 s1 s2 s3 s4 s5 k
    obtain ⟨hc, h⟩ := need_some h
    have hc := of_decide_eq_true hc
    exact ⟨loopsOk_nil _, (heldQueue_fun s0 s1 s2 s3 s4 s5 k hc.1 hc.2).trans h⟩
  · cases h
theorem toQueue_fun (s0 s1 s2 : Int) (s3 s4 s5 : List Int) (h3 : s3.length ≤ 1000000000) (h4 : s4.length ≤ 1000000000) (h5 : s5.length ≤ 1000000000) : funK Try.prog (look [(65, .rd1 toIntsG)]) (look []) Try.f20 [.agg [.i .i64 s0, .i .i64 s1, .i .i64 s2, .sl (.int .i64) s3, .sl (.int .i64) s4, .sl (.int .i64) s5]] [] = (.leaf (.agg [.i .i64 s0, .i .i64 s1, .i .i64 s2, .ref 0 0 s3.length, .ref 1 0 s4.length, .ref 2 0 s5.length], [some (.row false none (.int .i64) s3), some (.row false none (.int .i64) s4), some (.row false none (.int .i64) s5)]) : Br (V × List (Option Blk))).run := by
  have e : funK Try.prog (look [(65, .rd1 toIntsG)]) (look []) Try.f20 [.agg [.i .i64 s0, .i .i64 s1, .i .i64 s2, .sl (.int .i64) s3, .sl (.int .i64) s4, .sl (.int .i64) s5]] [] =
    ((ifT (decide (s3.length ≤ (1000000000 : Nat)))
  (ifT (decide (s4.length ≤ (1000000000 : Nat)))
  (ifT (decide (s5.length ≤ (1000000000 : Nat)))
  (some
  (V.agg
  [V.i IntKind.i64 s0, V.i IntKind.i64 s1, V.i IntKind.i64 s2, V.ref (0 : Nat) (0 : Nat) s3.length,
  V.ref (1 : Nat) (0 : Nat) s4.length, V.ref (2 : Nat) (0 : Nat) s5.length],
  [some (Blk.row false none (Cd.int IntKind.i64) s3), some (Blk.row false none (Cd.int IntKind.i64) s4),
  some (Blk.row false none (Cd.int IntKind.i64) s5)]))))) : _) := by kernel_rfl
  rw [e]
  rw [ifT_true (decide_eq_true h3), ifT_true (decide_eq_true h4), ifT_true (decide_eq_true h5)]
  rfl
theorem toQueue : Contract Try.prog 20 (Ent.rd1 toQueueG).F := by
  refine fun_contract' (KnowsL.cons (enters_fn Try.func65 (by kernel_rfl) (by kernel_rfl)) toInts KnowsL.nil).knows (Λ := look []) Try.func20 (c := Try.f20.body.getD .skip) (by kernel_rfl) fun vs bs r h hv hb => ?_
  unfold Ent.F toQueueG at h
  dsimp only at h
  split at h
  · rename_i s0 s1 s2 s3 s4 s5
    obtain ⟨hc, h⟩ := need_some h
    have hc := of_decide_eq_true hc
    exact ⟨loopsOk_nil _, (toQueue_fun s0 s1 s2 s3 s4 s5 hc.1 hc.2.1 hc.2.2).trans h⟩
  · cases h
theorem szQueue_fun (s0 s1 s2 : Int) (s3 s4 s5 : List Int) (k : Int) (h0 : 0 ≤ k) (hk : k ≤ lim) : funK Try.prog (look [(61, .rd1 szIntsG)]) (look []) Try.f18 [.agg [.i .i64 s0, .i .i64 s1, .i .i64 s2, .sl (.int .i64) s3, .sl (.int .i64) s4, .sl (.int .i64) s5], .i .i64 k] [] = (.br (decide ((((k - (↑s3.length : Int)) - (↑s4.length : Int)) - (↑s5.length : Int)) < 0)) (.leaf (.i .i64 (-1), [])) (.leaf (.i .i64 (((k - (↑s3.length : Int)) - (↑s4.length : Int)) - (↑s5.length : Int)), [])) : Br (V × List (Option Blk))).run := by
  have e : funK Try.prog (look [(61, .rd1 szIntsG)]) (look []) Try.f18 [.agg [.i .i64 s0, .i .i64 s1, .i .i64 s2, .sl (.int .i64) s3, .sl (.int .i64) s4, .sl (.int .i64) s5], .i .i64 k] [] =
    ((ifT (decide ((0 : Int) ≤ k ∧ k ≤ lim))
  (ifB (decide (k - (↑s3.length : Int) < (0 : Int))) (some (V.i IntKind.i64 (-1 : Int), []))
  (ifB (decide (k - (↑s3.length : Int) < (0 : Int))) (some (V.i IntKind.i64 (-1 : Int), []))
  (ifT (decide ((0 : Int) ≤ k - (↑s3.length : Int) ∧ k - (↑s3.length : Int) ≤ lim))
  (ifB (decide (k - (↑s3.length : Int) - (↑s4.length : Int) < (0 : Int))) (some (V.i IntKind.i64 (-1 : Int), []))
  (ifB (decide (k - (↑s3.length : Int) - (↑s4.length : Int) < (0 : Int)))
  (some (V.i IntKind.i64 (-1 : Int), []))
  (ifT
  (decide
  ((0 : Int) ≤ k - (↑s3.length : Int) - (↑s4.length : Int) ∧
  k - (↑s3.length : Int) - (↑s4.length : Int) ≤ lim))
  (ifB (decide (k - (↑s3.length : Int) - (↑s4.length : Int) - (↑s5.length : Int) < (0 : Int)))
  (some (V.i IntKind.i64 (-1 : Int), []))
  (ifB (decide (k - (↑s3.length : Int) - (↑s4.length : Int) - (↑s5.length : Int) < (0 : Int)))
  (some (V.i IntKind.i64 (-1 : Int), []))
  (some
  (V.i IntKind.i64 (k - (↑s3.length : Int) - (↑s4.length : Int) - (↑s5.length : Int)), []))))))))))) : _) := by kernel_rfl
  rw [e]
  unfold lim at hk
  rw [br_run]
  rw [ifT_true (decide_eq_true ⟨by omega, by unfold lim; omega⟩)]
  by_cases q0 : (k - (↑s3.length : Int)) < 0
  · rw [ifB_true (decide_eq_true q0), if_pos (by omega)]; rfl
  · rw [ifB_false (decide_eq_false q0), ifB_false (decide_eq_false q0)]
    rw [ifT_true (decide_eq_true ⟨by omega, by unfold lim; omega⟩)]
    by_cases q1 : ((k - (↑s3.length : Int)) - (↑s4.length : Int)) < 0
    · rw [ifB_true (decide_eq_true q1), if_pos (by omega)]; rfl
    · rw [ifB_false (decide_eq_false q1), ifB_false (decide_eq_false q1)]
      rw [ifT_true (decide_eq_true ⟨by omega, by unfold lim; omega⟩)]
      by_cases q2 : (((k - (↑s3.length : Int)) - (↑s4.length : Int)) - (↑s5.length : Int)) < 0
      · rw [ifB_true (decide_eq_true q2), if_pos (by omega)]; rfl
      · rw [ifB_false (decide_eq_false q2), ifB_false (decide_eq_false q2)]
        rw [if_neg q2]; rfl
theorem szQueue : Contract Try.prog 18 (Ent.rd1 szQueueG).F := by
  refine fun_contract' (KnowsL.cons (enters_fn Try.func61 (by kernel_rfl) (by kernel_rfl)) szInts KnowsL.nil).knows (Λ := look []) Try.func18 (c := Try.f18.body.getD .skip) (by kernel_rfl) fun vs bs r h hv hb => ?_
  unfold Ent.F szQueueG at h
  dsimp only at h
  split at h
  · rename_i s0 s1 s2 s3 s4 s5 k
    obtain ⟨hc, h⟩ := need_some h
    have hc := of_decide_eq_true hc
    exact ⟨loopsOk_nil _, (szQueue_fun s0 s1 s2 s3 s4 s5 k hc.1 hc.2).trans h⟩
  · cases h
end Go.Proofs.Ytpoepgnhdhpkjaa.Den
