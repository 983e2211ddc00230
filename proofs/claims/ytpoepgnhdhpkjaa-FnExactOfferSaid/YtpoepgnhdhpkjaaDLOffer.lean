/- What functions of the program do, by the machine: LOffer. -/
import Derived.Test.YtpoepgnhdhpkjaaDQue8
import Derived.KernelRfl
import Derived.Test.YtpoepgnhdhpkjaaRows
namespace Go.Proofs.Ytpoepgnhdhpkjaa.Den
open Go.Proofs
set_option maxRecDepth 100000
theorem marks_length {α : Type} (g : Int → α) (st : Int) : ∀ (k : Int) (n : Nat), (marks g st k n).length = n
  | _, 0 => rfl
  | k, n + 1 => by simp [marks, marks_length g st (k + st) n]
theorem Que.offO_len (q : Que) : q.offO.1.w.length ≤ 1000 ∧ q.offO.1.h.length ≤ 1000 ∧ q.offO.1.d.length ≤ 1000 := by
  unfold Que.offO
  split
  · rename_i h
    have f := Que.off_fine (Que.fine h.1) h.2
    have f3 := f.n; have f5 := f.sum
    dsimp only
    omega
  · decide
theorem Que.hndO_len (q : Que) : q.hndO.1.w.length ≤ 1000 ∧ q.hndO.1.h.length ≤ 1000 ∧ q.hndO.1.d.length ≤ 1000 := by
  unfold Que.hndO
  split
  · rename_i h
    have f := Que.hnd_fine (Que.fine h.1) (fun hc => h.2 (by rw [hc]; rfl))
    have f3 := f.n; have f5 := f.sum
    dsimp only
    omega
  · decide
theorem Que.hndR_w (q : Que) : (q.hndR.drop q.hndP) = q.hndO.1.w ∧ q.hndP + q.hndO.1.w.length = q.hndR.length ∧ q.hndP ≤ 1 := by
  unfold Que.hndO Que.hndR Que.hndP
  split
  · rename_i h
    simp only [Que.hnd, List.length_drop]
    refine ⟨trivial, by omega, by omega⟩
  · decide
theorem law_knows : Knows Try.prog (look [(18, .rd1 szQueueG), (20, .rd1 toQueueG), (25, .rd1 offerG), (26, .rd1 offerG), (22, .rd1 eqQueueG), (23, .own markQueueG), (24, .rd1 heldQueueG)]) := KnowsL.knows (KnowsL.cons (enters_fn Try.func18 (by kernel_rfl) (by kernel_rfl)) szQueue (KnowsL.cons (enters_fn Try.func20 (by kernel_rfl) (by kernel_rfl)) toQueue (KnowsL.cons (enters_fn Try.func25 (by kernel_rfl) (by kernel_rfl)) specOffer (KnowsL.cons (enters_fn Try.func26 (by kernel_rfl) (by kernel_rfl)) implOffer (KnowsL.cons (enters_fn Try.func22 (by kernel_rfl) (by kernel_rfl)) eqQueue (KnowsL.cons (enters_fn Try.func23 (by kernel_rfl) (by kernel_rfl)) markQueue (KnowsL.cons (enters_fn Try.func24 (by kernel_rfl) (by kernel_rfl)) heldQueue KnowsL.nil)))))))
theorem law_fun (s0 s1 s2 : Int) (s3 s4 s5 : List Int) : funK Try.prog (look [(18, .rd1 szQueueG), (20, .rd1 toQueueG), (25, .rd1 offerG), (26, .rd1 offerG), (22, .rd1 eqQueueG), (23, .own markQueueG), (24, .rd1 heldQueueG)]) (look []) Try.f5 [.agg [.i .i64 s0, .i .i64 s1, .i .i64 s2, .sl (.int .i64) s3, .sl (.int .i64) s4, .sl (.int .i64) s5]] [] = some (.b true, []) := by
  have e : funK Try.prog (look [(18, .rd1 szQueueG), (20, .rd1 toQueueG), (25, .rd1 offerG), (26, .rd1 offerG), (22, .rd1 eqQueueG), (23, .own markQueueG), (24, .rd1 heldQueueG)]) (look []) Try.f5 [.agg [.i .i64 s0, .i .i64 s1, .i .i64 s2, .sl (.int .i64) s3, .sl (.int .i64) s4, .sl (.int .i64) s5]] [] = ((ifB (decide ((1048576 : Int) - (↑s3.length : Int) - (↑s4.length : Int) - (↑s5.length : Int) < (0 : Int)))
  (some (V.b true, []))
  (ifB (decide ((1048576 : Int) - (↑s3.length : Int) - (↑s4.length : Int) - (↑s5.length : Int) < (0 : Int)))
  (some (V.b true, []))
  (ifT (decide (s3.length ≤ (1000000000 : Nat) ∧ s4.length ≤ (1000000000 : Nat) ∧ s5.length ≤ (1000000000 : Nat)))
  (ifT (decide (s3.length ≤ (1000000000 : Nat) ∧ s4.length ≤ (1000000000 : Nat) ∧ s5.length ≤ (1000000000 : Nat)))
  (ifB
  (!decide
  ((Que.mk s0 s1 s2 (List.take s3.length (List.drop (0 : Nat) s3))
  (List.take s4.length (List.drop (0 : Nat) s4))
  (List.take s5.length (List.drop (0 : Nat) s5))).offO.fst.c =
  (Que.mk s0 s1 s2 (List.take s3.length (List.drop (0 : Nat) s3))
  (List.take s4.length (List.drop (0 : Nat) s4))
  (List.take s5.length (List.drop (0 : Nat) s5))).offO.fst.c ∧
  (Que.mk s0 s1 s2 (List.take s3.length (List.drop (0 : Nat) s3))
  (List.take s4.length (List.drop (0 : Nat) s4))
  (List.take s5.length (List.drop (0 : Nat) s5))).offO.fst.r =
  (Que.mk s0 s1 s2 (List.take s3.length (List.drop (0 : Nat) s3))
  (List.take s4.length (List.drop (0 : Nat) s4))
  (List.take s5.length (List.drop (0 : Nat) s5))).offO.fst.r ∧
  (Que.mk s0 s1 s2 (List.take s3.length (List.drop (0 : Nat) s3))
  (List.take s4.length (List.drop (0 : Nat) s4))
  (List.take s5.length (List.drop (0 : Nat) s5))).offO.fst.n =
  (Que.mk s0 s1 s2 (List.take s3.length (List.drop (0 : Nat) s3))
  (List.take s4.length (List.drop (0 : Nat) s4))
  (List.take s5.length (List.drop (0 : Nat) s5))).offO.fst.n ∧
  List.take
  (Que.mk s0 s1 s2 (List.take s3.length (List.drop (0 : Nat) s3))
  (List.take s4.length (List.drop (0 : Nat) s4))
  (List.take s5.length (List.drop (0 : Nat) s5))).offO.fst.w.length
  (List.drop (0 : Nat)
  (Que.mk s0 s1 s2 (List.take s3.length (List.drop (0 : Nat) s3))
  (List.take s4.length (List.drop (0 : Nat) s4))
  (List.take s5.length (List.drop (0 : Nat) s5))).offO.fst.w) =
  List.take
  (Que.mk s0 s1 s2 (List.take s3.length (List.drop (0 : Nat) s3))
  (List.take s4.length (List.drop (0 : Nat) s4))
  (List.take s5.length (List.drop (0 : Nat) s5))).offO.fst.w.length
  (List.drop (0 : Nat)
  (Que.mk s0 s1 s2 (List.take s3.length (List.drop (0 : Nat) s3))
  (List.take s4.length (List.drop (0 : Nat) s4))
  (List.take s5.length (List.drop (0 : Nat) s5))).offO.fst.w) ∧
  List.take
  (Que.mk s0 s1 s2 (List.take s3.length (List.drop (0 : Nat) s3))
  (List.take s4.length (List.drop (0 : Nat) s4))
  (List.take s5.length (List.drop (0 : Nat) s5))).offO.fst.h.length
  (List.drop (0 : Nat)
  (Que.mk s0 s1 s2 (List.take s3.length (List.drop (0 : Nat) s3))
  (List.take s4.length (List.drop (0 : Nat) s4))
  (List.take s5.length (List.drop (0 : Nat) s5))).offO.fst.h) =
  List.take
  (Que.mk s0 s1 s2 (List.take s3.length (List.drop (0 : Nat) s3))
  (List.take s4.length (List.drop (0 : Nat) s4))
  (List.take s5.length (List.drop (0 : Nat) s5))).offO.fst.h.length
  (List.drop (0 : Nat)
  (Que.mk s0 s1 s2 (List.take s3.length (List.drop (0 : Nat) s3))
  (List.take s4.length (List.drop (0 : Nat) s4))
  (List.take s5.length (List.drop (0 : Nat) s5))).offO.fst.h) ∧
  List.take
  (Que.mk s0 s1 s2 (List.take s3.length (List.drop (0 : Nat) s3))
  (List.take s4.length (List.drop (0 : Nat) s4))
  (List.take s5.length (List.drop (0 : Nat) s5))).offO.fst.d.length
  (List.drop (0 : Nat)
  (Que.mk s0 s1 s2 (List.take s3.length (List.drop (0 : Nat) s3))
  (List.take s4.length (List.drop (0 : Nat) s4))
  (List.take s5.length (List.drop (0 : Nat) s5))).offO.fst.d) =
  List.take
  (Que.mk s0 s1 s2 (List.take s3.length (List.drop (0 : Nat) s3))
  (List.take s4.length (List.drop (0 : Nat) s4))
  (List.take s5.length (List.drop (0 : Nat) s5))).offO.fst.d.length
  (List.drop (0 : Nat)
  (Que.mk s0 s1 s2 (List.take s3.length (List.drop (0 : Nat) s3))
  (List.take s4.length (List.drop (0 : Nat) s4))
  (List.take s5.length (List.drop (0 : Nat) s5))).offO.fst.d)))
  (some (V.b false, []))
  (ifB
  ((Que.mk s0 s1 s2 (List.take s3.length (List.drop (0 : Nat) s3))
  (List.take s4.length (List.drop (0 : Nat) s4))
  (List.take s5.length (List.drop (0 : Nat) s5))).offO.snd.fst !=
  (Que.mk s0 s1 s2 (List.take s3.length (List.drop (0 : Nat) s3))
  (List.take s4.length (List.drop (0 : Nat) s4))
  (List.take s5.length (List.drop (0 : Nat) s5))).offO.snd.fst)
  (some (V.b false, []))
  (ifB
  (!(Que.mk s0 s1 s2 (List.take s3.length (List.drop (0 : Nat) s3))
  (List.take s4.length (List.drop (0 : Nat) s4))
  (List.take s5.length (List.drop (0 : Nat) s5))).offO.snd.snd ==
  (Que.mk s0 s1 s2 (List.take s3.length (List.drop (0 : Nat) s3))
  (List.take s4.length (List.drop (0 : Nat) s4))
  (List.take s5.length (List.drop (0 : Nat) s5))).offO.snd.snd)
  (some (V.b false, []))
  (ifT
  (decide
  (s3.length ≤ (1000000000 : Nat) ∧ s4.length ≤ (1000000000 : Nat) ∧ s5.length ≤ (1000000000 : Nat)))
  (ifB
  (!decide
  (s0 = s0 ∧
  s1 = s1 ∧
  s2 = s2 ∧
  List.take s3.length (List.drop (0 : Nat) s3) =
  List.take s3.length (List.drop (0 : Nat) s3) ∧
  List.take s4.length (List.drop (0 : Nat) s4) =
  List.take s4.length (List.drop (0 : Nat) s4) ∧
  List.take s5.length (List.drop (0 : Nat) s5) =
  List.take s5.length (List.drop (0 : Nat) s5)))
  (some (V.b false, []))
  (ifT
  (decide
  ((0 : Nat) + s3.length ≤ s3.length ∧
  (0 : Nat) + s4.length ≤ s4.length ∧
  (0 : Nat) + s5.length ≤ s5.length ∧
  (0 : Int) ≤ (1 : Int) ∧
  (1 : Int) + (1 : Int) * (↑s3.length : Int) + (1 : Int) * (↑s4.length : Int) +
  (1 : Int) * (↑s5.length : Int) ≤
  lim))
  (ifB
  (!decide
  ((Que.mk s0 s1 s2 (List.take s3.length (List.drop (0 : Nat) s3))
  (List.take s4.length (List.drop (0 : Nat) s4))
  (List.take s5.length (List.drop (0 : Nat) s5))).offO.fst.c =
  (Que.mk s0 s1 s2 (List.take s3.length (List.drop (0 : Nat) s3))
  (List.take s4.length (List.drop (0 : Nat) s4))
  (List.take s5.length (List.drop (0 : Nat) s5))).offO.fst.c ∧
  (Que.mk s0 s1 s2 (List.take s3.length (List.drop (0 : Nat) s3))
  (List.take s4.length (List.drop (0 : Nat) s4))
  (List.take s5.length (List.drop (0 : Nat) s5))).offO.fst.r =
  (Que.mk s0 s1 s2 (List.take s3.length (List.drop (0 : Nat) s3))
  (List.take s4.length (List.drop (0 : Nat) s4))
  (List.take s5.length (List.drop (0 : Nat) s5))).offO.fst.r ∧
  (Que.mk s0 s1 s2 (List.take s3.length (List.drop (0 : Nat) s3))
  (List.take s4.length (List.drop (0 : Nat) s4))
  (List.take s5.length (List.drop (0 : Nat) s5))).offO.fst.n =
  (Que.mk s0 s1 s2 (List.take s3.length (List.drop (0 : Nat) s3))
  (List.take s4.length (List.drop (0 : Nat) s4))
  (List.take s5.length (List.drop (0 : Nat) s5))).offO.fst.n ∧
  List.take
  (Que.mk s0 s1 s2 (List.take s3.length (List.drop (0 : Nat) s3))
  (List.take s4.length (List.drop (0 : Nat) s4))
  (List.take s5.length (List.drop (0 : Nat) s5))).offO.fst.w.length
  (List.drop (0 : Nat)
  (Que.mk s0 s1 s2 (List.take s3.length (List.drop (0 : Nat) s3))
  (List.take s4.length (List.drop (0 : Nat) s4))
  (List.take s5.length (List.drop (0 : Nat) s5))).offO.fst.w) =
  List.take
  (Que.mk s0 s1 s2 (List.take s3.length (List.drop (0 : Nat) s3))
  (List.take s4.length (List.drop (0 : Nat) s4))
  (List.take s5.length (List.drop (0 : Nat) s5))).offO.fst.w.length
  (List.drop (0 : Nat)
  (Que.mk s0 s1 s2 (List.take s3.length (List.drop (0 : Nat) s3))
  (List.take s4.length (List.drop (0 : Nat) s4))
  (List.take s5.length (List.drop (0 : Nat) s5))).offO.fst.w) ∧
  List.take
  (Que.mk s0 s1 s2 (List.take s3.length (List.drop (0 : Nat) s3))
  (List.take s4.length (List.drop (0 : Nat) s4))
  (List.take s5.length (List.drop (0 : Nat) s5))).offO.fst.h.length
  (List.drop (0 : Nat)
  (Que.mk s0 s1 s2 (List.take s3.length (List.drop (0 : Nat) s3))
  (List.take s4.length (List.drop (0 : Nat) s4))
  (List.take s5.length (List.drop (0 : Nat) s5))).offO.fst.h) =
  List.take
  (Que.mk s0 s1 s2 (List.take s3.length (List.drop (0 : Nat) s3))
  (List.take s4.length (List.drop (0 : Nat) s4))
  (List.take s5.length (List.drop (0 : Nat) s5))).offO.fst.h.length
  (List.drop (0 : Nat)
  (Que.mk s0 s1 s2 (List.take s3.length (List.drop (0 : Nat) s3))
  (List.take s4.length (List.drop (0 : Nat) s4))
  (List.take s5.length (List.drop (0 : Nat) s5))).offO.fst.h) ∧
  List.take
  (Que.mk s0 s1 s2 (List.take s3.length (List.drop (0 : Nat) s3))
  (List.take s4.length (List.drop (0 : Nat) s4))
  (List.take s5.length (List.drop (0 : Nat) s5))).offO.fst.d.length
  (List.drop (0 : Nat)
  (Que.mk s0 s1 s2 (List.take s3.length (List.drop (0 : Nat) s3))
  (List.take s4.length (List.drop (0 : Nat) s4))
  (List.take s5.length (List.drop (0 : Nat) s5))).offO.fst.d) =
  List.take
  (Que.mk s0 s1 s2 (List.take s3.length (List.drop (0 : Nat) s3))
  (List.take s4.length (List.drop (0 : Nat) s4))
  (List.take s5.length (List.drop (0 : Nat) s5))).offO.fst.d.length
  (List.drop (0 : Nat)
  (Que.mk s0 s1 s2 (List.take s3.length (List.drop (0 : Nat) s3))
  (List.take s4.length (List.drop (0 : Nat) s4))
  (List.take s5.length (List.drop (0 : Nat) s5))).offO.fst.d)))
  (some (V.b false, []))
  (ifB
  ((Que.mk s0 s1 s2 (List.take s3.length (List.drop (0 : Nat) s3))
  (List.take s4.length (List.drop (0 : Nat) s4))
  (List.take s5.length (List.drop (0 : Nat) s5))).offO.snd.fst !=
  (Que.mk s0 s1 s2 (List.take s3.length (List.drop (0 : Nat) s3))
  (List.take s4.length (List.drop (0 : Nat) s4))
  (List.take s5.length (List.drop (0 : Nat) s5))).offO.snd.fst)
  (some (V.b false, []))
  (ifB
  (!(Que.mk s0 s1 s2 (List.take s3.length (List.drop (0 : Nat) s3))
  (List.take s4.length (List.drop (0 : Nat) s4))
  (List.take s5.length (List.drop (0 : Nat) s5))).offO.snd.snd ==
  (Que.mk s0 s1 s2 (List.take s3.length (List.drop (0 : Nat) s3))
  (List.take s4.length (List.drop (0 : Nat) s4))
  (List.take s5.length (List.drop (0 : Nat) s5))).offO.snd.snd)
  (some (V.b false, []))
  (ifT
  (decide
  ((0 : Nat) +
  (Que.mk s0 s1 s2 (List.take s3.length (List.drop (0 : Nat) s3))
  (List.take s4.length (List.drop (0 : Nat) s4))
  (List.take s5.length (List.drop (0 : Nat) s5))).offO.fst.w.length ≤
  (Que.mk s0 s1 s2 (List.take s3.length (List.drop (0 : Nat) s3))
  (List.take s4.length (List.drop (0 : Nat) s4))
  (List.take s5.length (List.drop (0 : Nat) s5))).offO.fst.w.length ∧
  (0 : Nat) +
  (Que.mk s0 s1 s2 (List.take s3.length (List.drop (0 : Nat) s3))
  (List.take s4.length (List.drop (0 : Nat) s4))
  (List.take s5.length (List.drop (0 : Nat) s5))).offO.fst.h.length ≤
  (Que.mk s0 s1 s2 (List.take s3.length (List.drop (0 : Nat) s3))
  (List.take s4.length (List.drop (0 : Nat) s4))
  (List.take s5.length (List.drop (0 : Nat) s5))).offO.fst.h.length ∧
  (0 : Nat) +
  (Que.mk s0 s1 s2 (List.take s3.length (List.drop (0 : Nat) s3))
  (List.take s4.length (List.drop (0 : Nat) s4))
  (List.take s5.length (List.drop (0 : Nat) s5))).offO.fst.d.length ≤
  (Que.mk s0 s1 s2 (List.take s3.length (List.drop (0 : Nat) s3))
  (List.take s4.length (List.drop (0 : Nat) s4))
  (List.take s5.length (List.drop (0 : Nat) s5))).offO.fst.d.length ∧
  (0 : Int) ≤ (1 : Int) ∧
  (1 : Int) +
  (1 : Int) *
  (↑(Que.mk s0 s1 s2 (List.take s3.length (List.drop (0 : Nat) s3))
  (List.take s4.length (List.drop (0 : Nat) s4))
  (List.take s5.length
  (List.drop (0 : Nat) s5))).offO.fst.w.length :
  Int) +
  (1 : Int) *
  (↑(Que.mk s0 s1 s2 (List.take s3.length (List.drop (0 : Nat) s3))
  (List.take s4.length (List.drop (0 : Nat) s4))
  (List.take s5.length
  (List.drop (0 : Nat) s5))).offO.fst.h.length :
  Int) +
  (1 : Int) *
  (↑(Que.mk s0 s1 s2 (List.take s3.length (List.drop (0 : Nat) s3))
  (List.take s4.length (List.drop (0 : Nat) s4))
  (List.take s5.length
  (List.drop (0 : Nat) s5))).offO.fst.d.length :
  Int) ≤
  lim))
  (ifT
  (decide
  ((0 : Int) ≤ (1 : Int) ∧
  (1 : Int) +
  (1 : Int) *
  (↑(List.take
  (Que.mk s0 s1 s2 (List.take s3.length (List.drop (0 : Nat) s3))
  (List.take s4.length (List.drop (0 : Nat) s4))
  (List.take s5.length
  (List.drop (0 : Nat) s5))).offO.fst.w.length
  (List.drop (0 : Nat)
  (nilT (Cd.int IntKind.i64).den ++
  marks markInt1 (1 : Int) (1 : Int)
  (Que.mk s0 s1 s2
  (List.take s3.length (List.drop (0 : Nat) s3))
  (List.take s4.length (List.drop (0 : Nat) s4))
  (List.take s5.length
  (List.drop (0 : Nat) s5))).offO.fst.w.length ++
  List.drop
  ((0 : Nat) +
  (Que.mk s0 s1 s2
  (List.take s3.length (List.drop (0 : Nat) s3))
  (List.take s4.length (List.drop (0 : Nat) s4))
  (List.take s5.length
  (List.drop (0 : Nat) s5))).offO.fst.w.length)
  (Que.mk s0 s1 s2
  (List.take s3.length (List.drop (0 : Nat) s3))
  (List.take s4.length (List.drop (0 : Nat) s4))
  (List.take s5.length
  (List.drop (0 : Nat) s5))).offO.fst.w))).length :
  Int) +
  (1 : Int) *
  (↑(List.take
  (Que.mk s0 s1 s2 (List.take s3.length (List.drop (0 : Nat) s3))
  (List.take s4.length (List.drop (0 : Nat) s4))
  (List.take s5.length
  (List.drop (0 : Nat) s5))).offO.fst.h.length
  (List.drop (0 : Nat)
  (nilT (Cd.int IntKind.i64).den ++
  marks markInt1 (1 : Int)
  ((1 : Int) +
  (1 : Int) *
  (↑(Que.mk s0 s1 s2
  (List.take s3.length
  (List.drop (0 : Nat) s3))
  (List.take s4.length
  (List.drop (0 : Nat) s4))
  (List.take s5.length
  (List.drop (0 : Nat)
  s5))).offO.fst.w.length :
  Int))
  (Que.mk s0 s1 s2
  (List.take s3.length (List.drop (0 : Nat) s3))
  (List.take s4.length (List.drop (0 : Nat) s4))
  (List.take s5.length
  (List.drop (0 : Nat) s5))).offO.fst.h.length ++
  List.drop
  ((0 : Nat) +
  (Que.mk s0 s1 s2
  (List.take s3.length (List.drop (0 : Nat) s3))
  (List.take s4.length (List.drop (0 : Nat) s4))
  (List.take s5.length
  (List.drop (0 : Nat) s5))).offO.fst.h.length)
  (Que.mk s0 s1 s2 (List.take s3.length (List.drop (0 : Nat) s3))
  (List.take s4.length (List.drop (0 : Nat) s4))
  (List.take s5.length
  (List.drop (0 : Nat) s5))).offO.fst.h))).length :
  Int) +
  (1 : Int) *
  (↑(List.take
  (Que.mk s0 s1 s2 (List.take s3.length (List.drop (0 : Nat) s3))
  (List.take s4.length (List.drop (0 : Nat) s4))
  (List.take s5.length
  (List.drop (0 : Nat) s5))).offO.fst.d.length
  (List.drop (0 : Nat)
  (nilT (Cd.int IntKind.i64).den ++
  marks markInt1 (1 : Int)
  ((1 : Int) +
  (1 : Int) *
  (↑(Que.mk s0 s1 s2
  (List.take s3.length
  (List.drop (0 : Nat) s3))
  (List.take s4.length
  (List.drop (0 : Nat) s4))
  (List.take s5.length
  (List.drop (0 : Nat)
  s5))).offO.fst.w.length :
  Int) +
  (1 : Int) *
  (↑(Que.mk s0 s1 s2
  (List.take s3.length (List.drop (0 : Nat) s3))
  (List.take s4.length (List.drop (0 : Nat) s4))
  (List.take s5.length
  (List.drop (0 : Nat)
  s5))).offO.fst.h.length :
  Int))
  (Que.mk s0 s1 s2 (List.take s3.length (List.drop (0 : Nat) s3))
  (List.take s4.length (List.drop (0 : Nat) s4))
  (List.take s5.length
  (List.drop (0 : Nat) s5))).offO.fst.d.length ++
  List.drop
  ((0 : Nat) +
  (Que.mk s0 s1 s2 (List.take s3.length (List.drop (0 : Nat) s3))
  (List.take s4.length (List.drop (0 : Nat) s4))
  (List.take s5.length
  (List.drop (0 : Nat) s5))).offO.fst.d.length)
  (Que.mk s0 s1 s2 (List.take s3.length (List.drop (0 : Nat) s3))
  (List.take s4.length (List.drop (0 : Nat) s4))
  (List.take s5.length
  (List.drop (0 : Nat) s5))).offO.fst.d))).length :
  Int) ≤
  lim))
  (ifB
  (decide
  (List.take
  (Que.mk s0 s1 s2 (List.take s3.length (List.drop (0 : Nat) s3))
  (List.take s4.length (List.drop (0 : Nat) s4))
  (List.take s5.length (List.drop (0 : Nat) s5))).offO.fst.w.length
  (List.drop (0 : Nat)
  (nilT (Cd.int IntKind.i64).den ++
  marks markInt1 (1 : Int) (1 : Int)
  (Que.mk s0 s1 s2 (List.take s3.length (List.drop (0 : Nat) s3))
  (List.take s4.length (List.drop (0 : Nat) s4))
  (List.take s5.length
  (List.drop (0 : Nat) s5))).offO.fst.w.length ++
  List.drop
  ((0 : Nat) +
  (Que.mk s0 s1 s2 (List.take s3.length (List.drop (0 : Nat) s3))
  (List.take s4.length (List.drop (0 : Nat) s4))
  (List.take s5.length
  (List.drop (0 : Nat) s5))).offO.fst.w.length)
  (Que.mk s0 s1 s2 (List.take s3.length (List.drop (0 : Nat) s3))
  (List.take s4.length (List.drop (0 : Nat) s4))
  (List.take s5.length (List.drop (0 : Nat) s5))).offO.fst.w)) =
  marks markInt1 (1 : Int) (1 : Int)
  (List.take
  (Que.mk s0 s1 s2 (List.take s3.length (List.drop (0 : Nat) s3))
  (List.take s4.length (List.drop (0 : Nat) s4))
  (List.take s5.length (List.drop (0 : Nat) s5))).offO.fst.w.length
  (List.drop (0 : Nat)
  (nilT (Cd.int IntKind.i64).den ++
  marks markInt1 (1 : Int) (1 : Int)
  (Que.mk s0 s1 s2 (List.take s3.length (List.drop (0 : Nat) s3))
  (List.take s4.length (List.drop (0 : Nat) s4))
  (List.take s5.length
  (List.drop (0 : Nat) s5))).offO.fst.w.length ++
  List.drop
  ((0 : Nat) +
  (Que.mk s0 s1 s2 (List.take s3.length (List.drop (0 : Nat) s3))
  (List.take s4.length (List.drop (0 : Nat) s4))
  (List.take s5.length
  (List.drop (0 : Nat) s5))).offO.fst.w.length)
  (Que.mk s0 s1 s2 (List.take s3.length (List.drop (0 : Nat) s3))
  (List.take s4.length (List.drop (0 : Nat) s4))
  (List.take s5.length
  (List.drop (0 : Nat) s5))).offO.fst.w))).length ∧
  List.take
  (Que.mk s0 s1 s2 (List.take s3.length (List.drop (0 : Nat) s3))
  (List.take s4.length (List.drop (0 : Nat) s4))
  (List.take s5.length (List.drop (0 : Nat) s5))).offO.fst.h.length
  (List.drop (0 : Nat)
  (nilT (Cd.int IntKind.i64).den ++
  marks markInt1 (1 : Int)
  ((1 : Int) +
  (1 : Int) *
  (↑(Que.mk s0 s1 s2 (List.take s3.length (List.drop (0 : Nat) s3))
  (List.take s4.length (List.drop (0 : Nat) s4))
  (List.take s5.length
  (List.drop (0 : Nat) s5))).offO.fst.w.length :
  Int))
  (Que.mk s0 s1 s2 (List.take s3.length (List.drop (0 : Nat) s3))
  (List.take s4.length (List.drop (0 : Nat) s4))
  (List.take s5.length
  (List.drop (0 : Nat) s5))).offO.fst.h.length ++
  List.drop
  ((0 : Nat) +
  (Que.mk s0 s1 s2 (List.take s3.length (List.drop (0 : Nat) s3))
  (List.take s4.length (List.drop (0 : Nat) s4))
  (List.take s5.length
  (List.drop (0 : Nat) s5))).offO.fst.h.length)
  (Que.mk s0 s1 s2 (List.take s3.length (List.drop (0 : Nat) s3))
  (List.take s4.length (List.drop (0 : Nat) s4))
  (List.take s5.length (List.drop (0 : Nat) s5))).offO.fst.h)) =
  marks markInt1 (1 : Int)
  ((1 : Int) +
  (1 : Int) *
  (↑(List.take
  (Que.mk s0 s1 s2 (List.take s3.length (List.drop (0 : Nat) s3))
  (List.take s4.length (List.drop (0 : Nat) s4))
  (List.take s5.length
  (List.drop (0 : Nat) s5))).offO.fst.w.length
  (List.drop (0 : Nat)
  (nilT (Cd.int IntKind.i64).den ++
  marks markInt1 (1 : Int) (1 : Int)
  (Que.mk s0 s1 s2
  (List.take s3.length (List.drop (0 : Nat) s3))
  (List.take s4.length (List.drop (0 : Nat) s4))
  (List.take s5.length
  (List.drop (0 : Nat)
  s5))).offO.fst.w.length ++
  List.drop
  ((0 : Nat) +
  (Que.mk s0 s1 s2
  (List.take s3.length (List.drop (0 : Nat) s3))
  (List.take s4.length (List.drop (0 : Nat) s4))
  (List.take s5.length
  (List.drop (0 : Nat) s5))).offO.fst.w.length)
  (Que.mk s0 s1 s2
  (List.take s3.length (List.drop (0 : Nat) s3))
  (List.take s4.length (List.drop (0 : Nat) s4))
  (List.take s5.length
  (List.drop (0 : Nat) s5))).offO.fst.w))).length :
  Int))
  (List.take
  (Que.mk s0 s1 s2 (List.take s3.length (List.drop (0 : Nat) s3))
  (List.take s4.length (List.drop (0 : Nat) s4))
  (List.take s5.length
  (List.drop (0 : Nat) s5))).offO.fst.h.length
  (List.drop (0 : Nat)
  (nilT (Cd.int IntKind.i64).den ++
  marks markInt1 (1 : Int)
  ((1 : Int) +
  (1 : Int) *
  (↑(Que.mk s0 s1 s2
  (List.take s3.length (List.drop (0 : Nat) s3))
  (List.take s4.length (List.drop (0 : Nat) s4))
  (List.take s5.length
  (List.drop (0 : Nat) s5))).offO.fst.w.length :
  Int))
  (Que.mk s0 s1 s2 (List.take s3.length (List.drop (0 : Nat) s3))
  (List.take s4.length (List.drop (0 : Nat) s4))
  (List.take s5.length
  (List.drop (0 : Nat) s5))).offO.fst.h.length ++
  List.drop
  ((0 : Nat) +
  (Que.mk s0 s1 s2 (List.take s3.length (List.drop (0 : Nat) s3))
  (List.take s4.length (List.drop (0 : Nat) s4))
  (List.take s5.length
  (List.drop (0 : Nat) s5))).offO.fst.h.length)
  (Que.mk s0 s1 s2 (List.take s3.length (List.drop (0 : Nat) s3))
  (List.take s4.length (List.drop (0 : Nat) s4))
  (List.take s5.length
  (List.drop (0 : Nat) s5))).offO.fst.h))).length ∧
  List.take
  (Que.mk s0 s1 s2 (List.take s3.length (List.drop (0 : Nat) s3))
  (List.take s4.length (List.drop (0 : Nat) s4))
  (List.take s5.length (List.drop (0 : Nat) s5))).offO.fst.d.length
  (List.drop (0 : Nat)
  (nilT (Cd.int IntKind.i64).den ++
  marks markInt1 (1 : Int)
  ((1 : Int) +
  (1 : Int) *
  (↑(Que.mk s0 s1 s2
  (List.take s3.length (List.drop (0 : Nat) s3))
  (List.take s4.length (List.drop (0 : Nat) s4))
  (List.take s5.length
  (List.drop (0 : Nat) s5))).offO.fst.w.length :
  Int) +
  (1 : Int) *
  (↑(Que.mk s0 s1 s2 (List.take s3.length (List.drop (0 : Nat) s3))
  (List.take s4.length (List.drop (0 : Nat) s4))
  (List.take s5.length
  (List.drop (0 : Nat) s5))).offO.fst.h.length :
  Int))
  (Que.mk s0 s1 s2 (List.take s3.length (List.drop (0 : Nat) s3))
  (List.take s4.length (List.drop (0 : Nat) s4))
  (List.take s5.length
  (List.drop (0 : Nat) s5))).offO.fst.d.length ++
  List.drop
  ((0 : Nat) +
  (Que.mk s0 s1 s2 (List.take s3.length (List.drop (0 : Nat) s3))
  (List.take s4.length (List.drop (0 : Nat) s4))
  (List.take s5.length
  (List.drop (0 : Nat) s5))).offO.fst.d.length)
  (Que.mk s0 s1 s2 (List.take s3.length (List.drop (0 : Nat) s3))
  (List.take s4.length (List.drop (0 : Nat) s4))
  (List.take s5.length (List.drop (0 : Nat) s5))).offO.fst.d)) =
  marks markInt1 (1 : Int)
  ((1 : Int) +
  (1 : Int) *
  (↑(List.take
  (Que.mk s0 s1 s2 (List.take s3.length (List.drop (0 : Nat) s3))
  (List.take s4.length (List.drop (0 : Nat) s4))
  (List.take s5.length
  (List.drop (0 : Nat) s5))).offO.fst.w.length
  (List.drop (0 : Nat)
  (nilT (Cd.int IntKind.i64).den ++
  marks markInt1 (1 : Int) (1 : Int)
  (Que.mk s0 s1 s2
  (List.take s3.length (List.drop (0 : Nat) s3))
  (List.take s4.length (List.drop (0 : Nat) s4))
  (List.take s5.length
  (List.drop (0 : Nat)
  s5))).offO.fst.w.length ++
  List.drop
  ((0 : Nat) +
  (Que.mk s0 s1 s2
  (List.take s3.length (List.drop (0 : Nat) s3))
  (List.take s4.length (List.drop (0 : Nat) s4))
  (List.take s5.length
  (List.drop (0 : Nat)
  s5))).offO.fst.w.length)
  (Que.mk s0 s1 s2
  (List.take s3.length (List.drop (0 : Nat) s3))
  (List.take s4.length (List.drop (0 : Nat) s4))
  (List.take s5.length
  (List.drop (0 : Nat)
  s5))).offO.fst.w))).length :
  Int) +
  (1 : Int) *
  (↑(List.take
  (Que.mk s0 s1 s2 (List.take s3.length (List.drop (0 : Nat) s3))
  (List.take s4.length (List.drop (0 : Nat) s4))
  (List.take s5.length
  (List.drop (0 : Nat) s5))).offO.fst.h.length
  (List.drop (0 : Nat)
  (nilT (Cd.int IntKind.i64).den ++
  marks markInt1 (1 : Int)
  ((1 : Int) +
  (1 : Int) *
  (↑(Que.mk s0 s1 s2
  (List.take s3.length
  (List.drop (0 : Nat) s3))
  (List.take s4.length
  (List.drop (0 : Nat) s4))
  (List.take s5.length
  (List.drop (0 : Nat)
  s5))).offO.fst.w.length :
  Int))
  (Que.mk s0 s1 s2
  (List.take s3.length (List.drop (0 : Nat) s3))
  (List.take s4.length (List.drop (0 : Nat) s4))
  (List.take s5.length
  (List.drop (0 : Nat)
  s5))).offO.fst.h.length ++
  List.drop
  ((0 : Nat) +
  (Que.mk s0 s1 s2
  (List.take s3.length (List.drop (0 : Nat) s3))
  (List.take s4.length (List.drop (0 : Nat) s4))
  (List.take s5.length
  (List.drop (0 : Nat) s5))).offO.fst.h.length)
  (Que.mk s0 s1 s2
  (List.take s3.length (List.drop (0 : Nat) s3))
  (List.take s4.length (List.drop (0 : Nat) s4))
  (List.take s5.length
  (List.drop (0 : Nat) s5))).offO.fst.h))).length :
  Int))
  (List.take
  (Que.mk s0 s1 s2 (List.take s3.length (List.drop (0 : Nat) s3))
  (List.take s4.length (List.drop (0 : Nat) s4))
  (List.take s5.length
  (List.drop (0 : Nat) s5))).offO.fst.d.length
  (List.drop (0 : Nat)
  (nilT (Cd.int IntKind.i64).den ++
  marks markInt1 (1 : Int)
  ((1 : Int) +
  (1 : Int) *
  (↑(Que.mk s0 s1 s2
  (List.take s3.length (List.drop (0 : Nat) s3))
  (List.take s4.length (List.drop (0 : Nat) s4))
  (List.take s5.length
  (List.drop (0 : Nat)
  s5))).offO.fst.w.length :
  Int) +
  (1 : Int) *
  (↑(Que.mk s0 s1 s2
  (List.take s3.length (List.drop (0 : Nat) s3))
  (List.take s4.length (List.drop (0 : Nat) s4))
  (List.take s5.length
  (List.drop (0 : Nat) s5))).offO.fst.h.length :
  Int))
  (Que.mk s0 s1 s2 (List.take s3.length (List.drop (0 : Nat) s3))
  (List.take s4.length (List.drop (0 : Nat) s4))
  (List.take s5.length
  (List.drop (0 : Nat) s5))).offO.fst.d.length ++
  List.drop
  ((0 : Nat) +
  (Que.mk s0 s1 s2 (List.take s3.length (List.drop (0 : Nat) s3))
  (List.take s4.length (List.drop (0 : Nat) s4))
  (List.take s5.length
  (List.drop (0 : Nat) s5))).offO.fst.d.length)
  (Que.mk s0 s1 s2 (List.take s3.length (List.drop (0 : Nat) s3))
  (List.take s4.length (List.drop (0 : Nat) s4))
  (List.take s5.length
  (List.drop (0 : Nat) s5))).offO.fst.d))).length))
  (ifB
  ((1 : Int) +
  (1 : Int) *
  (↑(List.take
  (Que.mk s0 s1 s2 (List.take s3.length (List.drop (0 : Nat) s3))
  (List.take s4.length (List.drop (0 : Nat) s4))
  (List.take s5.length
  (List.drop (0 : Nat) s5))).offO.fst.w.length
  (List.drop (0 : Nat)
  (nilT (Cd.int IntKind.i64).den ++
  marks markInt1 (1 : Int) (1 : Int)
  (Que.mk s0 s1 s2
  (List.take s3.length (List.drop (0 : Nat) s3))
  (List.take s4.length (List.drop (0 : Nat) s4))
  (List.take s5.length
  (List.drop (0 : Nat) s5))).offO.fst.w.length ++
  List.drop
  ((0 : Nat) +
  (Que.mk s0 s1 s2
  (List.take s3.length (List.drop (0 : Nat) s3))
  (List.take s4.length (List.drop (0 : Nat) s4))
  (List.take s5.length
  (List.drop (0 : Nat) s5))).offO.fst.w.length)
  (Que.mk s0 s1 s2
  (List.take s3.length (List.drop (0 : Nat) s3))
  (List.take s4.length (List.drop (0 : Nat) s4))
  (List.take s5.length
  (List.drop (0 : Nat) s5))).offO.fst.w))).length :
  Int) +
  (1 : Int) *
  (↑(List.take
  (Que.mk s0 s1 s2 (List.take s3.length (List.drop (0 : Nat) s3))
  (List.take s4.length (List.drop (0 : Nat) s4))
  (List.take s5.length
  (List.drop (0 : Nat) s5))).offO.fst.h.length
  (List.drop (0 : Nat)
  (nilT (Cd.int IntKind.i64).den ++
  marks markInt1 (1 : Int)
  ((1 : Int) +
  (1 : Int) *
  (↑(Que.mk s0 s1 s2
  (List.take s3.length
  (List.drop (0 : Nat) s3))
  (List.take s4.length
  (List.drop (0 : Nat) s4))
  (List.take s5.length
  (List.drop (0 : Nat)
  s5))).offO.fst.w.length :
  Int))
  (Que.mk s0 s1 s2
  (List.take s3.length (List.drop (0 : Nat) s3))
  (List.take s4.length (List.drop (0 : Nat) s4))
  (List.take s5.length
  (List.drop (0 : Nat) s5))).offO.fst.h.length ++
  List.drop
  ((0 : Nat) +
  (Que.mk s0 s1 s2
  (List.take s3.length (List.drop (0 : Nat) s3))
  (List.take s4.length (List.drop (0 : Nat) s4))
  (List.take s5.length
  (List.drop (0 : Nat) s5))).offO.fst.h.length)
  (Que.mk s0 s1 s2 (List.take s3.length (List.drop (0 : Nat) s3))
  (List.take s4.length (List.drop (0 : Nat) s4))
  (List.take s5.length
  (List.drop (0 : Nat) s5))).offO.fst.h))).length :
  Int) +
  (1 : Int) *
  (↑(List.take
  (Que.mk s0 s1 s2 (List.take s3.length (List.drop (0 : Nat) s3))
  (List.take s4.length (List.drop (0 : Nat) s4))
  (List.take s5.length
  (List.drop (0 : Nat) s5))).offO.fst.d.length
  (List.drop (0 : Nat)
  (nilT (Cd.int IntKind.i64).den ++
  marks markInt1 (1 : Int)
  ((1 : Int) +
  (1 : Int) *
  (↑(Que.mk s0 s1 s2
  (List.take s3.length
  (List.drop (0 : Nat) s3))
  (List.take s4.length
  (List.drop (0 : Nat) s4))
  (List.take s5.length
  (List.drop (0 : Nat)
  s5))).offO.fst.w.length :
  Int) +
  (1 : Int) *
  (↑(Que.mk s0 s1 s2
  (List.take s3.length (List.drop (0 : Nat) s3))
  (List.take s4.length (List.drop (0 : Nat) s4))
  (List.take s5.length
  (List.drop (0 : Nat)
  s5))).offO.fst.h.length :
  Int))
  (Que.mk s0 s1 s2 (List.take s3.length (List.drop (0 : Nat) s3))
  (List.take s4.length (List.drop (0 : Nat) s4))
  (List.take s5.length
  (List.drop (0 : Nat) s5))).offO.fst.d.length ++
  List.drop
  ((0 : Nat) +
  (Que.mk s0 s1 s2 (List.take s3.length (List.drop (0 : Nat) s3))
  (List.take s4.length (List.drop (0 : Nat) s4))
  (List.take s5.length
  (List.drop (0 : Nat) s5))).offO.fst.d.length)
  (Que.mk s0 s1 s2 (List.take s3.length (List.drop (0 : Nat) s3))
  (List.take s4.length (List.drop (0 : Nat) s4))
  (List.take s5.length
  (List.drop (0 : Nat) s5))).offO.fst.d))).length :
  Int) !=
  (1 : Int) +
  (1 : Int) *
  (↑(Que.mk s0 s1 s2 (List.take s3.length (List.drop (0 : Nat) s3))
  (List.take s4.length (List.drop (0 : Nat) s4))
  (List.take s5.length
  (List.drop (0 : Nat) s5))).offO.fst.w.length :
  Int) +
  (1 : Int) *
  (↑(Que.mk s0 s1 s2 (List.take s3.length (List.drop (0 : Nat) s3))
  (List.take s4.length (List.drop (0 : Nat) s4))
  (List.take s5.length
  (List.drop (0 : Nat) s5))).offO.fst.h.length :
  Int) +
  (1 : Int) *
  (↑(Que.mk s0 s1 s2 (List.take s3.length (List.drop (0 : Nat) s3))
  (List.take s4.length (List.drop (0 : Nat) s4))
  (List.take s5.length
  (List.drop (0 : Nat) s5))).offO.fst.d.length :
  Int))
  (some (V.b false, []))
  (ifT
  (decide
  (s3.length ≤ (1000000000 : Nat) ∧
  s4.length ≤ (1000000000 : Nat) ∧ s5.length ≤ (1000000000 : Nat)))
  (ifB
  (!decide
  ((Que.mk s0 s1 s2 (List.take s3.length (List.drop (0 : Nat) s3))
  (List.take s4.length (List.drop (0 : Nat) s4))
  (List.take s5.length (List.drop (0 : Nat) s5))).offO.fst.c =
  (Que.mk s0 s1 s2 (List.take s3.length (List.drop (0 : Nat) s3))
  (List.take s4.length (List.drop (0 : Nat) s4))
  (List.take s5.length (List.drop (0 : Nat) s5))).offO.fst.c ∧
  (Que.mk s0 s1 s2 (List.take s3.length (List.drop (0 : Nat) s3))
  (List.take s4.length (List.drop (0 : Nat) s4))
  (List.take s5.length (List.drop (0 : Nat) s5))).offO.fst.r =
  (Que.mk s0 s1 s2 (List.take s3.length (List.drop (0 : Nat) s3))
  (List.take s4.length (List.drop (0 : Nat) s4))
  (List.take s5.length (List.drop (0 : Nat) s5))).offO.fst.r ∧
  (Que.mk s0 s1 s2 (List.take s3.length (List.drop (0 : Nat) s3))
  (List.take s4.length (List.drop (0 : Nat) s4))
  (List.take s5.length (List.drop (0 : Nat) s5))).offO.fst.n =
  (Que.mk s0 s1 s2 (List.take s3.length (List.drop (0 : Nat) s3))
  (List.take s4.length (List.drop (0 : Nat) s4))
  (List.take s5.length (List.drop (0 : Nat) s5))).offO.fst.n ∧
  List.take
  (Que.mk s0 s1 s2 (List.take s3.length (List.drop (0 : Nat) s3))
  (List.take s4.length (List.drop (0 : Nat) s4))
  (List.take s5.length
  (List.drop (0 : Nat) s5))).offO.fst.w.length
  (List.drop (0 : Nat)
  (Que.mk s0 s1 s2 (List.take s3.length (List.drop (0 : Nat) s3))
  (List.take s4.length (List.drop (0 : Nat) s4))
  (List.take s5.length
  (List.drop (0 : Nat) s5))).offO.fst.w) =
  List.take
  (Que.mk s0 s1 s2 (List.take s3.length (List.drop (0 : Nat) s3))
  (List.take s4.length (List.drop (0 : Nat) s4))
  (List.take s5.length
  (List.drop (0 : Nat) s5))).offO.fst.w.length
  (List.drop (0 : Nat)
  (Que.mk s0 s1 s2 (List.take s3.length (List.drop (0 : Nat) s3))
  (List.take s4.length (List.drop (0 : Nat) s4))
  (List.take s5.length
  (List.drop (0 : Nat) s5))).offO.fst.w) ∧
  List.take
  (Que.mk s0 s1 s2 (List.take s3.length (List.drop (0 : Nat) s3))
  (List.take s4.length (List.drop (0 : Nat) s4))
  (List.take s5.length
  (List.drop (0 : Nat) s5))).offO.fst.h.length
  (List.drop (0 : Nat)
  (Que.mk s0 s1 s2
  (List.take s3.length (List.drop (0 : Nat) s3))
  (List.take s4.length (List.drop (0 : Nat) s4))
  (List.take s5.length
  (List.drop (0 : Nat) s5))).offO.fst.h) =
  List.take
  (Que.mk s0 s1 s2 (List.take s3.length (List.drop (0 : Nat) s3))
  (List.take s4.length (List.drop (0 : Nat) s4))
  (List.take s5.length
  (List.drop (0 : Nat) s5))).offO.fst.h.length
  (List.drop (0 : Nat)
  (Que.mk s0 s1 s2
  (List.take s3.length (List.drop (0 : Nat) s3))
  (List.take s4.length (List.drop (0 : Nat) s4))
  (List.take s5.length
  (List.drop (0 : Nat) s5))).offO.fst.h) ∧
  List.take
  (Que.mk s0 s1 s2 (List.take s3.length (List.drop (0 : Nat) s3))
  (List.take s4.length (List.drop (0 : Nat) s4))
  (List.take s5.length
  (List.drop (0 : Nat) s5))).offO.fst.d.length
  (List.drop (0 : Nat)
  (Que.mk s0 s1 s2
  (List.take s3.length (List.drop (0 : Nat) s3))
  (List.take s4.length (List.drop (0 : Nat) s4))
  (List.take s5.length
  (List.drop (0 : Nat) s5))).offO.fst.d) =
  List.take
  (Que.mk s0 s1 s2 (List.take s3.length (List.drop (0 : Nat) s3))
  (List.take s4.length (List.drop (0 : Nat) s4))
  (List.take s5.length
  (List.drop (0 : Nat) s5))).offO.fst.d.length
  (List.drop (0 : Nat)
  (Que.mk s0 s1 s2
  (List.take s3.length (List.drop (0 : Nat) s3))
  (List.take s4.length (List.drop (0 : Nat) s4))
  (List.take s5.length
  (List.drop (0 : Nat) s5))).offO.fst.d)))
  (some (V.b false, []))
  (ifB
  ((Que.mk s0 s1 s2 (List.take s3.length (List.drop (0 : Nat) s3))
  (List.take s4.length (List.drop (0 : Nat) s4))
  (List.take s5.length (List.drop (0 : Nat) s5))).offO.snd.fst !=
  (Que.mk s0 s1 s2 (List.take s3.length (List.drop (0 : Nat) s3))
  (List.take s4.length (List.drop (0 : Nat) s4))
  (List.take s5.length (List.drop (0 : Nat) s5))).offO.snd.fst)
  (some (V.b false, []))
  (ifB
  (!(Que.mk s0 s1 s2 (List.take s3.length (List.drop (0 : Nat) s3))
  (List.take s4.length (List.drop (0 : Nat) s4))
  (List.take s5.length (List.drop (0 : Nat) s5))).offO.snd.snd ==
  (Que.mk s0 s1 s2 (List.take s3.length (List.drop (0 : Nat) s3))
  (List.take s4.length (List.drop (0 : Nat) s4))
  (List.take s5.length (List.drop (0 : Nat) s5))).offO.snd.snd)
  (some (V.b false, []))
  (ifT
  (decide
  ((0 : Int) ≤ (1 : Int) ∧
  (1 : Int) +
  (1 : Int) *
  (↑(List.take
  (Que.mk s0 s1 s2
  (List.take s3.length
  (List.drop (0 : Nat) s3))
  (List.take s4.length
  (List.drop (0 : Nat) s4))
  (List.take s5.length
  (List.drop (0 : Nat)
  s5))).offO.fst.w.length
  (List.drop (0 : Nat)
  (nilT (Cd.int IntKind.i64).den ++
  marks markInt1 (1 : Int) (1 : Int)
  (Que.mk s0 s1 s2
  (List.take s3.length
  (List.drop (0 : Nat) s3))
  (List.take s4.length
  (List.drop (0 : Nat) s4))
  (List.take s5.length
  (List.drop (0 : Nat)
  s5))).offO.fst.w.length ++
  List.drop
  ((0 : Nat) +
  (Que.mk s0 s1 s2
  (List.take s3.length
  (List.drop (0 : Nat) s3))
  (List.take s4.length
  (List.drop (0 : Nat) s4))
  (List.take s5.length
  (List.drop (0 : Nat)
  s5))).offO.fst.w.length)
  (Que.mk s0 s1 s2
  (List.take s3.length
  (List.drop (0 : Nat) s3))
  (List.take s4.length
  (List.drop (0 : Nat) s4))
  (List.take s5.length
  (List.drop (0 : Nat)
  s5))).offO.fst.w))).length :
  Int) +
  (1 : Int) *
  (↑(List.take
  (Que.mk s0 s1 s2
  (List.take s3.length (List.drop (0 : Nat) s3))
  (List.take s4.length (List.drop (0 : Nat) s4))
  (List.take s5.length
  (List.drop (0 : Nat) s5))).offO.fst.h.length
  (List.drop (0 : Nat)
  (nilT (Cd.int IntKind.i64).den ++
  marks markInt1 (1 : Int)
  ((1 : Int) +
  (1 : Int) *
  (↑(Que.mk s0 s1 s2
  (List.take s3.length
  (List.drop (0 : Nat) s3))
  (List.take s4.length
  (List.drop (0 : Nat) s4))
  (List.take s5.length
  (List.drop (0 : Nat)
  s5))).offO.fst.w.length :
  Int))
  (Que.mk s0 s1 s2
  (List.take s3.length
  (List.drop (0 : Nat) s3))
  (List.take s4.length
  (List.drop (0 : Nat) s4))
  (List.take s5.length
  (List.drop (0 : Nat)
  s5))).offO.fst.h.length ++
  List.drop
  ((0 : Nat) +
  (Que.mk s0 s1 s2
  (List.take s3.length
  (List.drop (0 : Nat) s3))
  (List.take s4.length
  (List.drop (0 : Nat) s4))
  (List.take s5.length
  (List.drop (0 : Nat)
  s5))).offO.fst.h.length)
  (Que.mk s0 s1 s2
  (List.take s3.length
  (List.drop (0 : Nat) s3))
  (List.take s4.length
  (List.drop (0 : Nat) s4))
  (List.take s5.length
  (List.drop (0 : Nat)
  s5))).offO.fst.h))).length :
  Int) +
  (1 : Int) *
  (↑(List.take
  (Que.mk s0 s1 s2
  (List.take s3.length (List.drop (0 : Nat) s3))
  (List.take s4.length (List.drop (0 : Nat) s4))
  (List.take s5.length
  (List.drop (0 : Nat) s5))).offO.fst.d.length
  (List.drop (0 : Nat)
  (nilT (Cd.int IntKind.i64).den ++
  marks markInt1 (1 : Int)
  ((1 : Int) +
  (1 : Int) *
  (↑(Que.mk s0 s1 s2
  (List.take s3.length
  (List.drop (0 : Nat) s3))
  (List.take s4.length
  (List.drop (0 : Nat) s4))
  (List.take s5.length
  (List.drop (0 : Nat)
  s5))).offO.fst.w.length :
  Int) +
  (1 : Int) *
  (↑(Que.mk s0 s1 s2
  (List.take s3.length
  (List.drop (0 : Nat) s3))
  (List.take s4.length
  (List.drop (0 : Nat) s4))
  (List.take s5.length
  (List.drop (0 : Nat)
  s5))).offO.fst.h.length :
  Int))
  (Que.mk s0 s1 s2
  (List.take s3.length
  (List.drop (0 : Nat) s3))
  (List.take s4.length
  (List.drop (0 : Nat) s4))
  (List.take s5.length
  (List.drop (0 : Nat)
  s5))).offO.fst.d.length ++
  List.drop
  ((0 : Nat) +
  (Que.mk s0 s1 s2
  (List.take s3.length
  (List.drop (0 : Nat) s3))
  (List.take s4.length
  (List.drop (0 : Nat) s4))
  (List.take s5.length
  (List.drop (0 : Nat)
  s5))).offO.fst.d.length)
  (Que.mk s0 s1 s2
  (List.take s3.length
  (List.drop (0 : Nat) s3))
  (List.take s4.length
  (List.drop (0 : Nat) s4))
  (List.take s5.length
  (List.drop (0 : Nat)
  s5))).offO.fst.d))).length :
  Int) ≤
  lim))
  (ifB
  (decide
  (List.take
  (Que.mk s0 s1 s2 (List.take s3.length (List.drop (0 : Nat) s3))
  (List.take s4.length (List.drop (0 : Nat) s4))
  (List.take s5.length
  (List.drop (0 : Nat) s5))).offO.fst.w.length
  (List.drop (0 : Nat)
  (nilT (Cd.int IntKind.i64).den ++
  marks markInt1 (1 : Int) (1 : Int)
  (Que.mk s0 s1 s2
  (List.take s3.length (List.drop (0 : Nat) s3))
  (List.take s4.length (List.drop (0 : Nat) s4))
  (List.take s5.length
  (List.drop (0 : Nat)
  s5))).offO.fst.w.length ++
  List.drop
  ((0 : Nat) +
  (Que.mk s0 s1 s2
  (List.take s3.length (List.drop (0 : Nat) s3))
  (List.take s4.length (List.drop (0 : Nat) s4))
  (List.take s5.length
  (List.drop (0 : Nat) s5))).offO.fst.w.length)
  (Que.mk s0 s1 s2
  (List.take s3.length (List.drop (0 : Nat) s3))
  (List.take s4.length (List.drop (0 : Nat) s4))
  (List.take s5.length
  (List.drop (0 : Nat) s5))).offO.fst.w)) =
  marks markInt1 (1 : Int) (1 : Int)
  (List.take
  (Que.mk s0 s1 s2
  (List.take s3.length (List.drop (0 : Nat) s3))
  (List.take s4.length (List.drop (0 : Nat) s4))
  (List.take s5.length
  (List.drop (0 : Nat) s5))).offO.fst.w.length
  (List.drop (0 : Nat)
  (nilT (Cd.int IntKind.i64).den ++
  marks markInt1 (1 : Int) (1 : Int)
  (Que.mk s0 s1 s2
  (List.take s3.length
  (List.drop (0 : Nat) s3))
  (List.take s4.length
  (List.drop (0 : Nat) s4))
  (List.take s5.length
  (List.drop (0 : Nat)
  s5))).offO.fst.w.length ++
  List.drop
  ((0 : Nat) +
  (Que.mk s0 s1 s2
  (List.take s3.length
  (List.drop (0 : Nat) s3))
  (List.take s4.length
  (List.drop (0 : Nat) s4))
  (List.take s5.length
  (List.drop (0 : Nat)
  s5))).offO.fst.w.length)
  (Que.mk s0 s1 s2
  (List.take s3.length (List.drop (0 : Nat) s3))
  (List.take s4.length (List.drop (0 : Nat) s4))
  (List.take s5.length
  (List.drop (0 : Nat)
  s5))).offO.fst.w))).length ∧
  List.take
  (Que.mk s0 s1 s2 (List.take s3.length (List.drop (0 : Nat) s3))
  (List.take s4.length (List.drop (0 : Nat) s4))
  (List.take s5.length
  (List.drop (0 : Nat) s5))).offO.fst.h.length
  (List.drop (0 : Nat)
  (nilT (Cd.int IntKind.i64).den ++
  marks markInt1 (1 : Int)
  ((1 : Int) +
  (1 : Int) *
  (↑(Que.mk s0 s1 s2
  (List.take s3.length
  (List.drop (0 : Nat) s3))
  (List.take s4.length
  (List.drop (0 : Nat) s4))
  (List.take s5.length
  (List.drop (0 : Nat)
  s5))).offO.fst.w.length :
  Int))
  (Que.mk s0 s1 s2
  (List.take s3.length (List.drop (0 : Nat) s3))
  (List.take s4.length (List.drop (0 : Nat) s4))
  (List.take s5.length
  (List.drop (0 : Nat)
  s5))).offO.fst.h.length ++
  List.drop
  ((0 : Nat) +
  (Que.mk s0 s1 s2
  (List.take s3.length (List.drop (0 : Nat) s3))
  (List.take s4.length (List.drop (0 : Nat) s4))
  (List.take s5.length
  (List.drop (0 : Nat)
  s5))).offO.fst.h.length)
  (Que.mk s0 s1 s2
  (List.take s3.length (List.drop (0 : Nat) s3))
  (List.take s4.length (List.drop (0 : Nat) s4))
  (List.take s5.length
  (List.drop (0 : Nat) s5))).offO.fst.h)) =
  marks markInt1 (1 : Int)
  ((1 : Int) +
  (1 : Int) *
  (↑(List.take
  (Que.mk s0 s1 s2
  (List.take s3.length
  (List.drop (0 : Nat) s3))
  (List.take s4.length
  (List.drop (0 : Nat) s4))
  (List.take s5.length
  (List.drop (0 : Nat)
  s5))).offO.fst.w.length
  (List.drop (0 : Nat)
  (nilT (Cd.int IntKind.i64).den ++
  marks markInt1 (1 : Int) (1 : Int)
  (Que.mk s0 s1 s2
  (List.take s3.length
  (List.drop (0 : Nat) s3))
  (List.take s4.length
  (List.drop (0 : Nat) s4))
  (List.take s5.length
  (List.drop (0 : Nat)
  s5))).offO.fst.w.length ++
  List.drop
  ((0 : Nat) +
  (Que.mk s0 s1 s2
  (List.take s3.length
  (List.drop (0 : Nat) s3))
  (List.take s4.length
  (List.drop (0 : Nat) s4))
  (List.take s5.length
  (List.drop (0 : Nat)
  s5))).offO.fst.w.length)
  (Que.mk s0 s1 s2
  (List.take s3.length
  (List.drop (0 : Nat) s3))
  (List.take s4.length
  (List.drop (0 : Nat) s4))
  (List.take s5.length
  (List.drop (0 : Nat)
  s5))).offO.fst.w))).length :
  Int))
  (List.take
  (Que.mk s0 s1 s2
  (List.take s3.length (List.drop (0 : Nat) s3))
  (List.take s4.length (List.drop (0 : Nat) s4))
  (List.take s5.length
  (List.drop (0 : Nat) s5))).offO.fst.h.length
  (List.drop (0 : Nat)
  (nilT (Cd.int IntKind.i64).den ++
  marks markInt1 (1 : Int)
  ((1 : Int) +
  (1 : Int) *
  (↑(Que.mk s0 s1 s2
  (List.take s3.length
  (List.drop (0 : Nat) s3))
  (List.take s4.length
  (List.drop (0 : Nat) s4))
  (List.take s5.length
  (List.drop (0 : Nat)
  s5))).offO.fst.w.length :
  Int))
  (Que.mk s0 s1 s2
  (List.take s3.length
  (List.drop (0 : Nat) s3))
  (List.take s4.length
  (List.drop (0 : Nat) s4))
  (List.take s5.length
  (List.drop (0 : Nat)
  s5))).offO.fst.h.length ++
  List.drop
  ((0 : Nat) +
  (Que.mk s0 s1 s2
  (List.take s3.length
  (List.drop (0 : Nat) s3))
  (List.take s4.length
  (List.drop (0 : Nat) s4))
  (List.take s5.length
  (List.drop (0 : Nat)
  s5))).offO.fst.h.length)
  (Que.mk s0 s1 s2
  (List.take s3.length (List.drop (0 : Nat) s3))
  (List.take s4.length (List.drop (0 : Nat) s4))
  (List.take s5.length
  (List.drop (0 : Nat)
  s5))).offO.fst.h))).length ∧
  List.take
  (Que.mk s0 s1 s2 (List.take s3.length (List.drop (0 : Nat) s3))
  (List.take s4.length (List.drop (0 : Nat) s4))
  (List.take s5.length
  (List.drop (0 : Nat) s5))).offO.fst.d.length
  (List.drop (0 : Nat)
  (nilT (Cd.int IntKind.i64).den ++
  marks markInt1 (1 : Int)
  ((1 : Int) +
  (1 : Int) *
  (↑(Que.mk s0 s1 s2
  (List.take s3.length
  (List.drop (0 : Nat) s3))
  (List.take s4.length
  (List.drop (0 : Nat) s4))
  (List.take s5.length
  (List.drop (0 : Nat)
  s5))).offO.fst.w.length :
  Int) +
  (1 : Int) *
  (↑(Que.mk s0 s1 s2
  (List.take s3.length
  (List.drop (0 : Nat) s3))
  (List.take s4.length
  (List.drop (0 : Nat) s4))
  (List.take s5.length
  (List.drop (0 : Nat)
  s5))).offO.fst.h.length :
  Int))
  (Que.mk s0 s1 s2
  (List.take s3.length (List.drop (0 : Nat) s3))
  (List.take s4.length (List.drop (0 : Nat) s4))
  (List.take s5.length
  (List.drop (0 : Nat)
  s5))).offO.fst.d.length ++
  List.drop
  ((0 : Nat) +
  (Que.mk s0 s1 s2
  (List.take s3.length (List.drop (0 : Nat) s3))
  (List.take s4.length (List.drop (0 : Nat) s4))
  (List.take s5.length
  (List.drop (0 : Nat)
  s5))).offO.fst.d.length)
  (Que.mk s0 s1 s2
  (List.take s3.length (List.drop (0 : Nat) s3))
  (List.take s4.length (List.drop (0 : Nat) s4))
  (List.take s5.length
  (List.drop (0 : Nat) s5))).offO.fst.d)) =
  marks markInt1 (1 : Int)
  ((1 : Int) +
  (1 : Int) *
  (↑(List.take
  (Que.mk s0 s1 s2
  (List.take s3.length
  (List.drop (0 : Nat) s3))
  (List.take s4.length
  (List.drop (0 : Nat) s4))
  (List.take s5.length
  (List.drop (0 : Nat)
  s5))).offO.fst.w.length
  (List.drop (0 : Nat)
  (nilT (Cd.int IntKind.i64).den ++
  marks markInt1 (1 : Int) (1 : Int)
  (Que.mk s0 s1 s2
  (List.take s3.length
  (List.drop (0 : Nat) s3))
  (List.take s4.length
  (List.drop (0 : Nat) s4))
  (List.take s5.length
  (List.drop (0 : Nat)
  s5))).offO.fst.w.length ++
  List.drop
  ((0 : Nat) +
  (Que.mk s0 s1 s2
  (List.take s3.length
  (List.drop (0 : Nat) s3))
  (List.take s4.length
  (List.drop (0 : Nat) s4))
  (List.take s5.length
  (List.drop (0 : Nat)
  s5))).offO.fst.w.length)
  (Que.mk s0 s1 s2
  (List.take s3.length
  (List.drop (0 : Nat) s3))
  (List.take s4.length
  (List.drop (0 : Nat) s4))
  (List.take s5.length
  (List.drop (0 : Nat)
  s5))).offO.fst.w))).length :
  Int) +
  (1 : Int) *
  (↑(List.take
  (Que.mk s0 s1 s2
  (List.take s3.length
  (List.drop (0 : Nat) s3))
  (List.take s4.length
  (List.drop (0 : Nat) s4))
  (List.take s5.length
  (List.drop (0 : Nat)
  s5))).offO.fst.h.length
  (List.drop (0 : Nat)
  (nilT (Cd.int IntKind.i64).den ++
  marks markInt1 (1 : Int)
  ((1 : Int) +
  (1 : Int) *
  (↑(Que.mk s0 s1 s2
  (List.take s3.length
  (List.drop (0 : Nat)
  s3))
  (List.take s4.length
  (List.drop (0 : Nat)
  s4))
  (List.take s5.length
  (List.drop (0 : Nat)
  s5))).offO.fst.w.length :
  Int))
  (Que.mk s0 s1 s2
  (List.take s3.length
  (List.drop (0 : Nat) s3))
  (List.take s4.length
  (List.drop (0 : Nat) s4))
  (List.take s5.length
  (List.drop (0 : Nat)
  s5))).offO.fst.h.length ++
  List.drop
  ((0 : Nat) +
  (Que.mk s0 s1 s2
  (List.take s3.length
  (List.drop (0 : Nat) s3))
  (List.take s4.length
  (List.drop (0 : Nat) s4))
  (List.take s5.length
  (List.drop (0 : Nat)
  s5))).offO.fst.h.length)
  (Que.mk s0 s1 s2
  (List.take s3.length
  (List.drop (0 : Nat) s3))
  (List.take s4.length
  (List.drop (0 : Nat) s4))
  (List.take s5.length
  (List.drop (0 : Nat)
  s5))).offO.fst.h))).length :
  Int))
  (List.take
  (Que.mk s0 s1 s2
  (List.take s3.length (List.drop (0 : Nat) s3))
  (List.take s4.length (List.drop (0 : Nat) s4))
  (List.take s5.length
  (List.drop (0 : Nat) s5))).offO.fst.d.length
  (List.drop (0 : Nat)
  (nilT (Cd.int IntKind.i64).den ++
  marks markInt1 (1 : Int)
  ((1 : Int) +
  (1 : Int) *
  (↑(Que.mk s0 s1 s2
  (List.take s3.length
  (List.drop (0 : Nat) s3))
  (List.take s4.length
  (List.drop (0 : Nat) s4))
  (List.take s5.length
  (List.drop (0 : Nat)
  s5))).offO.fst.w.length :
  Int) +
  (1 : Int) *
  (↑(Que.mk s0 s1 s2
  (List.take s3.length
  (List.drop (0 : Nat) s3))
  (List.take s4.length
  (List.drop (0 : Nat) s4))
  (List.take s5.length
  (List.drop (0 : Nat)
  s5))).offO.fst.h.length :
  Int))
  (Que.mk s0 s1 s2
  (List.take s3.length
  (List.drop (0 : Nat) s3))
  (List.take s4.length
  (List.drop (0 : Nat) s4))
  (List.take s5.length
  (List.drop (0 : Nat)
  s5))).offO.fst.d.length ++
  List.drop
  ((0 : Nat) +
  (Que.mk s0 s1 s2
  (List.take s3.length
  (List.drop (0 : Nat) s3))
  (List.take s4.length
  (List.drop (0 : Nat) s4))
  (List.take s5.length
  (List.drop (0 : Nat)
  s5))).offO.fst.d.length)
  (Que.mk s0 s1 s2
  (List.take s3.length (List.drop (0 : Nat) s3))
  (List.take s4.length (List.drop (0 : Nat) s4))
  (List.take s5.length
  (List.drop (0 : Nat)
  s5))).offO.fst.d))).length))
  (ifB
  ((1 : Int) +
  (1 : Int) *
  (↑(List.take
  (Que.mk s0 s1 s2
  (List.take s3.length
  (List.drop (0 : Nat) s3))
  (List.take s4.length
  (List.drop (0 : Nat) s4))
  (List.take s5.length
  (List.drop (0 : Nat)
  s5))).offO.fst.w.length
  (List.drop (0 : Nat)
  (nilT (Cd.int IntKind.i64).den ++
  marks markInt1 (1 : Int) (1 : Int)
  (Que.mk s0 s1 s2
  (List.take s3.length
  (List.drop (0 : Nat) s3))
  (List.take s4.length
  (List.drop (0 : Nat) s4))
  (List.take s5.length
  (List.drop (0 : Nat)
  s5))).offO.fst.w.length ++
  List.drop
  ((0 : Nat) +
  (Que.mk s0 s1 s2
  (List.take s3.length
  (List.drop (0 : Nat) s3))
  (List.take s4.length
  (List.drop (0 : Nat) s4))
  (List.take s5.length
  (List.drop (0 : Nat)
  s5))).offO.fst.w.length)
  (Que.mk s0 s1 s2
  (List.take s3.length
  (List.drop (0 : Nat) s3))
  (List.take s4.length
  (List.drop (0 : Nat) s4))
  (List.take s5.length
  (List.drop (0 : Nat)
  s5))).offO.fst.w))).length :
  Int) +
  (1 : Int) *
  (↑(List.take
  (Que.mk s0 s1 s2
  (List.take s3.length (List.drop (0 : Nat) s3))
  (List.take s4.length (List.drop (0 : Nat) s4))
  (List.take s5.length
  (List.drop (0 : Nat) s5))).offO.fst.h.length
  (List.drop (0 : Nat)
  (nilT (Cd.int IntKind.i64).den ++
  marks markInt1 (1 : Int)
  ((1 : Int) +
  (1 : Int) *
  (↑(Que.mk s0 s1 s2
  (List.take s3.length
  (List.drop (0 : Nat) s3))
  (List.take s4.length
  (List.drop (0 : Nat) s4))
  (List.take s5.length
  (List.drop (0 : Nat)
  s5))).offO.fst.w.length :
  Int))
  (Que.mk s0 s1 s2
  (List.take s3.length
  (List.drop (0 : Nat) s3))
  (List.take s4.length
  (List.drop (0 : Nat) s4))
  (List.take s5.length
  (List.drop (0 : Nat)
  s5))).offO.fst.h.length ++
  List.drop
  ((0 : Nat) +
  (Que.mk s0 s1 s2
  (List.take s3.length
  (List.drop (0 : Nat) s3))
  (List.take s4.length
  (List.drop (0 : Nat) s4))
  (List.take s5.length
  (List.drop (0 : Nat)
  s5))).offO.fst.h.length)
  (Que.mk s0 s1 s2
  (List.take s3.length
  (List.drop (0 : Nat) s3))
  (List.take s4.length
  (List.drop (0 : Nat) s4))
  (List.take s5.length
  (List.drop (0 : Nat)
  s5))).offO.fst.h))).length :
  Int) +
  (1 : Int) *
  (↑(List.take
  (Que.mk s0 s1 s2
  (List.take s3.length (List.drop (0 : Nat) s3))
  (List.take s4.length (List.drop (0 : Nat) s4))
  (List.take s5.length
  (List.drop (0 : Nat) s5))).offO.fst.d.length
  (List.drop (0 : Nat)
  (nilT (Cd.int IntKind.i64).den ++
  marks markInt1 (1 : Int)
  ((1 : Int) +
  (1 : Int) *
  (↑(Que.mk s0 s1 s2
  (List.take s3.length
  (List.drop (0 : Nat) s3))
  (List.take s4.length
  (List.drop (0 : Nat) s4))
  (List.take s5.length
  (List.drop (0 : Nat)
  s5))).offO.fst.w.length :
  Int) +
  (1 : Int) *
  (↑(Que.mk s0 s1 s2
  (List.take s3.length
  (List.drop (0 : Nat) s3))
  (List.take s4.length
  (List.drop (0 : Nat) s4))
  (List.take s5.length
  (List.drop (0 : Nat)
  s5))).offO.fst.h.length :
  Int))
  (Que.mk s0 s1 s2
  (List.take s3.length
  (List.drop (0 : Nat) s3))
  (List.take s4.length
  (List.drop (0 : Nat) s4))
  (List.take s5.length
  (List.drop (0 : Nat)
  s5))).offO.fst.d.length ++
  List.drop
  ((0 : Nat) +
  (Que.mk s0 s1 s2
  (List.take s3.length
  (List.drop (0 : Nat) s3))
  (List.take s4.length
  (List.drop (0 : Nat) s4))
  (List.take s5.length
  (List.drop (0 : Nat)
  s5))).offO.fst.d.length)
  (Que.mk s0 s1 s2
  (List.take s3.length
  (List.drop (0 : Nat) s3))
  (List.take s4.length
  (List.drop (0 : Nat) s4))
  (List.take s5.length
  (List.drop (0 : Nat)
  s5))).offO.fst.d))).length :
  Int) !=
  (1 : Int) +
  (1 : Int) *
  (↑(Que.mk s0 s1 s2
  (List.take s3.length (List.drop (0 : Nat) s3))
  (List.take s4.length (List.drop (0 : Nat) s4))
  (List.take s5.length
  (List.drop (0 : Nat) s5))).offO.fst.w.length :
  Int) +
  (1 : Int) *
  (↑(Que.mk s0 s1 s2
  (List.take s3.length (List.drop (0 : Nat) s3))
  (List.take s4.length (List.drop (0 : Nat) s4))
  (List.take s5.length
  (List.drop (0 : Nat) s5))).offO.fst.h.length :
  Int) +
  (1 : Int) *
  (↑(Que.mk s0 s1 s2 (List.take s3.length (List.drop (0 : Nat) s3))
  (List.take s4.length (List.drop (0 : Nat) s4))
  (List.take s5.length
  (List.drop (0 : Nat) s5))).offO.fst.d.length :
  Int))
  (some (V.b false, [])) (some (V.b true, [])))
  (some (V.b false, [])))))))))
  (some (V.b false, [])))))))))))))))))) : _) := by kernel_rfl
  rw [e]
  clear e
  by_cases q : ((1048576 : Int) - (↑s3.length : Int) - (↑s4.length : Int) - (↑s5.length : Int)) < 0
  · simp [q]
  have l3 : s3.length ≤ 1000000000 := by omega
  have l4 : s4.length ≤ 1000000000 := by omega
  have l5 : s5.length ≤ 1000000000 := by omega
  have l345 : s3.length + s4.length + s5.length ≤ 1048576 := by omega
  obtain ⟨t3, t4, t5⟩ := Que.offO_len (Que.mk s0 s1 s2 s3 s4 s5)
  simp only [List.drop_zero, List.take_length, List.take_zero, List.nil_append, Nat.zero_add, List.drop_length, List.append_nil]
  generalize (Que.mk s0 s1 s2 s3 s4 s5).offO = t at *
  have e7 : ∀ (k : Int) (n : Nat), List.take n (marks markInt1 1 k n) = marks markInt1 1 k n := fun k n => List.take_of_length_le (by rw [marks_length]; exact Nat.le_refl _)
  simp only [e7, marks_length]
  have hlim : lim = 1000000000000 := rfl
  simp [q, l3, l4, l5]
  rw [hlim]
  omega

theorem law_loops : LoopsOk Try.prog (look [(18, .rd1 szQueueG), (20, .rd1 toQueueG), (25, .rd1 offerG), (26, .rd1 offerG), (22, .rd1 eqQueueG), (23, .own markQueueG), (24, .rd1 heldQueueG)]) (look []) 0 (Try.f5.body.getD .skip) := loopsOk_nil _
end Go.Proofs.Ytpoepgnhdhpkjaa.Den
