/- What functions of the program do, by the machine: Que7. -/
import Derived.Test.YtjghbihlgfjebaaDQue6
import Derived.KernelRfl
import Derived.Test.YtjghbihlgfjebaaRows
namespace Go.Proofs.Ytjghbihlgfjebaa.Den
open Go.Proofs
set_option maxRecDepth 100000
/-- What an offer answers. -/
def Que.offO (q : Que) : Que × Int × Bool := if q.good = true ∧ q.n ≠ 100 then (q.off.1, q.off.2, true) else (Que.zero, 0, false)
def Que.hndO (q : Que) : Que × Int × Bool := if q.good = true ∧ q.w.length ≠ 0 then (q.hnd.1, q.hnd.2, true) else (Que.zero, 0, false)
/-- Where those that wait begin in their row behind a hand, and the row. -/
def Que.hndP (q : Que) : Nat := if q.good = true ∧ q.w.length ≠ 0 then 1 else 0
def Que.hndR (q : Que) : List Int := if q.good = true ∧ q.w.length ≠ 0 then q.w else []
def movedG : List V → List Blk → Br (V × List (Option Blk))
  | [.agg [.i .i64 c, .i .i64 r, .i .i64 n, .sl (.int .i64) w, .sl (.int .i64) h, .sl (.int .i64) d], .fn 108 [] []], [] => .leaf (.tup [.agg [.i .i64 (Que.mk c r n w h d).offO.1.c, .i .i64 (Que.mk c r n w h d).offO.1.r, .i .i64 (Que.mk c r n w h d).offO.1.n, .ref 0 0 (Que.mk c r n w h d).offO.1.w.length, .ref 1 0 (Que.mk c r n w h d).offO.1.h.length, .ref 2 0 (Que.mk c r n w h d).offO.1.d.length], .i .i64 (Que.mk c r n w h d).offO.2.1, .b (Que.mk c r n w h d).offO.2.2], [some (.row false none (.int .i64) (Que.mk c r n w h d).offO.1.w), some (.row false none (.int .i64) (Que.mk c r n w h d).offO.1.h), some (.row false none (.int .i64) (Que.mk c r n w h d).offO.1.d)])
  | [.agg [.i .i64 c, .i .i64 r, .i .i64 n, .sl (.int .i64) w, .sl (.int .i64) h, .sl (.int .i64) d], .fn 107 [] []], [] => .leaf (.tup [.agg [.i .i64 (Que.mk c r n w h d).hndO.1.c, .i .i64 (Que.mk c r n w h d).hndO.1.r, .i .i64 (Que.mk c r n w h d).hndO.1.n, .ref 0 (Que.mk c r n w h d).hndP (Que.mk c r n w h d).hndO.1.w.length, .ref 1 0 (Que.mk c r n w h d).hndO.1.h.length, .ref 2 0 (Que.mk c r n w h d).hndO.1.d.length], .i .i64 (Que.mk c r n w h d).hndO.2.1, .b (Que.mk c r n w h d).hndO.2.2], [some (.row false none (.int .i64) (Que.mk c r n w h d).hndR), some (.row false none (.int .i64) (Que.mk c r n w h d).hndO.1.h), some (.row false none (.int .i64) (Que.mk c r n w h d).hndO.1.d)])
  | _, _ => .no
def offerG : List V → List Blk → Br (V × List (Option Blk))
  | [.agg [.i .i64 c, .i .i64 r, .i .i64 n, .sl (.int .i64) w, .sl (.int .i64) h, .sl (.int .i64) d]], [] => .leaf (.tup [.agg [.i .i64 (Que.mk c r n w h d).offO.1.c, .i .i64 (Que.mk c r n w h d).offO.1.r, .i .i64 (Que.mk c r n w h d).offO.1.n, .ref 0 0 (Que.mk c r n w h d).offO.1.w.length, .ref 1 0 (Que.mk c r n w h d).offO.1.h.length, .ref 2 0 (Que.mk c r n w h d).offO.1.d.length], .i .i64 (Que.mk c r n w h d).offO.2.1, .b (Que.mk c r n w h d).offO.2.2], [some (.row false none (.int .i64) (Que.mk c r n w h d).offO.1.w), some (.row false none (.int .i64) (Que.mk c r n w h d).offO.1.h), some (.row false none (.int .i64) (Que.mk c r n w h d).offO.1.d)])
  | _, _ => .no
def handG : List V → List Blk → Br (V × List (Option Blk))
  | [.agg [.i .i64 c, .i .i64 r, .i .i64 n, .sl (.int .i64) w, .sl (.int .i64) h, .sl (.int .i64) d]], [] => .leaf (.tup [.agg [.i .i64 (Que.mk c r n w h d).hndO.1.c, .i .i64 (Que.mk c r n w h d).hndO.1.r, .i .i64 (Que.mk c r n w h d).hndO.1.n, .ref 0 0 (Que.mk c r n w h d).hndO.1.w.length, .ref 1 0 (Que.mk c r n w h d).hndO.1.h.length, .ref 2 0 (Que.mk c r n w h d).hndO.1.d.length], .i .i64 (Que.mk c r n w h d).hndO.2.1, .b (Que.mk c r n w h d).hndO.2.2], [some (.row false none (.int .i64) (Que.mk c r n w h d).hndO.1.w), some (.row false none (.int .i64) (Que.mk c r n w h d).hndO.1.h), some (.row false none (.int .i64) (Que.mk c r n w h d).hndO.1.d)])
  | _, _ => .no
def handIG : List V → List Blk → Br (V × List (Option Blk))
  | [.agg [.i .i64 c, .i .i64 r, .i .i64 n, .sl (.int .i64) w, .sl (.int .i64) h, .sl (.int .i64) d]], [] => .leaf (.tup [.agg [.i .i64 (Que.mk c r n w h d).hndO.1.c, .i .i64 (Que.mk c r n w h d).hndO.1.r, .i .i64 (Que.mk c r n w h d).hndO.1.n, .ref 0 (Que.mk c r n w h d).hndP (Que.mk c r n w h d).hndO.1.w.length, .ref 1 0 (Que.mk c r n w h d).hndO.1.h.length, .ref 2 0 (Que.mk c r n w h d).hndO.1.d.length], .i .i64 (Que.mk c r n w h d).hndO.2.1, .b (Que.mk c r n w h d).hndO.2.2], [some (.row false none (.int .i64) (Que.mk c r n w h d).hndR), some (.row false none (.int .i64) (Que.mk c r n w h d).hndO.1.h), some (.row false none (.int .i64) (Que.mk c r n w h d).hndO.1.d)])
  | _, _ => .no
theorem Que.offP_zero (q : Que) : q.offP 0 = 0 := by unfold Que.offP; split <;> (try split) <;> rfl
theorem Que.offR_self (q : Que) : q.offR q.w = q.off.1.w := by
  unfold Que.offR Que.off
  by_cases h1 : (q.w.length : Int) < q.c
  · simp [h1]
  · by_cases h2 : q.r = 3
    · simp [h1, h2]
    · simp [h1, h2]
theorem goodQ_len {c r n : Int} {w h d : List Int} (hg : goodQ c r n w h d = true) : w.length ≤ 1000000000 ∧ h.length ≤ 1000000000 ∧ d.length ≤ 1000000000 := by
  have f : (Que.mk c r n w h d).Fine := Que.fine hg
  have f3 := f.n; have f5 := f.sum
  dsimp only at f3 f5
  omega
theorem movedO_fun (c r n : Int) (w h d : List Int) : funN Try.prog (look [(37, .rd1 goodQG), (156, .rd1 cloneQG), (108, .own qofferG), (107, .own qhandG)]) (look []) Try.f121 [.agg [.i .i64 c, .i .i64 r, .i .i64 n, .sl (.int .i64) w, .sl (.int .i64) h, .sl (.int .i64) d], .fn 108 [] []] [] = (.leaf (.tup [.agg [.i .i64 (Que.mk c r n w h d).offO.1.c, .i .i64 (Que.mk c r n w h d).offO.1.r, .i .i64 (Que.mk c r n w h d).offO.1.n, .ref 0 0 (Que.mk c r n w h d).offO.1.w.length, .ref 1 0 (Que.mk c r n w h d).offO.1.h.length, .ref 2 0 (Que.mk c r n w h d).offO.1.d.length], .i .i64 (Que.mk c r n w h d).offO.2.1, .b (Que.mk c r n w h d).offO.2.2], [some (.row false none (.int .i64) (Que.mk c r n w h d).offO.1.w), some (.row false none (.int .i64) (Que.mk c r n w h d).offO.1.h), some (.row false none (.int .i64) (Que.mk c r n w h d).offO.1.d)]) : Br (V × List (Option Blk))).run := by
  have e : funN Try.prog (look [(37, .rd1 goodQG), (156, .rd1 cloneQG), (108, .own qofferG), (107, .own qhandG)]) (look []) Try.f121 [.agg [.i .i64 c, .i .i64 r, .i .i64 n, .sl (.int .i64) w, .sl (.int .i64) h, .sl (.int .i64) d], .fn 108 [] []] [] = ((ifB (!goodQ c r n w h d)
  (some
  (V.tup
  [V.agg
  [V.i IntKind.i64 (0 : Int), V.i IntKind.i64 (0 : Int), V.i IntKind.i64 (0 : Int),
  V.ref (0 : Nat) (0 : Nat) (0 : Nat), V.ref (1 : Nat) (0 : Nat) (0 : Nat),
  V.ref (2 : Nat) (0 : Nat) (0 : Nat)],
  V.i IntKind.i64 (0 : Int), V.b false],
  [some (Blk.row false none (Cd.int IntKind.i64) (nilT (Cd.int IntKind.i64).den)),
  some (Blk.row false none (Cd.int IntKind.i64) (nilT (Cd.int IntKind.i64).den)),
  some (Blk.row false none (Cd.int IntKind.i64) (nilT (Cd.int IntKind.i64).den))]))
  (ifT (decide (w.length ≤ (1000000000 : Nat) ∧ h.length ≤ (1000000000 : Nat) ∧ d.length ≤ (1000000000 : Nat)))
  (ifT
  (decide
  ((0 : Nat) + (Que.mk c r n w h d).w.length = (Que.mk c r n w h d).w.length ∧
  (Que.mk c r n w h d).h.length = (Que.mk c r n w h d).h.length ∧
  (Que.mk c r n w h d).d.length = (Que.mk c r n w h d).d.length) &&
  goodQ (Que.mk c r n w h d).c (Que.mk c r n w h d).r (Que.mk c r n w h d).n
  (List.drop (0 : Nat) (Que.mk c r n w h d).w) (Que.mk c r n w h d).h (Que.mk c r n w h d).d)
  (ifB (decide ((Que.mk c r n w h d).n = (100 : Int)))
  (some
  (V.tup
  [V.agg
  [V.i IntKind.i64 (0 : Int), V.i IntKind.i64 (0 : Int), V.i IntKind.i64 (0 : Int),
  V.ref (0 : Nat) (0 : Nat) (0 : Nat), V.ref (1 : Nat) (0 : Nat) (0 : Nat),
  V.ref (2 : Nat) (0 : Nat) (0 : Nat)],
  V.i IntKind.i64 (0 : Int), V.b false],
  [some (Blk.row false none (Cd.int IntKind.i64) (nilT (Cd.int IntKind.i64).den)),
  some (Blk.row false none (Cd.int IntKind.i64) (nilT (Cd.int IntKind.i64).den)),
  some (Blk.row false none (Cd.int IntKind.i64) (nilT (Cd.int IntKind.i64).den))]))
  (some
  (V.tup
  [V.agg
  [V.i IntKind.i64
  (Que.mk (Que.mk c r n w h d).c (Que.mk c r n w h d).r (Que.mk c r n w h d).n
  (List.drop (0 : Nat) (Que.mk c r n w h d).w) (Que.mk c r n w h d).h
  (Que.mk c r n w h d).d).off.fst.c,
  V.i IntKind.i64
  (Que.mk (Que.mk c r n w h d).c (Que.mk c r n w h d).r (Que.mk c r n w h d).n
  (List.drop (0 : Nat) (Que.mk c r n w h d).w) (Que.mk c r n w h d).h
  (Que.mk c r n w h d).d).off.fst.r,
  V.i IntKind.i64
  (Que.mk (Que.mk c r n w h d).c (Que.mk c r n w h d).r (Que.mk c r n w h d).n
  (List.drop (0 : Nat) (Que.mk c r n w h d).w) (Que.mk c r n w h d).h
  (Que.mk c r n w h d).d).off.fst.n,
  V.ref (0 : Nat)
  ((Que.mk (Que.mk c r n w h d).c (Que.mk c r n w h d).r (Que.mk c r n w h d).n
  (List.drop (0 : Nat) (Que.mk c r n w h d).w) (Que.mk c r n w h d).h
  (Que.mk c r n w h d).d).offP
  (0 : Nat))
  (Que.mk (Que.mk c r n w h d).c (Que.mk c r n w h d).r (Que.mk c r n w h d).n
  (List.drop (0 : Nat) (Que.mk c r n w h d).w) (Que.mk c r n w h d).h
  (Que.mk c r n w h d).d).off.fst.w.length,
  V.ref (1 : Nat) (0 : Nat)
  (Que.mk (Que.mk c r n w h d).c (Que.mk c r n w h d).r (Que.mk c r n w h d).n
  (List.drop (0 : Nat) (Que.mk c r n w h d).w) (Que.mk c r n w h d).h
  (Que.mk c r n w h d).d).off.fst.h.length,
  V.ref (2 : Nat) (0 : Nat)
  (Que.mk (Que.mk c r n w h d).c (Que.mk c r n w h d).r (Que.mk c r n w h d).n
  (List.drop (0 : Nat) (Que.mk c r n w h d).w) (Que.mk c r n w h d).h
  (Que.mk c r n w h d).d).off.fst.d.length],
  V.i IntKind.i64
  (Que.mk (Que.mk c r n w h d).c (Que.mk c r n w h d).r (Que.mk c r n w h d).n
  (List.drop (0 : Nat) (Que.mk c r n w h d).w) (Que.mk c r n w h d).h
  (Que.mk c r n w h d).d).off.snd,
  V.b true],
  [some
  (Blk.row false none (Cd.int IntKind.i64)
  ((Que.mk (Que.mk c r n w h d).c (Que.mk c r n w h d).r (Que.mk c r n w h d).n
  (List.drop (0 : Nat) (Que.mk c r n w h d).w) (Que.mk c r n w h d).h (Que.mk c r n w h d).d).offR
  (Que.mk c r n w h d).w)),
  some
  (Blk.row false none (Cd.int IntKind.i64)
  (Que.mk (Que.mk c r n w h d).c (Que.mk c r n w h d).r (Que.mk c r n w h d).n
  (List.drop (0 : Nat) (Que.mk c r n w h d).w) (Que.mk c r n w h d).h
  (Que.mk c r n w h d).d).off.fst.h),
  some
  (Blk.row false none (Cd.int IntKind.i64)
  (Que.mk (Que.mk c r n w h d).c (Que.mk c r n w h d).r (Que.mk c r n w h d).n
  (List.drop (0 : Nat) (Que.mk c r n w h d).w) (Que.mk c r n w h d).h
  (Que.mk c r n w h d).d).off.fst.d)])))))) : _) := by kernel_rfl
  rw [e]
  clear e
  unfold Que.offO
  cases hg : goodQ c r n w h d with
  | false =>
    rw [ifB_true (by rfl)]
    have hn : ¬ ((Que.mk c r n w h d).good = true ∧ (Que.mk c r n w h d).n ≠ 100) := fun hh => by have := hh.1; unfold Que.good at this; rw [hg] at this; cases this
    simp only [if_neg hn, nilT_eq]
    rfl
  | true =>
    rw [ifB_false (by rfl), ifT_true (decide_eq_true (goodQ_len hg))]
    simp only [List.drop_zero, Nat.zero_add, Que.offP_zero, Que.offR_self]
    rw [ifT_true (by first | (rw [hg]; simp; done) | simp)]
    by_cases q2 : (Que.mk c r n w h d).n ≠ 100
    rotate_left
    · rw [ifB_true (decide_eq_true (by simpa using q2))]
      have hn : ¬ ((Que.mk c r n w h d).good = true ∧ (Que.mk c r n w h d).n ≠ 100) := fun hh => q2 hh.2
      simp only [if_neg hn, nilT_eq]
      rfl
    · rw [ifB_false (decide_eq_false (by simpa using q2))]
      have hy : (Que.mk c r n w h d).good = true ∧ (Que.mk c r n w h d).n ≠ 100 := ⟨hg, q2⟩
      simp only [if_pos hy]
      try rw [Que.offR_self (Que.mk c r n w h d)]
      rfl
theorem movedH_fun (c r n : Int) (w h d : List Int) : funN Try.prog (look [(37, .rd1 goodQG), (156, .rd1 cloneQG), (108, .own qofferG), (107, .own qhandG)]) (look []) Try.f121 [.agg [.i .i64 c, .i .i64 r, .i .i64 n, .sl (.int .i64) w, .sl (.int .i64) h, .sl (.int .i64) d], .fn 107 [] []] [] = (.leaf (.tup [.agg [.i .i64 (Que.mk c r n w h d).hndO.1.c, .i .i64 (Que.mk c r n w h d).hndO.1.r, .i .i64 (Que.mk c r n w h d).hndO.1.n, .ref 0 (Que.mk c r n w h d).hndP (Que.mk c r n w h d).hndO.1.w.length, .ref 1 0 (Que.mk c r n w h d).hndO.1.h.length, .ref 2 0 (Que.mk c r n w h d).hndO.1.d.length], .i .i64 (Que.mk c r n w h d).hndO.2.1, .b (Que.mk c r n w h d).hndO.2.2], [some (.row false none (.int .i64) (Que.mk c r n w h d).hndR), some (.row false none (.int .i64) (Que.mk c r n w h d).hndO.1.h), some (.row false none (.int .i64) (Que.mk c r n w h d).hndO.1.d)]) : Br (V × List (Option Blk))).run := by
  have e : funN Try.prog (look [(37, .rd1 goodQG), (156, .rd1 cloneQG), (108, .own qofferG), (107, .own qhandG)]) (look []) Try.f121 [.agg [.i .i64 c, .i .i64 r, .i .i64 n, .sl (.int .i64) w, .sl (.int .i64) h, .sl (.int .i64) d], .fn 107 [] []] [] = ((ifB (!goodQ c r n w h d)
  (some
  (V.tup
  [V.agg
  [V.i IntKind.i64 (0 : Int), V.i IntKind.i64 (0 : Int), V.i IntKind.i64 (0 : Int),
  V.ref (0 : Nat) (0 : Nat) (0 : Nat), V.ref (1 : Nat) (0 : Nat) (0 : Nat),
  V.ref (2 : Nat) (0 : Nat) (0 : Nat)],
  V.i IntKind.i64 (0 : Int), V.b false],
  [some (Blk.row false none (Cd.int IntKind.i64) (nilT (Cd.int IntKind.i64).den)),
  some (Blk.row false none (Cd.int IntKind.i64) (nilT (Cd.int IntKind.i64).den)),
  some (Blk.row false none (Cd.int IntKind.i64) (nilT (Cd.int IntKind.i64).den))]))
  (ifT (decide (w.length ≤ (1000000000 : Nat) ∧ h.length ≤ (1000000000 : Nat) ∧ d.length ≤ (1000000000 : Nat)))
  (ifT
  (decide
  ((0 : Nat) + (Que.mk c r n w h d).w.length = (Que.mk c r n w h d).w.length ∧
  (Que.mk c r n w h d).h.length = (Que.mk c r n w h d).h.length ∧
  (Que.mk c r n w h d).d.length = (Que.mk c r n w h d).d.length) &&
  goodQ (Que.mk c r n w h d).c (Que.mk c r n w h d).r (Que.mk c r n w h d).n
  (List.drop (0 : Nat) (Que.mk c r n w h d).w) (Que.mk c r n w h d).h (Que.mk c r n w h d).d)
  (ifB (decide ((Que.mk c r n w h d).w.length = (0 : Nat)))
  (some
  (V.tup
  [V.agg
  [V.i IntKind.i64 (0 : Int), V.i IntKind.i64 (0 : Int), V.i IntKind.i64 (0 : Int),
  V.ref (0 : Nat) (0 : Nat) (0 : Nat), V.ref (1 : Nat) (0 : Nat) (0 : Nat),
  V.ref (2 : Nat) (0 : Nat) (0 : Nat)],
  V.i IntKind.i64 (0 : Int), V.b false],
  [some (Blk.row false none (Cd.int IntKind.i64) (nilT (Cd.int IntKind.i64).den)),
  some (Blk.row false none (Cd.int IntKind.i64) (nilT (Cd.int IntKind.i64).den)),
  some (Blk.row false none (Cd.int IntKind.i64) (nilT (Cd.int IntKind.i64).den))]))
  (some
  (V.tup
  [V.agg
  [V.i IntKind.i64
  (Que.mk (Que.mk c r n w h d).c (Que.mk c r n w h d).r (Que.mk c r n w h d).n
  (List.drop (0 : Nat) (Que.mk c r n w h d).w) (Que.mk c r n w h d).h
  (Que.mk c r n w h d).d).hnd.fst.c,
  V.i IntKind.i64
  (Que.mk (Que.mk c r n w h d).c (Que.mk c r n w h d).r (Que.mk c r n w h d).n
  (List.drop (0 : Nat) (Que.mk c r n w h d).w) (Que.mk c r n w h d).h
  (Que.mk c r n w h d).d).hnd.fst.r,
  V.i IntKind.i64
  (Que.mk (Que.mk c r n w h d).c (Que.mk c r n w h d).r (Que.mk c r n w h d).n
  (List.drop (0 : Nat) (Que.mk c r n w h d).w) (Que.mk c r n w h d).h
  (Que.mk c r n w h d).d).hnd.fst.n,
  V.ref (0 : Nat) (1 : Nat)
  (Que.mk (Que.mk c r n w h d).c (Que.mk c r n w h d).r (Que.mk c r n w h d).n
  (List.drop (0 : Nat) (Que.mk c r n w h d).w) (Que.mk c r n w h d).h
  (Que.mk c r n w h d).d).hnd.fst.w.length,
  V.ref (1 : Nat) (0 : Nat)
  (Que.mk (Que.mk c r n w h d).c (Que.mk c r n w h d).r (Que.mk c r n w h d).n
  (List.drop (0 : Nat) (Que.mk c r n w h d).w) (Que.mk c r n w h d).h
  (Que.mk c r n w h d).d).hnd.fst.h.length,
  V.ref (2 : Nat) (0 : Nat)
  (Que.mk (Que.mk c r n w h d).c (Que.mk c r n w h d).r (Que.mk c r n w h d).n
  (List.drop (0 : Nat) (Que.mk c r n w h d).w) (Que.mk c r n w h d).h
  (Que.mk c r n w h d).d).hnd.fst.d.length],
  V.i IntKind.i64
  (Que.mk (Que.mk c r n w h d).c (Que.mk c r n w h d).r (Que.mk c r n w h d).n
  (List.drop (0 : Nat) (Que.mk c r n w h d).w) (Que.mk c r n w h d).h
  (Que.mk c r n w h d).d).hnd.snd,
  V.b true],
  [some (Blk.row false none (Cd.int IntKind.i64) (Que.mk c r n w h d).w),
  some
  (Blk.row false none (Cd.int IntKind.i64)
  (Que.mk (Que.mk c r n w h d).c (Que.mk c r n w h d).r (Que.mk c r n w h d).n
  (List.drop (0 : Nat) (Que.mk c r n w h d).w) (Que.mk c r n w h d).h
  (Que.mk c r n w h d).d).hnd.fst.h),
  some
  (Blk.row false none (Cd.int IntKind.i64)
  (Que.mk (Que.mk c r n w h d).c (Que.mk c r n w h d).r (Que.mk c r n w h d).n
  (List.drop (0 : Nat) (Que.mk c r n w h d).w) (Que.mk c r n w h d).h
  (Que.mk c r n w h d).d).hnd.fst.d)])))))) : _) := by kernel_rfl
  rw [e]
  clear e
  unfold Que.hndO Que.hndP Que.hndR
  cases hg : goodQ c r n w h d with
  | false =>
    rw [ifB_true (by rfl)]
    have hn : ¬ ((Que.mk c r n w h d).good = true ∧ (Que.mk c r n w h d).w.length ≠ 0) := fun hh => by have := hh.1; unfold Que.good at this; rw [hg] at this; cases this
    simp only [if_neg hn, nilT_eq]
    rfl
  | true =>
    rw [ifB_false (by rfl), ifT_true (decide_eq_true (goodQ_len hg))]
    simp only [List.drop_zero, Nat.zero_add, Que.offP_zero, Que.offR_self]
    rw [ifT_true (by first | (rw [hg]; simp; done) | simp)]
    by_cases q2 : (Que.mk c r n w h d).w.length ≠ 0
    rotate_left
    · rw [ifB_true (decide_eq_true (by simpa using q2))]
      have hn : ¬ ((Que.mk c r n w h d).good = true ∧ (Que.mk c r n w h d).w.length ≠ 0) := fun hh => q2 hh.2
      simp only [if_neg hn, nilT_eq]
      rfl
    · rw [ifB_false (decide_eq_false (by simpa using q2))]
      have hy : (Que.mk c r n w h d).good = true ∧ (Que.mk c r n w h d).w.length ≠ 0 := ⟨hg, q2⟩
      simp only [if_pos hy]
      try rw [Que.offR_self (Que.mk c r n w h d)]
      rfl
theorem moved : Contract Try.prog 121 (Ent.rd1 movedG).F := by
  refine fun_contractN' (KnowsL.cons (enters_fn Try.func37 (by kernel_rfl) (by kernel_rfl)) implGQ (KnowsL.cons (enters_fn Try.func156 (by kernel_rfl) (by kernel_rfl)) cloneQ (KnowsL.cons (enters_fn Try.func108 (by kernel_rfl) (by kernel_rfl)) qoffer (KnowsL.cons (enters_fn Try.func107 (by kernel_rfl) (by kernel_rfl)) qhand KnowsL.nil)))).knows (Λ := look []) Try.func121 (c := Try.f121.body.getD .skip) (by kernel_rfl) fun vs bs r' hq hv hb => ?_
  unfold Ent.F movedG at hq
  dsimp only at hq
  split at hq
  · rename_i c r n w h d
    exact ⟨loopsOk_nil _, (movedO_fun c r n w h d).trans hq⟩
  · rename_i c r n w h d
    exact ⟨loopsOk_nil _, (movedH_fun c r n w h d).trans hq⟩
  · cases hq
theorem specOffer_fun (c r n : Int) (w h d : List Int) : funN Try.prog (look [(51, .rd1 goodQG), (111, .rd1 ownQG), (110, .own l16OfferG)]) (look []) Try.f50 [.agg [.i .i64 c, .i .i64 r, .i .i64 n, .sl (.int .i64) w, .sl (.int .i64) h, .sl (.int .i64) d]] [] = (.leaf (.tup [.agg [.i .i64 (Que.mk c r n w h d).offO.1.c, .i .i64 (Que.mk c r n w h d).offO.1.r, .i .i64 (Que.mk c r n w h d).offO.1.n, .ref 0 0 (Que.mk c r n w h d).offO.1.w.length, .ref 1 0 (Que.mk c r n w h d).offO.1.h.length, .ref 2 0 (Que.mk c r n w h d).offO.1.d.length], .i .i64 (Que.mk c r n w h d).offO.2.1, .b (Que.mk c r n w h d).offO.2.2], [some (.row false none (.int .i64) (Que.mk c r n w h d).offO.1.w), some (.row false none (.int .i64) (Que.mk c r n w h d).offO.1.h), some (.row false none (.int .i64) (Que.mk c r n w h d).offO.1.d)]) : Br (V × List (Option Blk))).run := by
  have e : funN Try.prog (look [(51, .rd1 goodQG), (111, .rd1 ownQG), (110, .own l16OfferG)]) (look []) Try.f50 [.agg [.i .i64 c, .i .i64 r, .i .i64 n, .sl (.int .i64) w, .sl (.int .i64) h, .sl (.int .i64) d]] [] = ((ifB (!goodQ c r n w h d)
  (some
  (V.tup
  [V.agg
  [V.i IntKind.i64 (0 : Int), V.i IntKind.i64 (0 : Int), V.i IntKind.i64 (0 : Int),
  V.ref (0 : Nat) (0 : Nat) (0 : Nat), V.ref (1 : Nat) (0 : Nat) (0 : Nat),
  V.ref (2 : Nat) (0 : Nat) (0 : Nat)],
  V.i IntKind.i64 (0 : Int), V.b false],
  [some (Blk.row false none (Cd.int IntKind.i64) (nilT (Cd.int IntKind.i64).den)),
  some (Blk.row false none (Cd.int IntKind.i64) (nilT (Cd.int IntKind.i64).den)),
  some (Blk.row false none (Cd.int IntKind.i64) (nilT (Cd.int IntKind.i64).den))]))
  (ifT (decide (w.length ≤ (1000000000 : Nat) ∧ h.length ≤ (1000000000 : Nat) ∧ d.length ≤ (1000000000 : Nat)))
  (ifT
  (decide
  ((Que.mk c r n w h d).w.length = (Que.mk c r n w h d).w.length ∧
  (Que.mk c r n w h d).h.length = (Que.mk c r n w h d).h.length ∧
  (Que.mk c r n w h d).d.length = (Que.mk c r n w h d).d.length) &&
  goodQ (Que.mk c r n w h d).c (Que.mk c r n w h d).r (Que.mk c r n w h d).n (Que.mk c r n w h d).w
  (Que.mk c r n w h d).h (Que.mk c r n w h d).d)
  (ifB (decide ((Que.mk c r n w h d).n = (100 : Int)))
  (some
  (V.tup
  [V.agg
  [V.i IntKind.i64 (0 : Int), V.i IntKind.i64 (0 : Int), V.i IntKind.i64 (0 : Int),
  V.ref (0 : Nat) (0 : Nat) (0 : Nat), V.ref (1 : Nat) (0 : Nat) (0 : Nat),
  V.ref (2 : Nat) (0 : Nat) (0 : Nat)],
  V.i IntKind.i64 (0 : Int), V.b false],
  [some (Blk.row false none (Cd.int IntKind.i64) (nilT (Cd.int IntKind.i64).den)),
  some (Blk.row false none (Cd.int IntKind.i64) (nilT (Cd.int IntKind.i64).den)),
  some (Blk.row false none (Cd.int IntKind.i64) (nilT (Cd.int IntKind.i64).den))]))
  (some
  (V.tup
  [V.agg
  [V.i IntKind.i64 (Que.mk c r n w h d).off.fst.c, V.i IntKind.i64 (Que.mk c r n w h d).off.fst.r,
  V.i IntKind.i64 (Que.mk c r n w h d).off.fst.n,
  V.ref (0 : Nat) (0 : Nat) (Que.mk c r n w h d).off.fst.w.length,
  V.ref (1 : Nat) (0 : Nat) (Que.mk c r n w h d).off.fst.h.length,
  V.ref (2 : Nat) (0 : Nat) (Que.mk c r n w h d).off.fst.d.length],
  V.i IntKind.i64 (Que.mk c r n w h d).off.snd, V.b true],
  [some (Blk.row false none (Cd.int IntKind.i64) (Que.mk c r n w h d).off.fst.w),
  some (Blk.row false none (Cd.int IntKind.i64) (Que.mk c r n w h d).off.fst.h),
  some (Blk.row false none (Cd.int IntKind.i64) (Que.mk c r n w h d).off.fst.d)])))))) : _) := by kernel_rfl
  rw [e]
  clear e
  unfold Que.offO
  cases hg : goodQ c r n w h d with
  | false =>
    rw [ifB_true (by rfl)]
    have hn : ¬ ((Que.mk c r n w h d).good = true ∧ (Que.mk c r n w h d).n ≠ 100) := fun hh => by have := hh.1; unfold Que.good at this; rw [hg] at this; cases this
    simp only [if_neg hn, nilT_eq]
    rfl
  | true =>
    rw [ifB_false (by rfl), ifT_true (decide_eq_true (goodQ_len hg))]
    simp only [List.drop_zero, Nat.zero_add, Que.offP_zero, Que.offR_self]
    rw [ifT_true (by first | (rw [hg]; simp; done) | simp)]
    by_cases q2 : (Que.mk c r n w h d).n ≠ 100
    rotate_left
    · rw [ifB_true (decide_eq_true (by simpa using q2))]
      have hn : ¬ ((Que.mk c r n w h d).good = true ∧ (Que.mk c r n w h d).n ≠ 100) := fun hh => q2 hh.2
      simp only [if_neg hn, nilT_eq]
      rfl
    · rw [ifB_false (decide_eq_false (by simpa using q2))]
      have hy : (Que.mk c r n w h d).good = true ∧ (Que.mk c r n w h d).n ≠ 100 := ⟨hg, q2⟩
      simp only [if_pos hy]
      try rw [Que.offR_self (Que.mk c r n w h d)]
      rfl
theorem specOffer : Contract Try.prog 50 (Ent.rd1 offerG).F := by
  refine fun_contractN' (KnowsL.cons (enters_fn Try.func51 (by kernel_rfl) (by kernel_rfl)) specGQ (KnowsL.cons (enters_fn Try.func111 (by kernel_rfl) (by kernel_rfl)) ownQ (KnowsL.cons (enters_fn Try.func110 (by kernel_rfl) (by kernel_rfl)) l16Offer KnowsL.nil))).knows (Λ := look []) Try.func50 (c := Try.f50.body.getD .skip) (by kernel_rfl) fun vs bs r' hq hv hb => ?_
  unfold Ent.F offerG at hq
  dsimp only at hq
  split at hq
  · rename_i c r n w h d
    exact ⟨loopsOk_nil _, (specOffer_fun c r n w h d).trans hq⟩
  · cases hq
theorem specHand_fun (c r n : Int) (w h d : List Int) : funN Try.prog (look [(51, .rd1 goodQG), (111, .rd1 ownQG), (112, .own l16HandG)]) (look []) Try.f54 [.agg [.i .i64 c, .i .i64 r, .i .i64 n, .sl (.int .i64) w, .sl (.int .i64) h, .sl (.int .i64) d]] [] = (.leaf (.tup [.agg [.i .i64 (Que.mk c r n w h d).hndO.1.c, .i .i64 (Que.mk c r n w h d).hndO.1.r, .i .i64 (Que.mk c r n w h d).hndO.1.n, .ref 0 0 (Que.mk c r n w h d).hndO.1.w.length, .ref 1 0 (Que.mk c r n w h d).hndO.1.h.length, .ref 2 0 (Que.mk c r n w h d).hndO.1.d.length], .i .i64 (Que.mk c r n w h d).hndO.2.1, .b (Que.mk c r n w h d).hndO.2.2], [some (.row false none (.int .i64) (Que.mk c r n w h d).hndO.1.w), some (.row false none (.int .i64) (Que.mk c r n w h d).hndO.1.h), some (.row false none (.int .i64) (Que.mk c r n w h d).hndO.1.d)]) : Br (V × List (Option Blk))).run := by
  have e : funN Try.prog (look [(51, .rd1 goodQG), (111, .rd1 ownQG), (112, .own l16HandG)]) (look []) Try.f54 [.agg [.i .i64 c, .i .i64 r, .i .i64 n, .sl (.int .i64) w, .sl (.int .i64) h, .sl (.int .i64) d]] [] = ((ifB (!goodQ c r n w h d)
  (some
  (V.tup
  [V.agg
  [V.i IntKind.i64 (0 : Int), V.i IntKind.i64 (0 : Int), V.i IntKind.i64 (0 : Int),
  V.ref (0 : Nat) (0 : Nat) (0 : Nat), V.ref (1 : Nat) (0 : Nat) (0 : Nat),
  V.ref (2 : Nat) (0 : Nat) (0 : Nat)],
  V.i IntKind.i64 (0 : Int), V.b false],
  [some (Blk.row false none (Cd.int IntKind.i64) (nilT (Cd.int IntKind.i64).den)),
  some (Blk.row false none (Cd.int IntKind.i64) (nilT (Cd.int IntKind.i64).den)),
  some (Blk.row false none (Cd.int IntKind.i64) (nilT (Cd.int IntKind.i64).den))]))
  (ifT (decide (w.length ≤ (1000000000 : Nat) ∧ h.length ≤ (1000000000 : Nat) ∧ d.length ≤ (1000000000 : Nat)))
  (ifT
  (decide
  ((Que.mk c r n w h d).w.length = (Que.mk c r n w h d).w.length ∧
  (Que.mk c r n w h d).h.length = (Que.mk c r n w h d).h.length ∧
  (Que.mk c r n w h d).d.length = (Que.mk c r n w h d).d.length) &&
  goodQ (Que.mk c r n w h d).c (Que.mk c r n w h d).r (Que.mk c r n w h d).n (Que.mk c r n w h d).w
  (Que.mk c r n w h d).h (Que.mk c r n w h d).d)
  (ifB (decide ((Que.mk c r n w h d).w.length = (0 : Nat)))
  (some
  (V.tup
  [V.agg
  [V.i IntKind.i64 (0 : Int), V.i IntKind.i64 (0 : Int), V.i IntKind.i64 (0 : Int),
  V.ref (0 : Nat) (0 : Nat) (0 : Nat), V.ref (1 : Nat) (0 : Nat) (0 : Nat),
  V.ref (2 : Nat) (0 : Nat) (0 : Nat)],
  V.i IntKind.i64 (0 : Int), V.b false],
  [some (Blk.row false none (Cd.int IntKind.i64) (nilT (Cd.int IntKind.i64).den)),
  some (Blk.row false none (Cd.int IntKind.i64) (nilT (Cd.int IntKind.i64).den)),
  some (Blk.row false none (Cd.int IntKind.i64) (nilT (Cd.int IntKind.i64).den))]))
  (some
  (V.tup
  [V.agg
  [V.i IntKind.i64 (Que.mk c r n w h d).hnd.fst.c, V.i IntKind.i64 (Que.mk c r n w h d).hnd.fst.r,
  V.i IntKind.i64 (Que.mk c r n w h d).hnd.fst.n,
  V.ref (0 : Nat) (0 : Nat) (Que.mk c r n w h d).hnd.fst.w.length,
  V.ref (1 : Nat) (0 : Nat) (Que.mk c r n w h d).hnd.fst.h.length,
  V.ref (2 : Nat) (0 : Nat) (Que.mk c r n w h d).hnd.fst.d.length],
  V.i IntKind.i64 (Que.mk c r n w h d).hnd.snd, V.b true],
  [some (Blk.row false none (Cd.int IntKind.i64) (Que.mk c r n w h d).hnd.fst.w),
  some (Blk.row false none (Cd.int IntKind.i64) (Que.mk c r n w h d).hnd.fst.h),
  some (Blk.row false none (Cd.int IntKind.i64) (Que.mk c r n w h d).hnd.fst.d)])))))) : _) := by kernel_rfl
  rw [e]
  clear e
  unfold Que.hndO
  cases hg : goodQ c r n w h d with
  | false =>
    rw [ifB_true (by rfl)]
    have hn : ¬ ((Que.mk c r n w h d).good = true ∧ (Que.mk c r n w h d).w.length ≠ 0) := fun hh => by have := hh.1; unfold Que.good at this; rw [hg] at this; cases this
    simp only [if_neg hn, nilT_eq]
    rfl
  | true =>
    rw [ifB_false (by rfl), ifT_true (decide_eq_true (goodQ_len hg))]
    simp only [List.drop_zero, Nat.zero_add, Que.offP_zero, Que.offR_self]
    rw [ifT_true (by first | (rw [hg]; simp; done) | simp)]
    by_cases q2 : (Que.mk c r n w h d).w.length ≠ 0
    rotate_left
    · rw [ifB_true (decide_eq_true (by simpa using q2))]
      have hn : ¬ ((Que.mk c r n w h d).good = true ∧ (Que.mk c r n w h d).w.length ≠ 0) := fun hh => q2 hh.2
      simp only [if_neg hn, nilT_eq]
      rfl
    · rw [ifB_false (decide_eq_false (by simpa using q2))]
      have hy : (Que.mk c r n w h d).good = true ∧ (Que.mk c r n w h d).w.length ≠ 0 := ⟨hg, q2⟩
      simp only [if_pos hy]
      try rw [Que.offR_self (Que.mk c r n w h d)]
      rfl
theorem specHand : Contract Try.prog 54 (Ent.rd1 handG).F := by
  refine fun_contractN' (KnowsL.cons (enters_fn Try.func51 (by kernel_rfl) (by kernel_rfl)) specGQ (KnowsL.cons (enters_fn Try.func111 (by kernel_rfl) (by kernel_rfl)) ownQ (KnowsL.cons (enters_fn Try.func112 (by kernel_rfl) (by kernel_rfl)) l16Hand KnowsL.nil))).knows (Λ := look []) Try.func54 (c := Try.f54.body.getD .skip) (by kernel_rfl) fun vs bs r' hq hv hb => ?_
  unfold Ent.F handG at hq
  dsimp only at hq
  split at hq
  · rename_i c r n w h d
    exact ⟨loopsOk_nil _, (specHand_fun c r n w h d).trans hq⟩
  · cases hq
theorem implOffer_fun (c r n : Int) (w h d : List Int) : funN Try.prog (look [(121, .rd1 movedG)]) (look []) Try.f49 [.agg [.i .i64 c, .i .i64 r, .i .i64 n, .sl (.int .i64) w, .sl (.int .i64) h, .sl (.int .i64) d]] [] = (.leaf (.tup [.agg [.i .i64 (Que.mk c r n w h d).offO.1.c, .i .i64 (Que.mk c r n w h d).offO.1.r, .i .i64 (Que.mk c r n w h d).offO.1.n, .ref 0 0 (Que.mk c r n w h d).offO.1.w.length, .ref 1 0 (Que.mk c r n w h d).offO.1.h.length, .ref 2 0 (Que.mk c r n w h d).offO.1.d.length], .i .i64 (Que.mk c r n w h d).offO.2.1, .b (Que.mk c r n w h d).offO.2.2], [some (.row false none (.int .i64) (Que.mk c r n w h d).offO.1.w), some (.row false none (.int .i64) (Que.mk c r n w h d).offO.1.h), some (.row false none (.int .i64) (Que.mk c r n w h d).offO.1.d)]) : Br (V × List (Option Blk))).run := by
  have e : funN Try.prog (look [(121, .rd1 movedG)]) (look []) Try.f49 [.agg [.i .i64 c, .i .i64 r, .i .i64 n, .sl (.int .i64) w, .sl (.int .i64) h, .sl (.int .i64) d]] [] = ((some
  (V.tup
  [V.agg
  [V.i IntKind.i64 (Que.mk c r n w h d).offO.fst.c, V.i IntKind.i64 (Que.mk c r n w h d).offO.fst.r,
  V.i IntKind.i64 (Que.mk c r n w h d).offO.fst.n,
  V.ref (0 : Nat) (0 : Nat) (Que.mk c r n w h d).offO.fst.w.length,
  V.ref (1 : Nat) (0 : Nat) (Que.mk c r n w h d).offO.fst.h.length,
  V.ref (2 : Nat) (0 : Nat) (Que.mk c r n w h d).offO.fst.d.length],
  V.i IntKind.i64 (Que.mk c r n w h d).offO.snd.fst, V.b (Que.mk c r n w h d).offO.snd.snd],
  [some (Blk.row false none (Cd.int IntKind.i64) (Que.mk c r n w h d).offO.fst.w),
  some (Blk.row false none (Cd.int IntKind.i64) (Que.mk c r n w h d).offO.fst.h),
  some (Blk.row false none (Cd.int IntKind.i64) (Que.mk c r n w h d).offO.fst.d)])) : _) := by kernel_rfl
  rw [e]
  clear e
  rfl
theorem implOffer : Contract Try.prog 49 (Ent.rd1 offerG).F := by
  refine fun_contractN' (KnowsL.cons (enters_fn Try.func121 (by kernel_rfl) (by kernel_rfl)) moved KnowsL.nil).knows (Λ := look []) Try.func49 (c := Try.f49.body.getD .skip) (by kernel_rfl) fun vs bs r' hq hv hb => ?_
  unfold Ent.F offerG at hq
  dsimp only at hq
  split at hq
  · rename_i c r n w h d
    exact ⟨loopsOk_nil _, (implOffer_fun c r n w h d).trans hq⟩
  · cases hq
theorem implHand_fun (c r n : Int) (w h d : List Int) : funN Try.prog (look [(121, .rd1 movedG)]) (look []) Try.f53 [.agg [.i .i64 c, .i .i64 r, .i .i64 n, .sl (.int .i64) w, .sl (.int .i64) h, .sl (.int .i64) d]] [] = (.leaf (.tup [.agg [.i .i64 (Que.mk c r n w h d).hndO.1.c, .i .i64 (Que.mk c r n w h d).hndO.1.r, .i .i64 (Que.mk c r n w h d).hndO.1.n, .ref 0 (Que.mk c r n w h d).hndP (Que.mk c r n w h d).hndO.1.w.length, .ref 1 0 (Que.mk c r n w h d).hndO.1.h.length, .ref 2 0 (Que.mk c r n w h d).hndO.1.d.length], .i .i64 (Que.mk c r n w h d).hndO.2.1, .b (Que.mk c r n w h d).hndO.2.2], [some (.row false none (.int .i64) (Que.mk c r n w h d).hndR), some (.row false none (.int .i64) (Que.mk c r n w h d).hndO.1.h), some (.row false none (.int .i64) (Que.mk c r n w h d).hndO.1.d)]) : Br (V × List (Option Blk))).run := by
  have e : funN Try.prog (look [(121, .rd1 movedG)]) (look []) Try.f53 [.agg [.i .i64 c, .i .i64 r, .i .i64 n, .sl (.int .i64) w, .sl (.int .i64) h, .sl (.int .i64) d]] [] = ((some
  (V.tup
  [V.agg
  [V.i IntKind.i64 (Que.mk c r n w h d).hndO.fst.c, V.i IntKind.i64 (Que.mk c r n w h d).hndO.fst.r,
  V.i IntKind.i64 (Que.mk c r n w h d).hndO.fst.n,
  V.ref (0 : Nat) (Que.mk c r n w h d).hndP (Que.mk c r n w h d).hndO.fst.w.length,
  V.ref (1 : Nat) (0 : Nat) (Que.mk c r n w h d).hndO.fst.h.length,
  V.ref (2 : Nat) (0 : Nat) (Que.mk c r n w h d).hndO.fst.d.length],
  V.i IntKind.i64 (Que.mk c r n w h d).hndO.snd.fst, V.b (Que.mk c r n w h d).hndO.snd.snd],
  [some (Blk.row false none (Cd.int IntKind.i64) (Que.mk c r n w h d).hndR),
  some (Blk.row false none (Cd.int IntKind.i64) (Que.mk c r n w h d).hndO.fst.h),
  some (Blk.row false none (Cd.int IntKind.i64) (Que.mk c r n w h d).hndO.fst.d)])) : _) := by kernel_rfl
  rw [e]
  clear e
  rfl
theorem implHand : Contract Try.prog 53 (Ent.rd1 handIG).F := by
  refine fun_contractN' (KnowsL.cons (enters_fn Try.func121 (by kernel_rfl) (by kernel_rfl)) moved KnowsL.nil).knows (Λ := look []) Try.func53 (c := Try.f53.body.getD .skip) (by kernel_rfl) fun vs bs r' hq hv hb => ?_
  unfold Ent.F handIG at hq
  dsimp only at hq
  split at hq
  · rename_i c r n w h d
    exact ⟨loopsOk_nil _, (implHand_fun c r n w h d).trans hq⟩
  · cases hq
end Go.Proofs.Ytjghbihlgfjebaa.Den
