/- What functions of the program do, by the machine: Step4. -/
import Derived.Test.YtjghbihlgfjebaaDSess2
import Derived.KernelRfl
import Derived.Test.YtjghbihlgfjebaaRows
namespace Go.Proofs.Ytjghbihlgfjebaa.Den
open Go.Proofs
set_option maxRecDepth 100000
/-- Whether a good session does the step. -/
def stepB (s : Ses) (x0 x1 : Int) (x2 : List UInt8) : Bool := goodS s.e s.it s.b s.ha s.w s.a && s.ok x0 x1 x2
/-- What comes of it. -/
def stepO (s : Ses) (x0 x1 : Int) (x2 : List UInt8) : Ses := bif stepB s x0 x1 x2 then s.next x0 x1 x2 else ⟨0, [], 0, [], [], []⟩
def specStepG : List V → List Blk → Br (V × List (Option Blk))
  | [.agg [.i .i64 s0, .sl .str s1, .i .i64 s2, .sl .str s3, .sl (.pair (.int .i64) (.pair (.int .i64) (.pair .str .unit))) s4, .sl (.pair (.int .i64) (.pair (.int .i64) .unit)) s5], .agg [.i .i64 x0, .i .i64 x1, .s x2]], [] => .need (decide (s3.length ≤ lim)) (.leaf (.tup [.agg [.i .i64 (stepO (Ses.mk s0 s1 s2 s3 s4 s5) x0 x1 x2).e, .ref 0 0 (stepO (Ses.mk s0 s1 s2 s3 s4 s5) x0 x1 x2).it.length, .i .i64 (stepO (Ses.mk s0 s1 s2 s3 s4 s5) x0 x1 x2).b, .ref 1 0 (stepO (Ses.mk s0 s1 s2 s3 s4 s5) x0 x1 x2).ha.length, .ref 2 0 (stepO (Ses.mk s0 s1 s2 s3 s4 s5) x0 x1 x2).w.length, .ref 3 0 (stepO (Ses.mk s0 s1 s2 s3 s4 s5) x0 x1 x2).a.length], .b (stepB (Ses.mk s0 s1 s2 s3 s4 s5) x0 x1 x2)], [some (.row false none .str (stepO (Ses.mk s0 s1 s2 s3 s4 s5) x0 x1 x2).it), some (.row false none .str (stepO (Ses.mk s0 s1 s2 s3 s4 s5) x0 x1 x2).ha), some (.row false none (.pair (.int .i64) (.pair (.int .i64) (.pair .str .unit))) (stepO (Ses.mk s0 s1 s2 s3 s4 s5) x0 x1 x2).w), some (.row false none (.pair (.int .i64) (.pair (.int .i64) .unit)) (stepO (Ses.mk s0 s1 s2 s3 s4 s5) x0 x1 x2).a)]))
  | _, _ => .no
def implStepG : List V → List Blk → Br (V × List (Option Blk))
  | [.agg [.i .i64 s0, .sl .str s1, .i .i64 s2, .sl .str s3, .sl (.pair (.int .i64) (.pair (.int .i64) (.pair .str .unit))) s4, .sl (.pair (.int .i64) (.pair (.int .i64) .unit)) s5], .agg [.i .i64 x0, .i .i64 x1, .s x2]], [] => .need (decide (s3.length ≤ lim)) (.leaf (.tup [.agg [.i .i64 (stepO (Ses.mk s0 s1 s2 s3 s4 s5) x0 x1 x2).e, .ref 0 0 (stepO (Ses.mk s0 s1 s2 s3 s4 s5) x0 x1 x2).it.length, .i .i64 (stepO (Ses.mk s0 s1 s2 s3 s4 s5) x0 x1 x2).b, .ref 1 0 (stepO (Ses.mk s0 s1 s2 s3 s4 s5) x0 x1 x2).ha.length, .ref 2 0 (stepO (Ses.mk s0 s1 s2 s3 s4 s5) x0 x1 x2).w.length, .ref 3 0 (stepO (Ses.mk s0 s1 s2 s3 s4 s5) x0 x1 x2).a.length], .b (stepB (Ses.mk s0 s1 s2 s3 s4 s5) x0 x1 x2)], [some (.row false none .str (stepO (Ses.mk s0 s1 s2 s3 s4 s5) x0 x1 x2).it), some (.row false none .str (stepO (Ses.mk s0 s1 s2 s3 s4 s5) x0 x1 x2).ha), some (.row false none (.pair (.int .i64) (.pair (.int .i64) (.pair .str .unit))) (stepO (Ses.mk s0 s1 s2 s3 s4 s5) x0 x1 x2).w), some (.row false none (.pair (.int .i64) (.pair (.int .i64) .unit)) (stepO (Ses.mk s0 s1 s2 s3 s4 s5) x0 x1 x2).a)]))
  | _, _ => .no
theorem next_len (s : Ses) (x0 x1 : Int) (x2 : List UInt8) : (s.next x0 x1 x2).it.length ≤ s.it.length + 1 ∧ (s.next x0 x1 x2).ha.length ≤ s.ha.length + 1 ∧ (s.next x0 x1 x2).w.length ≤ s.w.length + 1 ∧ (s.next x0 x1 x2).a.length ≤ s.a.length + 1 := by
  have er : ∀ {α : Type} (l : List α) (i : Nat), (l.eraseIdx i).length ≤ l.length + 1 := fun l i => by rw [List.length_eraseIdx]; split <;> omega
  unfold Ses.next Ses.come
  have e4 := er s.w x1.toNat
  have e5 := er s.a x1.toNat
  repeat' split
  all_goals simp
  all_goals omega
theorem specStep_fun (s0 : Int) (s1 : List (List UInt8)) (s2 : Int) (s3 : List (List UInt8)) (s4 : List (Int × Int × List UInt8 × Unit)) (s5 : List (Int × Int × Unit)) (x0 x1 : Int) (x2 : List UInt8) (h3 : s3.length ≤ lim) : funN Try.prog (look [(43, .rd1 specGoodG), (63, .rd1 l15OwnG), (64, .own l15StepCG)]) (look []) Try.f42 [.agg [.i .i64 s0, .sl .str s1, .i .i64 s2, .sl .str s3, .sl (.pair (.int .i64) (.pair (.int .i64) (.pair .str .unit))) s4, .sl (.pair (.int .i64) (.pair (.int .i64) .unit)) s5], .agg [.i .i64 x0, .i .i64 x1, .s x2]] [] = (.leaf (.tup [.agg [.i .i64 (stepO (Ses.mk s0 s1 s2 s3 s4 s5) x0 x1 x2).e, .ref 0 0 (stepO (Ses.mk s0 s1 s2 s3 s4 s5) x0 x1 x2).it.length, .i .i64 (stepO (Ses.mk s0 s1 s2 s3 s4 s5) x0 x1 x2).b, .ref 1 0 (stepO (Ses.mk s0 s1 s2 s3 s4 s5) x0 x1 x2).ha.length, .ref 2 0 (stepO (Ses.mk s0 s1 s2 s3 s4 s5) x0 x1 x2).w.length, .ref 3 0 (stepO (Ses.mk s0 s1 s2 s3 s4 s5) x0 x1 x2).a.length], .b (stepB (Ses.mk s0 s1 s2 s3 s4 s5) x0 x1 x2)], [some (.row false none .str (stepO (Ses.mk s0 s1 s2 s3 s4 s5) x0 x1 x2).it), some (.row false none .str (stepO (Ses.mk s0 s1 s2 s3 s4 s5) x0 x1 x2).ha), some (.row false none (.pair (.int .i64) (.pair (.int .i64) (.pair .str .unit))) (stepO (Ses.mk s0 s1 s2 s3 s4 s5) x0 x1 x2).w), some (.row false none (.pair (.int .i64) (.pair (.int .i64) .unit)) (stepO (Ses.mk s0 s1 s2 s3 s4 s5) x0 x1 x2).a)]) : Br (V × List (Option Blk))).run := by
  have e : funN Try.prog (look [(43, .rd1 specGoodG), (63, .rd1 l15OwnG), (64, .own l15StepCG)]) (look []) Try.f42 [.agg [.i .i64 s0, .sl .str s1, .i .i64 s2, .sl .str s3, .sl (.pair (.int .i64) (.pair (.int .i64) (.pair .str .unit))) s4, .sl (.pair (.int .i64) (.pair (.int .i64) .unit)) s5], .agg [.i .i64 x0, .i .i64 x1, .s x2]] [] =
    ((ifT (decide ((↑s3.length : Int) ≤ lim))
  (ifB (!goodS s0 s1 s2 s3 s4 s5)
  (some
  (V.tup
  [V.agg
  [V.i IntKind.i64 (0 : Int), V.ref (0 : Nat) (0 : Nat) (0 : Nat), V.i IntKind.i64 (0 : Int),
  V.ref (1 : Nat) (0 : Nat) (0 : Nat), V.ref (2 : Nat) (0 : Nat) (0 : Nat),
  V.ref (3 : Nat) (0 : Nat) (0 : Nat)],
  V.b false],
  [some (Blk.row false none Cd.str (nilT Cd.str.den)), some (Blk.row false none Cd.str (nilT Cd.str.den)),
  some
  (Blk.row false none ((Cd.int IntKind.i64).pair ((Cd.int IntKind.i64).pair (Cd.str.pair Cd.unit)))
  (nilT ((Cd.int IntKind.i64).pair ((Cd.int IntKind.i64).pair (Cd.str.pair Cd.unit))).den)),
  some
  (Blk.row false none ((Cd.int IntKind.i64).pair ((Cd.int IntKind.i64).pair Cd.unit))
  (nilT ((Cd.int IntKind.i64).pair ((Cd.int IntKind.i64).pair Cd.unit)).den))]))
  (ifT
  (decide (((0 : Nat) + s1.length) * (16 : Nat) ≤ (140737488355328 : Nat)) && decide ((0 : Nat) + s1.length ≤ maxI))
  (ifT
  (decide (((0 : Nat) + s3.length) * (16 : Nat) ≤ (140737488355328 : Nat)) &&
  decide ((0 : Nat) + s3.length ≤ maxI))
  (ifT
  (decide (((0 : Nat) + s4.length) * (32 : Nat) ≤ (140737488355328 : Nat)) &&
  decide ((0 : Nat) + s4.length ≤ maxI))
  (ifT
  (decide (((0 : Nat) + s5.length) * (16 : Nat) ≤ (140737488355328 : Nat)) &&
  decide ((0 : Nat) + s5.length ≤ maxI))
  (ifT
  (decide
  ((0 : Nat) + s1.length = (nilT Cd.str.den ++ s1).length ∧
  (0 : Nat) + s3.length = (nilT Cd.str.den ++ s3).length ∧
  (0 : Nat) + s4.length =
  (nilT ((Cd.int IntKind.i64).pair ((Cd.int IntKind.i64).pair (Cd.str.pair Cd.unit))).den ++
  s4).length ∧
  (0 : Nat) + s5.length =
  (nilT ((Cd.int IntKind.i64).pair ((Cd.int IntKind.i64).pair Cd.unit)).den ++ s5).length ∧
  ((0 : Int) ≤ s2 ∧ s2 ≤ (1000000000 : Int)) ∧
  ((0 : Int) ≤ s0 ∧ s0 ≤ (1000000000 : Int)) ∧
  (nilT Cd.str.den ++ s1).length ≤ (1000000000 : Nat) ∧
  (nilT Cd.str.den ++ s3).length ≤ (1000000000 : Nat) ∧
  (nilT
  ((Cd.int IntKind.i64).pair
  ((Cd.int IntKind.i64).pair (Cd.str.pair Cd.unit))).den ++
  s4).length ≤
  (1000000000 : Nat) ∧
  (nilT ((Cd.int IntKind.i64).pair ((Cd.int IntKind.i64).pair Cd.unit)).den ++
  s5).length ≤
  (1000000000 : Nat)))
  (ifB
  ((Ses.mk s0 (nilT Cd.str.den ++ s1) s2 (nilT Cd.str.den ++ s3)
  (nilT ((Cd.int IntKind.i64).pair ((Cd.int IntKind.i64).pair (Cd.str.pair Cd.unit))).den ++ s4)
  (nilT ((Cd.int IntKind.i64).pair ((Cd.int IntKind.i64).pair Cd.unit)).den ++ s5)).ok
  x0 x1 x2)
  (ifT
  (decide
  (((0 : Nat) +
  (List.take
  ((Ses.mk s0 (nilT Cd.str.den ++ s1) s2 (nilT Cd.str.den ++ s3)
  (nilT
  ((Cd.int IntKind.i64).pair
  ((Cd.int IntKind.i64).pair (Cd.str.pair Cd.unit))).den ++
  s4)
  (nilT ((Cd.int IntKind.i64).pair ((Cd.int IntKind.i64).pair Cd.unit)).den ++
  s5)).next
  x0 x1 x2).it.length
  (List.drop (0 : Nat)
  ((Ses.mk s0 (nilT Cd.str.den ++ s1) s2 (nilT Cd.str.den ++ s3)
  (nilT
  ((Cd.int IntKind.i64).pair
  ((Cd.int IntKind.i64).pair (Cd.str.pair Cd.unit))).den ++
  s4)
  (nilT ((Cd.int IntKind.i64).pair ((Cd.int IntKind.i64).pair Cd.unit)).den ++
  s5)).next
  x0 x1 x2).it)).length) *
  (16 : Nat) ≤
  (140737488355328 : Nat)) &&
  decide
  ((0 : Nat) +
  (List.take
  ((Ses.mk s0 (nilT Cd.str.den ++ s1) s2 (nilT Cd.str.den ++ s3)
  (nilT
  ((Cd.int IntKind.i64).pair
  ((Cd.int IntKind.i64).pair (Cd.str.pair Cd.unit))).den ++
  s4)
  (nilT ((Cd.int IntKind.i64).pair ((Cd.int IntKind.i64).pair Cd.unit)).den ++
  s5)).next
  x0 x1 x2).it.length
  (List.drop (0 : Nat)
  ((Ses.mk s0 (nilT Cd.str.den ++ s1) s2 (nilT Cd.str.den ++ s3)
  (nilT
  ((Cd.int IntKind.i64).pair
  ((Cd.int IntKind.i64).pair (Cd.str.pair Cd.unit))).den ++
  s4)
  (nilT ((Cd.int IntKind.i64).pair ((Cd.int IntKind.i64).pair Cd.unit)).den ++
  s5)).next
  x0 x1 x2).it)).length ≤
  maxI))
  (ifT
  (decide
  (((0 : Nat) +
  (List.take
  ((Ses.mk s0 (nilT Cd.str.den ++ s1) s2 (nilT Cd.str.den ++ s3)
  (nilT
  ((Cd.int IntKind.i64).pair
  ((Cd.int IntKind.i64).pair (Cd.str.pair Cd.unit))).den ++
  s4)
  (nilT ((Cd.int IntKind.i64).pair ((Cd.int IntKind.i64).pair Cd.unit)).den ++
  s5)).next
  x0 x1 x2).ha.length
  (List.drop (0 : Nat)
  ((Ses.mk s0 (nilT Cd.str.den ++ s1) s2 (nilT Cd.str.den ++ s3)
  (nilT
  ((Cd.int IntKind.i64).pair
  ((Cd.int IntKind.i64).pair (Cd.str.pair Cd.unit))).den ++
  s4)
  (nilT ((Cd.int IntKind.i64).pair ((Cd.int IntKind.i64).pair Cd.unit)).den ++
  s5)).next
  x0 x1 x2).ha)).length) *
  (16 : Nat) ≤
  (140737488355328 : Nat)) &&
  decide
  ((0 : Nat) +
  (List.take
  ((Ses.mk s0 (nilT Cd.str.den ++ s1) s2 (nilT Cd.str.den ++ s3)
  (nilT
  ((Cd.int IntKind.i64).pair
  ((Cd.int IntKind.i64).pair (Cd.str.pair Cd.unit))).den ++
  s4)
  (nilT ((Cd.int IntKind.i64).pair ((Cd.int IntKind.i64).pair Cd.unit)).den ++
  s5)).next
  x0 x1 x2).ha.length
  (List.drop (0 : Nat)
  ((Ses.mk s0 (nilT Cd.str.den ++ s1) s2 (nilT Cd.str.den ++ s3)
  (nilT
  ((Cd.int IntKind.i64).pair
  ((Cd.int IntKind.i64).pair (Cd.str.pair Cd.unit))).den ++
  s4)
  (nilT ((Cd.int IntKind.i64).pair ((Cd.int IntKind.i64).pair Cd.unit)).den ++
  s5)).next
  x0 x1 x2).ha)).length ≤
  maxI))
  (ifT
  (decide
  (((0 : Nat) +
  (List.take
  ((Ses.mk s0 (nilT Cd.str.den ++ s1) s2 (nilT Cd.str.den ++ s3)
  (nilT
  ((Cd.int IntKind.i64).pair
  ((Cd.int IntKind.i64).pair (Cd.str.pair Cd.unit))).den ++
  s4)
  (nilT
  ((Cd.int IntKind.i64).pair ((Cd.int IntKind.i64).pair Cd.unit)).den ++
  s5)).next
  x0 x1 x2).w.length
  (List.drop (0 : Nat)
  ((Ses.mk s0 (nilT Cd.str.den ++ s1) s2 (nilT Cd.str.den ++ s3)
  (nilT
  ((Cd.int IntKind.i64).pair
  ((Cd.int IntKind.i64).pair (Cd.str.pair Cd.unit))).den ++
  s4)
  (nilT
  ((Cd.int IntKind.i64).pair ((Cd.int IntKind.i64).pair Cd.unit)).den ++
  s5)).next
  x0 x1 x2).w)).length) *
  (32 : Nat) ≤
  (140737488355328 : Nat)) &&
  decide
  ((0 : Nat) +
  (List.take
  ((Ses.mk s0 (nilT Cd.str.den ++ s1) s2 (nilT Cd.str.den ++ s3)
  (nilT
  ((Cd.int IntKind.i64).pair
  ((Cd.int IntKind.i64).pair (Cd.str.pair Cd.unit))).den ++
  s4)
  (nilT ((Cd.int IntKind.i64).pair ((Cd.int IntKind.i64).pair Cd.unit)).den ++
  s5)).next
  x0 x1 x2).w.length
  (List.drop (0 : Nat)
  ((Ses.mk s0 (nilT Cd.str.den ++ s1) s2 (nilT Cd.str.den ++ s3)
  (nilT
  ((Cd.int IntKind.i64).pair
  ((Cd.int IntKind.i64).pair (Cd.str.pair Cd.unit))).den ++
  s4)
  (nilT ((Cd.int IntKind.i64).pair ((Cd.int IntKind.i64).pair Cd.unit)).den ++
  s5)).next
  x0 x1 x2).w)).length ≤
  maxI))
  (ifT
  (decide
  (((0 : Nat) +
  (List.take
  ((Ses.mk s0 (nilT Cd.str.den ++ s1) s2 (nilT Cd.str.den ++ s3)
  (nilT
  ((Cd.int IntKind.i64).pair
  ((Cd.int IntKind.i64).pair (Cd.str.pair Cd.unit))).den ++
  s4)
  (nilT
  ((Cd.int IntKind.i64).pair
  ((Cd.int IntKind.i64).pair Cd.unit)).den ++
  s5)).next
  x0 x1 x2).a.length
  (List.drop (0 : Nat)
  ((Ses.mk s0 (nilT Cd.str.den ++ s1) s2 (nilT Cd.str.den ++ s3)
  (nilT
  ((Cd.int IntKind.i64).pair
  ((Cd.int IntKind.i64).pair (Cd.str.pair Cd.unit))).den ++
  s4)
  (nilT
  ((Cd.int IntKind.i64).pair
  ((Cd.int IntKind.i64).pair Cd.unit)).den ++
  s5)).next
  x0 x1 x2).a)).length) *
  (16 : Nat) ≤
  (140737488355328 : Nat)) &&
  decide
  ((0 : Nat) +
  (List.take
  ((Ses.mk s0 (nilT Cd.str.den ++ s1) s2 (nilT Cd.str.den ++ s3)
  (nilT
  ((Cd.int IntKind.i64).pair
  ((Cd.int IntKind.i64).pair (Cd.str.pair Cd.unit))).den ++
  s4)
  (nilT
  ((Cd.int IntKind.i64).pair ((Cd.int IntKind.i64).pair Cd.unit)).den ++
  s5)).next
  x0 x1 x2).a.length
  (List.drop (0 : Nat)
  ((Ses.mk s0 (nilT Cd.str.den ++ s1) s2 (nilT Cd.str.den ++ s3)
  (nilT
  ((Cd.int IntKind.i64).pair
  ((Cd.int IntKind.i64).pair (Cd.str.pair Cd.unit))).den ++
  s4)
  (nilT
  ((Cd.int IntKind.i64).pair ((Cd.int IntKind.i64).pair Cd.unit)).den ++
  s5)).next
  x0 x1 x2).a)).length ≤
  maxI))
  (some
  (V.tup
  [V.agg
  [V.i IntKind.i64
  ((Ses.mk s0 (nilT Cd.str.den ++ s1) s2 (nilT Cd.str.den ++ s3)
  (nilT
  ((Cd.int IntKind.i64).pair
  ((Cd.int IntKind.i64).pair (Cd.str.pair Cd.unit))).den ++
  s4)
  (nilT
  ((Cd.int IntKind.i64).pair ((Cd.int IntKind.i64).pair Cd.unit)).den ++
  s5)).next
  x0 x1 x2).e,
  V.ref (0 : Nat) (0 : Nat)
  ((0 : Nat) +
  (List.take
  ((Ses.mk s0 (nilT Cd.str.den ++ s1) s2 (nilT Cd.str.den ++ s3)
  (nilT
  ((Cd.int IntKind.i64).pair
  ((Cd.int IntKind.i64).pair (Cd.str.pair Cd.unit))).den ++
  s4)
  (nilT
  ((Cd.int IntKind.i64).pair
  ((Cd.int IntKind.i64).pair Cd.unit)).den ++
  s5)).next
  x0 x1 x2).it.length
  (List.drop (0 : Nat)
  ((Ses.mk s0 (nilT Cd.str.den ++ s1) s2 (nilT Cd.str.den ++ s3)
  (nilT
  ((Cd.int IntKind.i64).pair
  ((Cd.int IntKind.i64).pair (Cd.str.pair Cd.unit))).den ++
  s4)
  (nilT
  ((Cd.int IntKind.i64).pair
  ((Cd.int IntKind.i64).pair Cd.unit)).den ++
  s5)).next
  x0 x1 x2).it)).length),
  V.i IntKind.i64
  ((Ses.mk s0 (nilT Cd.str.den ++ s1) s2 (nilT Cd.str.den ++ s3)
  (nilT
  ((Cd.int IntKind.i64).pair
  ((Cd.int IntKind.i64).pair (Cd.str.pair Cd.unit))).den ++
  s4)
  (nilT
  ((Cd.int IntKind.i64).pair ((Cd.int IntKind.i64).pair Cd.unit)).den ++
  s5)).next
  x0 x1 x2).b,
  V.ref (1 : Nat) (0 : Nat)
  ((0 : Nat) +
  (List.take
  ((Ses.mk s0 (nilT Cd.str.den ++ s1) s2 (nilT Cd.str.den ++ s3)
  (nilT
  ((Cd.int IntKind.i64).pair
  ((Cd.int IntKind.i64).pair (Cd.str.pair Cd.unit))).den ++
  s4)
  (nilT
  ((Cd.int IntKind.i64).pair
  ((Cd.int IntKind.i64).pair Cd.unit)).den ++
  s5)).next
  x0 x1 x2).ha.length
  (List.drop (0 : Nat)
  ((Ses.mk s0 (nilT Cd.str.den ++ s1) s2 (nilT Cd.str.den ++ s3)
  (nilT
  ((Cd.int IntKind.i64).pair
  ((Cd.int IntKind.i64).pair (Cd.str.pair Cd.unit))).den ++
  s4)
  (nilT
  ((Cd.int IntKind.i64).pair
  ((Cd.int IntKind.i64).pair Cd.unit)).den ++
  s5)).next
  x0 x1 x2).ha)).length),
  V.ref (2 : Nat) (0 : Nat)
  ((0 : Nat) +
  (List.take
  ((Ses.mk s0 (nilT Cd.str.den ++ s1) s2 (nilT Cd.str.den ++ s3)
  (nilT
  ((Cd.int IntKind.i64).pair
  ((Cd.int IntKind.i64).pair (Cd.str.pair Cd.unit))).den ++
  s4)
  (nilT
  ((Cd.int IntKind.i64).pair
  ((Cd.int IntKind.i64).pair Cd.unit)).den ++
  s5)).next
  x0 x1 x2).w.length
  (List.drop (0 : Nat)
  ((Ses.mk s0 (nilT Cd.str.den ++ s1) s2 (nilT Cd.str.den ++ s3)
  (nilT
  ((Cd.int IntKind.i64).pair
  ((Cd.int IntKind.i64).pair (Cd.str.pair Cd.unit))).den ++
  s4)
  (nilT
  ((Cd.int IntKind.i64).pair
  ((Cd.int IntKind.i64).pair Cd.unit)).den ++
  s5)).next
  x0 x1 x2).w)).length),
  V.ref (3 : Nat) (0 : Nat)
  ((0 : Nat) +
  (List.take
  ((Ses.mk s0 (nilT Cd.str.den ++ s1) s2 (nilT Cd.str.den ++ s3)
  (nilT
  ((Cd.int IntKind.i64).pair
  ((Cd.int IntKind.i64).pair (Cd.str.pair Cd.unit))).den ++
  s4)
  (nilT
  ((Cd.int IntKind.i64).pair
  ((Cd.int IntKind.i64).pair Cd.unit)).den ++
  s5)).next
  x0 x1 x2).a.length
  (List.drop (0 : Nat)
  ((Ses.mk s0 (nilT Cd.str.den ++ s1) s2 (nilT Cd.str.den ++ s3)
  (nilT
  ((Cd.int IntKind.i64).pair
  ((Cd.int IntKind.i64).pair (Cd.str.pair Cd.unit))).den ++
  s4)
  (nilT
  ((Cd.int IntKind.i64).pair
  ((Cd.int IntKind.i64).pair Cd.unit)).den ++
  s5)).next
  x0 x1 x2).a)).length)],
  V.b true],
  [some
  (Blk.row false none Cd.str
  (nilT Cd.str.den ++
  List.take
  ((Ses.mk s0 (nilT Cd.str.den ++ s1) s2 (nilT Cd.str.den ++ s3)
  (nilT
  ((Cd.int IntKind.i64).pair
  ((Cd.int IntKind.i64).pair (Cd.str.pair Cd.unit))).den ++
  s4)
  (nilT
  ((Cd.int IntKind.i64).pair
  ((Cd.int IntKind.i64).pair Cd.unit)).den ++
  s5)).next
  x0 x1 x2).it.length
  (List.drop (0 : Nat)
  ((Ses.mk s0 (nilT Cd.str.den ++ s1) s2 (nilT Cd.str.den ++ s3)
  (nilT
  ((Cd.int IntKind.i64).pair
  ((Cd.int IntKind.i64).pair (Cd.str.pair Cd.unit))).den ++
  s4)
  (nilT
  ((Cd.int IntKind.i64).pair
  ((Cd.int IntKind.i64).pair Cd.unit)).den ++
  s5)).next
  x0 x1 x2).it))),
  some
  (Blk.row false none Cd.str
  (nilT Cd.str.den ++
  List.take
  ((Ses.mk s0 (nilT Cd.str.den ++ s1) s2 (nilT Cd.str.den ++ s3)
  (nilT
  ((Cd.int IntKind.i64).pair
  ((Cd.int IntKind.i64).pair (Cd.str.pair Cd.unit))).den ++
  s4)
  (nilT
  ((Cd.int IntKind.i64).pair
  ((Cd.int IntKind.i64).pair Cd.unit)).den ++
  s5)).next
  x0 x1 x2).ha.length
  (List.drop (0 : Nat)
  ((Ses.mk s0 (nilT Cd.str.den ++ s1) s2 (nilT Cd.str.den ++ s3)
  (nilT
  ((Cd.int IntKind.i64).pair
  ((Cd.int IntKind.i64).pair (Cd.str.pair Cd.unit))).den ++
  s4)
  (nilT
  ((Cd.int IntKind.i64).pair
  ((Cd.int IntKind.i64).pair Cd.unit)).den ++
  s5)).next
  x0 x1 x2).ha))),
  some
  (Blk.row false none
  ((Cd.int IntKind.i64).pair ((Cd.int IntKind.i64).pair (Cd.str.pair Cd.unit)))
  (nilT
  ((Cd.int IntKind.i64).pair
  ((Cd.int IntKind.i64).pair (Cd.str.pair Cd.unit))).den ++
  List.take
  ((Ses.mk s0 (nilT Cd.str.den ++ s1) s2 (nilT Cd.str.den ++ s3)
  (nilT
  ((Cd.int IntKind.i64).pair
  ((Cd.int IntKind.i64).pair (Cd.str.pair Cd.unit))).den ++
  s4)
  (nilT
  ((Cd.int IntKind.i64).pair
  ((Cd.int IntKind.i64).pair Cd.unit)).den ++
  s5)).next
  x0 x1 x2).w.length
  (List.drop (0 : Nat)
  ((Ses.mk s0 (nilT Cd.str.den ++ s1) s2 (nilT Cd.str.den ++ s3)
  (nilT
  ((Cd.int IntKind.i64).pair
  ((Cd.int IntKind.i64).pair (Cd.str.pair Cd.unit))).den ++
  s4)
  (nilT
  ((Cd.int IntKind.i64).pair
  ((Cd.int IntKind.i64).pair Cd.unit)).den ++
  s5)).next
  x0 x1 x2).w))),
  some
  (Blk.row false none ((Cd.int IntKind.i64).pair ((Cd.int IntKind.i64).pair Cd.unit))
  (nilT ((Cd.int IntKind.i64).pair ((Cd.int IntKind.i64).pair Cd.unit)).den ++
  List.take
  ((Ses.mk s0 (nilT Cd.str.den ++ s1) s2 (nilT Cd.str.den ++ s3)
  (nilT
  ((Cd.int IntKind.i64).pair
  ((Cd.int IntKind.i64).pair (Cd.str.pair Cd.unit))).den ++
  s4)
  (nilT
  ((Cd.int IntKind.i64).pair
  ((Cd.int IntKind.i64).pair Cd.unit)).den ++
  s5)).next
  x0 x1 x2).a.length
  (List.drop (0 : Nat)
  ((Ses.mk s0 (nilT Cd.str.den ++ s1) s2 (nilT Cd.str.den ++ s3)
  (nilT
  ((Cd.int IntKind.i64).pair
  ((Cd.int IntKind.i64).pair (Cd.str.pair Cd.unit))).den ++
  s4)
  (nilT
  ((Cd.int IntKind.i64).pair
  ((Cd.int IntKind.i64).pair Cd.unit)).den ++
  s5)).next
  x0 x1 x2).a)))]))))))
  (some
  (V.tup
  [V.agg
  [V.i IntKind.i64 (0 : Int), V.ref (0 : Nat) (0 : Nat) (0 : Nat), V.i IntKind.i64 (0 : Int),
  V.ref (1 : Nat) (0 : Nat) (0 : Nat), V.ref (2 : Nat) (0 : Nat) (0 : Nat),
  V.ref (3 : Nat) (0 : Nat) (0 : Nat)],
  V.b false],
  [some (Blk.row false none Cd.str (nilT Cd.str.den)),
  some (Blk.row false none Cd.str (nilT Cd.str.den)),
  some
  (Blk.row false none
  ((Cd.int IntKind.i64).pair ((Cd.int IntKind.i64).pair (Cd.str.pair Cd.unit)))
  (nilT ((Cd.int IntKind.i64).pair ((Cd.int IntKind.i64).pair (Cd.str.pair Cd.unit))).den)),
  some
  (Blk.row false none ((Cd.int IntKind.i64).pair ((Cd.int IntKind.i64).pair Cd.unit))
  (nilT ((Cd.int IntKind.i64).pair ((Cd.int IntKind.i64).pair Cd.unit)).den))])))))))))) : _) := by kernel_rfl
  rw [e]
  cases q : goodS s0 s1 s2 s3 s4 s5 with
  | false =>
    have eB : stepB (Ses.mk s0 s1 s2 s3 s4 s5) x0 x1 x2 = false := by unfold stepB; rw [q]; rfl
    have eO : stepO (Ses.mk s0 s1 s2 s3 s4 s5) x0 x1 x2 = ⟨0, [], 0, [], [], []⟩ := by unfold stepO; rw [eB]; rfl
    rw [eB, eO]
    simp [h3]; rfl
  | true =>
    obtain ⟨he, h1, -, h2, -, hb, h4, h5, -⟩ := good_len q
    obtain ⟨n1, n3, n4, n5⟩ := next_len (Ses.mk s0 s1 s2 s3 s4 s5) x0 x1 x2
    dsimp only at n1 n3 n4 n5
    have hM : maxI = 9223372036854775807 := rfl
    simp only [ifB_not, ifB_t, ifB_f, nilT_eq, List.drop_zero, List.take_zero, List.take_nil, List.nil_append, Nat.zero_add, List.take_length, h3, decide_true, ifT_t]
    rw [ifT_true (by simp only [Bool.and_eq_true, decide_eq_true_eq]; omega)]
    rw [ifT_true (by simp only [Bool.and_eq_true, decide_eq_true_eq]; omega)]
    rw [ifT_true (by simp only [Bool.and_eq_true, decide_eq_true_eq]; omega)]
    rw [ifT_true (by simp only [Bool.and_eq_true, decide_eq_true_eq]; omega)]
    rw [ifT_true (by simp only [true_and, decide_eq_true_eq]; omega)]
    cases hk : (Ses.mk s0 s1 s2 s3 s4 s5).ok x0 x1 x2 with
    | false =>
      have eB : stepB (Ses.mk s0 s1 s2 s3 s4 s5) x0 x1 x2 = false := by unfold stepB; rw [q, hk]; rfl
      have eO : stepO (Ses.mk s0 s1 s2 s3 s4 s5) x0 x1 x2 = ⟨0, [], 0, [], [], []⟩ := by unfold stepO; rw [eB]; rfl
      rw [eB, eO]
      rfl
    | true =>
      have eB : stepB (Ses.mk s0 s1 s2 s3 s4 s5) x0 x1 x2 = true := by unfold stepB; rw [q, hk]; rfl
      have eO : stepO (Ses.mk s0 s1 s2 s3 s4 s5) x0 x1 x2 = (Ses.mk s0 s1 s2 s3 s4 s5).next x0 x1 x2 := by unfold stepO; rw [eB]; rfl
      rw [eB, eO]
      rw [ifB_t]
      rw [ifT_true (by simp only [Bool.and_eq_true, decide_eq_true_eq]; omega)]
      rw [ifT_true (by simp only [Bool.and_eq_true, decide_eq_true_eq]; omega)]
      rw [ifT_true (by simp only [Bool.and_eq_true, decide_eq_true_eq]; omega)]
      rw [ifT_true (by simp only [Bool.and_eq_true, decide_eq_true_eq]; omega)]
      rfl
theorem specStep : Contract Try.prog 42 (Ent.rd1 specStepG).F := by
  refine fun_contractN' (KnowsL.cons (enters_fn Try.func43 (by kernel_rfl) (by kernel_rfl)) specGood (KnowsL.cons (enters_fn Try.func63 (by kernel_rfl) (by kernel_rfl)) l15Own (KnowsL.cons (enters_fn Try.func64 (by kernel_rfl) (by kernel_rfl)) l15StepC KnowsL.nil))).knows (Λ := look []) Try.func42 (c := Try.f42.body.getD .skip) (by kernel_rfl) fun vs bs r h hv hb => ?_
  unfold Ent.F specStepG at h
  dsimp only at h
  split at h
  · rename_i s0 s1 s2 s3 s4 s5 x0 x1 x2
    obtain ⟨hc, h⟩ := need_some h
    have hc := of_decide_eq_true hc
    exact ⟨loopsOk_nil _, (specStep_fun s0 s1 s2 s3 s4 s5 x0 x1 x2 hc).trans h⟩
  · cases h
theorem implStep_fun (s0 : Int) (s1 : List (List UInt8)) (s2 : Int) (s3 : List (List UInt8)) (s4 : List (Int × Int × List UInt8 × Unit)) (s5 : List (Int × Int × Unit)) (x0 x1 : Int) (x2 : List UInt8) (h3 : s3.length ≤ lim) : funN Try.prog (look [(30, .rd1 implGoodG), (68, .rd1 cloneSessionG), (93, .own oStepCG)]) (look []) Try.f41 [.agg [.i .i64 s0, .sl .str s1, .i .i64 s2, .sl .str s3, .sl (.pair (.int .i64) (.pair (.int .i64) (.pair .str .unit))) s4, .sl (.pair (.int .i64) (.pair (.int .i64) .unit)) s5], .agg [.i .i64 x0, .i .i64 x1, .s x2]] [] = (.leaf (.tup [.agg [.i .i64 (stepO (Ses.mk s0 s1 s2 s3 s4 s5) x0 x1 x2).e, .ref 0 0 (stepO (Ses.mk s0 s1 s2 s3 s4 s5) x0 x1 x2).it.length, .i .i64 (stepO (Ses.mk s0 s1 s2 s3 s4 s5) x0 x1 x2).b, .ref 1 0 (stepO (Ses.mk s0 s1 s2 s3 s4 s5) x0 x1 x2).ha.length, .ref 2 0 (stepO (Ses.mk s0 s1 s2 s3 s4 s5) x0 x1 x2).w.length, .ref 3 0 (stepO (Ses.mk s0 s1 s2 s3 s4 s5) x0 x1 x2).a.length], .b (stepB (Ses.mk s0 s1 s2 s3 s4 s5) x0 x1 x2)], [some (.row false none .str (stepO (Ses.mk s0 s1 s2 s3 s4 s5) x0 x1 x2).it), some (.row false none .str (stepO (Ses.mk s0 s1 s2 s3 s4 s5) x0 x1 x2).ha), some (.row false none (.pair (.int .i64) (.pair (.int .i64) (.pair .str .unit))) (stepO (Ses.mk s0 s1 s2 s3 s4 s5) x0 x1 x2).w), some (.row false none (.pair (.int .i64) (.pair (.int .i64) .unit)) (stepO (Ses.mk s0 s1 s2 s3 s4 s5) x0 x1 x2).a)]) : Br (V × List (Option Blk))).run := by
  have e : funN Try.prog (look [(30, .rd1 implGoodG), (68, .rd1 cloneSessionG), (93, .own oStepCG)]) (look []) Try.f41 [.agg [.i .i64 s0, .sl .str s1, .i .i64 s2, .sl .str s3, .sl (.pair (.int .i64) (.pair (.int .i64) (.pair .str .unit))) s4, .sl (.pair (.int .i64) (.pair (.int .i64) .unit)) s5], .agg [.i .i64 x0, .i .i64 x1, .s x2]] [] =
    ((ifB (!goodS s0 s1 s2 s3 s4 s5)
  (some
  (V.tup
  [V.agg
  [V.i IntKind.i64 (0 : Int), V.ref (0 : Nat) (0 : Nat) (0 : Nat), V.i IntKind.i64 (0 : Int),
  V.ref (1 : Nat) (0 : Nat) (0 : Nat), V.ref (2 : Nat) (0 : Nat) (0 : Nat),
  V.ref (3 : Nat) (0 : Nat) (0 : Nat)],
  V.b false],
  [some (Blk.row false none Cd.str (nilT Cd.str.den)), some (Blk.row false none Cd.str (nilT Cd.str.den)),
  some
  (Blk.row false none ((Cd.int IntKind.i64).pair ((Cd.int IntKind.i64).pair (Cd.str.pair Cd.unit)))
  (nilT ((Cd.int IntKind.i64).pair ((Cd.int IntKind.i64).pair (Cd.str.pair Cd.unit))).den)),
  some
  (Blk.row false none ((Cd.int IntKind.i64).pair ((Cd.int IntKind.i64).pair Cd.unit))
  (nilT ((Cd.int IntKind.i64).pair ((Cd.int IntKind.i64).pair Cd.unit)).den))]))
  (ifT (decide (s1.length ≤ (1000000000 : Nat)))
  (ifT (decide (s3.length ≤ (1000000000 : Nat)))
  (ifT (decide (s4.length ≤ (1000000000 : Nat)))
  (ifT (decide (s5.length ≤ (1000000000 : Nat)))
  (ifT
  (decide
  (s1.length = s1.length ∧
  s3.length = s3.length ∧
  s4.length = s4.length ∧
  s5.length = s5.length ∧
  ((0 : Int) ≤ s2 ∧ s2 ≤ (1000000000 : Int)) ∧
  ((0 : Int) ≤ s0 ∧ s0 ≤ (1000000000 : Int)) ∧
  s1.length ≤ (1000000000 : Nat) ∧
  s3.length ≤ (1000000000 : Nat) ∧
  s4.length ≤ (1000000000 : Nat) ∧ s5.length ≤ (1000000000 : Nat)))
  (ifB ((Ses.mk s0 s1 s2 s3 s4 s5).ok x0 x1 x2)
  (some
  (V.tup
  [V.agg
  [V.i IntKind.i64 ((Ses.mk s0 s1 s2 s3 s4 s5).next x0 x1 x2).e,
  V.ref (0 : Nat) (0 : Nat) ((Ses.mk s0 s1 s2 s3 s4 s5).next x0 x1 x2).it.length,
  V.i IntKind.i64 ((Ses.mk s0 s1 s2 s3 s4 s5).next x0 x1 x2).b,
  V.ref (1 : Nat) (0 : Nat) ((Ses.mk s0 s1 s2 s3 s4 s5).next x0 x1 x2).ha.length,
  V.ref (2 : Nat) (0 : Nat) ((Ses.mk s0 s1 s2 s3 s4 s5).next x0 x1 x2).w.length,
  V.ref (3 : Nat) (0 : Nat) ((Ses.mk s0 s1 s2 s3 s4 s5).next x0 x1 x2).a.length],
  V.b true],
  [some (Blk.row false none Cd.str ((Ses.mk s0 s1 s2 s3 s4 s5).next x0 x1 x2).it),
  some (Blk.row false none Cd.str ((Ses.mk s0 s1 s2 s3 s4 s5).next x0 x1 x2).ha),
  some
  (Blk.row false none ((Cd.int IntKind.i64).pair ((Cd.int IntKind.i64).pair (Cd.str.pair Cd.unit)))
  ((Ses.mk s0 s1 s2 s3 s4 s5).next x0 x1 x2).w),
  some
  (Blk.row false none ((Cd.int IntKind.i64).pair ((Cd.int IntKind.i64).pair Cd.unit))
  ((Ses.mk s0 s1 s2 s3 s4 s5).next x0 x1 x2).a)]))
  (some
  (V.tup
  [V.agg
  [V.i IntKind.i64 (0 : Int), V.ref (0 : Nat) (0 : Nat) (0 : Nat), V.i IntKind.i64 (0 : Int),
  V.ref (1 : Nat) (0 : Nat) (0 : Nat), V.ref (2 : Nat) (0 : Nat) (0 : Nat),
  V.ref (3 : Nat) (0 : Nat) (0 : Nat)],
  V.b false],
  [some (Blk.row false none Cd.str (nilT Cd.str.den)),
  some (Blk.row false none Cd.str (nilT Cd.str.den)),
  some
  (Blk.row false none ((Cd.int IntKind.i64).pair ((Cd.int IntKind.i64).pair (Cd.str.pair Cd.unit)))
  (nilT ((Cd.int IntKind.i64).pair ((Cd.int IntKind.i64).pair (Cd.str.pair Cd.unit))).den)),
  some
  (Blk.row false none ((Cd.int IntKind.i64).pair ((Cd.int IntKind.i64).pair Cd.unit))
  (nilT ((Cd.int IntKind.i64).pair ((Cd.int IntKind.i64).pair Cd.unit)).den))]))))))))) : _) := by kernel_rfl
  rw [e]
  cases q : goodS s0 s1 s2 s3 s4 s5 with
  | false =>
    have eB : stepB (Ses.mk s0 s1 s2 s3 s4 s5) x0 x1 x2 = false := by unfold stepB; rw [q]; rfl
    have eO : stepO (Ses.mk s0 s1 s2 s3 s4 s5) x0 x1 x2 = ⟨0, [], 0, [], [], []⟩ := by unfold stepO; rw [eB]; rfl
    rw [eB, eO]
    simp [h3]; rfl
  | true =>
    obtain ⟨he, h1, -, h2, -, hb, h4, h5, -⟩ := good_len q
    obtain ⟨n1, n3, n4, n5⟩ := next_len (Ses.mk s0 s1 s2 s3 s4 s5) x0 x1 x2
    dsimp only at n1 n3 n4 n5
    have hM : maxI = 9223372036854775807 := rfl
    simp only [ifB_not, ifB_t, ifB_f, nilT_eq, List.drop_zero, List.take_zero, List.take_nil, List.nil_append, Nat.zero_add, List.take_length, h3, decide_true, ifT_t]
    rw [ifT_true (by simp only [decide_eq_true_eq]; omega)]
    rw [ifT_true (by simp only [decide_eq_true_eq]; omega)]
    rw [ifT_true (by simp only [decide_eq_true_eq]; omega)]
    rw [ifT_true (by simp only [decide_eq_true_eq]; omega)]
    rw [ifT_true (by simp only [true_and, decide_eq_true_eq]; omega)]
    cases hk : (Ses.mk s0 s1 s2 s3 s4 s5).ok x0 x1 x2 with
    | false =>
      have eB : stepB (Ses.mk s0 s1 s2 s3 s4 s5) x0 x1 x2 = false := by unfold stepB; rw [q, hk]; rfl
      have eO : stepO (Ses.mk s0 s1 s2 s3 s4 s5) x0 x1 x2 = ⟨0, [], 0, [], [], []⟩ := by unfold stepO; rw [eB]; rfl
      rw [eB, eO]
      rfl
    | true =>
      have eB : stepB (Ses.mk s0 s1 s2 s3 s4 s5) x0 x1 x2 = true := by unfold stepB; rw [q, hk]; rfl
      have eO : stepO (Ses.mk s0 s1 s2 s3 s4 s5) x0 x1 x2 = (Ses.mk s0 s1 s2 s3 s4 s5).next x0 x1 x2 := by unfold stepO; rw [eB]; rfl
      rw [eB, eO]
      rfl
theorem implStep : Contract Try.prog 41 (Ent.rd1 implStepG).F := by
  refine fun_contractN' (KnowsL.cons (enters_fn Try.func30 (by kernel_rfl) (by kernel_rfl)) implGood (KnowsL.cons (enters_fn Try.func68 (by kernel_rfl) (by kernel_rfl)) cloneSession (KnowsL.cons (enters_fn Try.func93 (by kernel_rfl) (by kernel_rfl)) oStepC KnowsL.nil))).knows (Λ := look []) Try.func41 (c := Try.f41.body.getD .skip) (by kernel_rfl) fun vs bs r h hv hb => ?_
  unfold Ent.F implStepG at h
  dsimp only at h
  split at h
  · rename_i s0 s1 s2 s3 s4 s5 x0 x1 x2
    obtain ⟨hc, h⟩ := need_some h
    have hc := of_decide_eq_true hc
    exact ⟨loopsOk_nil _, (implStep_fun s0 s1 s2 s3 s4 s5 x0 x1 x2 hc).trans h⟩
  · cases h
end Go.Proofs.Ytjghbihlgfjebaa.Den
