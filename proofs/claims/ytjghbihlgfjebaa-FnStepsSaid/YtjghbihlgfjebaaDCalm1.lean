/- What functions of the program do, by the machine: Calm1. -/
import Derived.Test.YtjghbihlgfjebaaDCalmV
import Derived.KernelRfl
import Derived.Test.YtjghbihlgfjebaaRows
namespace Go.Proofs.Ytjghbihlgfjebaa.Den
open Go.Proofs
set_option maxRecDepth 100000
def ca1E : LoopEnt := ⟨34, [1,2], [1,2], [], fun
  | ([.ptr 4 0, .ptr 5 0], [none, none, none, none, some (.box [.i .i64 s0, .ref 6 0 m1, .i .i64 s2, .ref 7 0 m3, .ref 8 0 m4, .ref 9 0 m5]), some (.box [.i .i64 0, .ref 10 0 0, .i .i64 0, .ref 11 0 0, .ref 12 0 0, .ref 13 0 0]), some (.row false none .str s1), some (.row false none .str s3), some (.row false none (.pair (.int .i64) (.pair (.int .i64) (.pair .str .unit))) s4), some (.row false none (.pair (.int .i64) (.pair (.int .i64) .unit)) s5), some (.row false none .str []), some (.row false none .str []), some (.row false none (.pair (.int .i64) (.pair (.int .i64) (.pair .str .unit))) []), some (.row false none (.pair (.int .i64) (.pair (.int .i64) .unit)) [])]) => .need (decide ((m1 = s1.length ∧ m3 = s3.length ∧ m4 = s4.length ∧ m5 = s5.length) ∧ s4.length ≤ 500000 ∧ (Ses.mk s0 s1 s2 s3 s4 s5).inv (1000000 - s4.length))) (.leaf (.exit 0, ([.ptr 4 0, .ptr 5 0], [none, none, none, none, some (.box [.i .i64 ((Ses.mk s0 s1 s2 s3 s4 s5).acks).e, .ref 6 0 ((Ses.mk s0 s1 s2 s3 s4 s5).acks).it.length, .i .i64 ((Ses.mk s0 s1 s2 s3 s4 s5).acks).b, .ref 7 0 ((Ses.mk s0 s1 s2 s3 s4 s5).acks).ha.length, .ref 8 0 ((Ses.mk s0 s1 s2 s3 s4 s5).acks).w.length, .ref 9 0 ((Ses.mk s0 s1 s2 s3 s4 s5).acks).a.length]), some (.box [.i .i64 0, .ref 10 0 0, .i .i64 0, .ref 11 0 0, .ref 12 0 0, .ref 13 0 0]), some (.row false none .str ((Ses.mk s0 s1 s2 s3 s4 s5).acks).it), some (.row false none .str ((Ses.mk s0 s1 s2 s3 s4 s5).acks).ha), some (.row false none (.pair (.int .i64) (.pair (.int .i64) (.pair .str .unit))) ((Ses.mk s0 s1 s2 s3 s4 s5).acks).w), some (.row false none (.pair (.int .i64) (.pair (.int .i64) .unit)) ((Ses.mk s0 s1 s2 s3 s4 s5).acks).a), some (.row false none .str []), some (.row false none .str []), some (.row false none (.pair (.int .i64) (.pair (.int .i64) (.pair .str .unit))) []), some (.row false none (.pair (.int .i64) (.pair (.int .i64) .unit)) [])])))
  | _ => .no⟩
def ca2E : LoopEnt := ⟨34, [1,2], [1,2], [], fun
  | ([.ptr 4 0, .ptr 5 0], [none, none, none, none, some (.box [.i .i64 s0, .ref 6 0 m1, .i .i64 s2, .ref 7 0 m3, .ref 8 0 m4, .ref 9 0 m5]), some (.box [.i .i64 0, .ref 10 0 0, .i .i64 0, .ref 11 0 0, .ref 12 0 0, .ref 13 0 0]), some (.row false none .str s1), some (.row false none .str s3), some (.row false none (.pair (.int .i64) (.pair (.int .i64) (.pair .str .unit))) s4), some (.row false none (.pair (.int .i64) (.pair (.int .i64) .unit)) s5), some (.row false none .str []), some (.row false none .str []), some (.row false none (.pair (.int .i64) (.pair (.int .i64) (.pair .str .unit))) []), some (.row false none (.pair (.int .i64) (.pair (.int .i64) .unit)) [])]) => .need (decide ((m1 = s1.length ∧ m3 = s3.length ∧ m4 = s4.length ∧ m5 = s5.length) ∧ s4.length ≤ 500000 ∧ (Ses.mk s0 s1 s2 s3 s4 s5).inv (1000000 - s4.length))) (.leaf (.exit 2, ([.ptr 4 0, .ptr 5 0], [none, none, none, none, some (.box [.i .i64 (Ses.calmL s4 (Ses.mk s0 s1 s2 s3 s4 s5)).e, .ref 6 0 (Ses.calmL s4 (Ses.mk s0 s1 s2 s3 s4 s5)).it.length, .i .i64 (Ses.calmL s4 (Ses.mk s0 s1 s2 s3 s4 s5)).b, .ref 7 0 (Ses.calmL s4 (Ses.mk s0 s1 s2 s3 s4 s5)).ha.length, .ref 8 0 (Ses.calmL s4 (Ses.mk s0 s1 s2 s3 s4 s5)).w.length, .ref 9 0 (Ses.calmL s4 (Ses.mk s0 s1 s2 s3 s4 s5)).a.length]), some (.box [.i .i64 0, .ref 10 0 0, .i .i64 0, .ref 11 0 0, .ref 12 0 0, .ref 13 0 0]), some (.row false none .str (Ses.calmL s4 (Ses.mk s0 s1 s2 s3 s4 s5)).it), some (.row false none .str (Ses.calmL s4 (Ses.mk s0 s1 s2 s3 s4 s5)).ha), some (.row false none (.pair (.int .i64) (.pair (.int .i64) (.pair .str .unit))) (Ses.calmL s4 (Ses.mk s0 s1 s2 s3 s4 s5)).w), some (.row false none (.pair (.int .i64) (.pair (.int .i64) .unit)) (Ses.calmL s4 (Ses.mk s0 s1 s2 s3 s4 s5)).a), some (.row false none .str []), some (.row false none .str []), some (.row false none (.pair (.int .i64) (.pair (.int .i64) (.pair .str .unit))) []), some (.row false none (.pair (.int .i64) (.pair (.int .i64) .unit)) [])])))
  | _ => .no⟩
def ca3E : LoopEnt := ⟨34, [1,2], [1,2], [], fun
  | ([.ptr 4 0, .ptr 5 0], [none, none, none, none, some (.box [.i .i64 s0, .ref 6 0 m1, .i .i64 s2, .ref 7 0 m3, .ref 8 0 m4, .ref 9 0 m5]), some (.box [.i .i64 0, .ref 10 0 0, .i .i64 0, .ref 11 0 0, .ref 12 0 0, .ref 13 0 0]), some (.row false none .str s1), some (.row false none .str s3), some (.row false none (.pair (.int .i64) (.pair (.int .i64) (.pair .str .unit))) s4), some (.row false none (.pair (.int .i64) (.pair (.int .i64) .unit)) s5), some (.row false none .str []), some (.row false none .str []), some (.row false none (.pair (.int .i64) (.pair (.int .i64) (.pair .str .unit))) []), some (.row false none (.pair (.int .i64) (.pair (.int .i64) .unit)) [])]) => .need (decide ((m1 = s1.length ∧ m3 = s3.length ∧ m4 = s4.length ∧ m5 = s5.length) ∧ s4.length ≤ 500000 ∧ (Ses.mk s0 s1 s2 s3 s4 s5).inv (1000000 - s4.length))) (.leaf (.exit 4, ([.ptr 4 0, .ptr 5 0], [none, none, none, none, some (.box [.i .i64 ((Ses.mk s0 s1 s2 s3 s4 s5).acks).e, .ref 6 0 ((Ses.mk s0 s1 s2 s3 s4 s5).acks).it.length, .i .i64 ((Ses.mk s0 s1 s2 s3 s4 s5).acks).b, .ref 7 0 ((Ses.mk s0 s1 s2 s3 s4 s5).acks).ha.length, .ref 8 0 ((Ses.mk s0 s1 s2 s3 s4 s5).acks).w.length, .ref 9 0 ((Ses.mk s0 s1 s2 s3 s4 s5).acks).a.length]), some (.box [.i .i64 0, .ref 10 0 0, .i .i64 0, .ref 11 0 0, .ref 12 0 0, .ref 13 0 0]), some (.row false none .str ((Ses.mk s0 s1 s2 s3 s4 s5).acks).it), some (.row false none .str ((Ses.mk s0 s1 s2 s3 s4 s5).acks).ha), some (.row false none (.pair (.int .i64) (.pair (.int .i64) (.pair .str .unit))) ((Ses.mk s0 s1 s2 s3 s4 s5).acks).w), some (.row false none (.pair (.int .i64) (.pair (.int .i64) .unit)) ((Ses.mk s0 s1 s2 s3 s4 s5).acks).a), some (.row false none .str []), some (.row false none .str []), some (.row false none (.pair (.int .i64) (.pair (.int .i64) (.pair .str .unit))) []), some (.row false none (.pair (.int .i64) (.pair (.int .i64) .unit)) [])])))
  | _ => .no⟩
theorem Ses.ack_inv {e : Int} {it : List (List UInt8)} {b : Int} {ha : List (List UInt8)} {w : List (Int × Int × List UInt8 × Unit)} {z : (Int × Int × Unit)} {a : List (Int × Int × Unit)} {n : Nat} (h : (Ses.mk e it b ha w (z :: a)).inv n) : (Ses.mk e it (if z.1 = e then (if z.2.1 > b then z.2.1 else b) else b) ha w a).inv n := by
  obtain ⟨h1, h2, h3, h4, h5, h6, h7⟩ := h
  have hz := h3 z (List.mem_cons_self ..)
  dsimp only at h2 hz
  refine ⟨h1, ?_, fun y hy => h3 y (List.mem_cons_of_mem _ hy), h4, h5, h6, by simp at h7; dsimp only; omega⟩
  dsimp only
  split
  · split
    · exact hz
    · exact h2
  · exact h2
theorem Ses.eta_w (s : Ses) (w : List (Int × Int × List UInt8 × Unit)) (h : s.w = w) : Ses.mk s.e s.it s.b s.ha w s.a = s := by subst h; rfl
theorem Ses.inv_mono {s : Ses} {n m : Nat} (h : s.inv n) (hm : n ≤ m) : s.inv m := by
  obtain ⟨h1, h2, h3, h4, h5, h6, h7⟩ := h
  exact ⟨h1, h2, h3, by omega, by omega, by omega, by omega⟩
theorem ca1_round (s0 : Int) (m1 : Nat) (s2 : Int) (m3 m4 m5 : Nat) (s1 s3 : List (List UInt8)) (s4 : List (Int × Int × List UInt8 × Unit)) (s5 : List (Int × Int × Unit)) : roundK Try.prog (look [(64, .own l15StepCG)]) (look [(1, ca1E), (3, ca2E), (5, ca3E)]) 4 (body Try.f62 0) ca1E ([.ptr 4 0, .ptr 5 0], [none, none, none, none, some (.box [.i .i64 s0, .ref 6 0 m1, .i .i64 s2, .ref 7 0 m3, .ref 8 0 m4, .ref 9 0 m5]), some (.box [.i .i64 0, .ref 10 0 0, .i .i64 0, .ref 11 0 0, .ref 12 0 0, .ref 13 0 0]), some (.row false none .str s1), some (.row false none .str s3), some (.row false none (.pair (.int .i64) (.pair (.int .i64) (.pair .str .unit))) s4), some (.row false none (.pair (.int .i64) (.pair (.int .i64) .unit)) s5), some (.row false none .str []), some (.row false none .str []), some (.row false none (.pair (.int .i64) (.pair (.int .i64) (.pair .str .unit))) []), some (.row false none (.pair (.int .i64) (.pair (.int .i64) .unit)) [])]) =
    ((ifB (decide ((↑m5 : Int) > (0 : Int)))
  (ifT
  (decide
  (m1 = s1.length ∧
  m3 = s3.length ∧
  m4 = s4.length ∧
  m5 = s5.length ∧
  ((0 : Int) ≤ s2 ∧ s2 ≤ (1000000000 : Int)) ∧
  ((0 : Int) ≤ s0 ∧ s0 ≤ (1000000000 : Int)) ∧
  s1.length ≤ (1000000000 : Nat) ∧
  s3.length ≤ (1000000000 : Nat) ∧ s4.length ≤ (1000000000 : Nat) ∧ s5.length ≤ (1000000000 : Nat)))
  (ifB ((Ses.mk s0 s1 s2 s3 s4 s5).ok (6 : Int) (0 : Int) (nilT UInt8))
  (some
  (Ex.normal, [V.ptr (4 : Nat) (0 : Nat), V.ptr (5 : Nat) (0 : Nat)],
  [none, none, none, none,
  some
  (Blk.box
  [V.i IntKind.i64 ((Ses.mk s0 s1 s2 s3 s4 s5).next (6 : Int) (0 : Int) (nilT UInt8)).e,
  V.ref (6 : Nat) (0 : Nat)
  ((Ses.mk s0 s1 s2 s3 s4 s5).next (6 : Int) (0 : Int) (nilT UInt8)).it.length,
  V.i IntKind.i64 ((Ses.mk s0 s1 s2 s3 s4 s5).next (6 : Int) (0 : Int) (nilT UInt8)).b,
  V.ref (7 : Nat) (0 : Nat)
  ((Ses.mk s0 s1 s2 s3 s4 s5).next (6 : Int) (0 : Int) (nilT UInt8)).ha.length,
  V.ref (8 : Nat) (0 : Nat) ((Ses.mk s0 s1 s2 s3 s4 s5).next (6 : Int) (0 : Int) (nilT UInt8)).w.length,
  V.ref (9 : Nat) (0 : Nat)
  ((Ses.mk s0 s1 s2 s3 s4 s5).next (6 : Int) (0 : Int) (nilT UInt8)).a.length]),
  some
  (Blk.box
  [V.i IntKind.i64 (0 : Int), V.ref (10 : Nat) (0 : Nat) (0 : Nat), V.i IntKind.i64 (0 : Int),
  V.ref (11 : Nat) (0 : Nat) (0 : Nat), V.ref (12 : Nat) (0 : Nat) (0 : Nat),
  V.ref (13 : Nat) (0 : Nat) (0 : Nat)]),
  some (Blk.row false none Cd.str ((Ses.mk s0 s1 s2 s3 s4 s5).next (6 : Int) (0 : Int) (nilT UInt8)).it),
  some (Blk.row false none Cd.str ((Ses.mk s0 s1 s2 s3 s4 s5).next (6 : Int) (0 : Int) (nilT UInt8)).ha),
  some
  (Blk.row false none ((Cd.int IntKind.i64).pair ((Cd.int IntKind.i64).pair (Cd.str.pair Cd.unit)))
  ((Ses.mk s0 s1 s2 s3 s4 s5).next (6 : Int) (0 : Int) (nilT UInt8)).w),
  some
  (Blk.row false none ((Cd.int IntKind.i64).pair ((Cd.int IntKind.i64).pair Cd.unit))
  ((Ses.mk s0 s1 s2 s3 s4 s5).next (6 : Int) (0 : Int) (nilT UInt8)).a),
  some (Blk.row false none Cd.str (nilT Cd.str.den)), some (Blk.row false none Cd.str (nilT Cd.str.den)),
  some
  (Blk.row false none ((Cd.int IntKind.i64).pair ((Cd.int IntKind.i64).pair (Cd.str.pair Cd.unit)))
  (nilT ((Cd.int IntKind.i64).pair ((Cd.int IntKind.i64).pair (Cd.str.pair Cd.unit))).den)),
  some
  (Blk.row false none ((Cd.int IntKind.i64).pair ((Cd.int IntKind.i64).pair Cd.unit))
  (nilT ((Cd.int IntKind.i64).pair ((Cd.int IntKind.i64).pair Cd.unit)).den))]))
  (some
  (Ex.normal, [V.ptr (4 : Nat) (0 : Nat), V.ptr (5 : Nat) (0 : Nat)],
  [none, none, none, none,
  some
  (Blk.box
  [V.i IntKind.i64 (Ses.mk s0 s1 s2 s3 s4 s5).e,
  V.ref (6 : Nat) (0 : Nat) (Ses.mk s0 s1 s2 s3 s4 s5).it.length,
  V.i IntKind.i64 (Ses.mk s0 s1 s2 s3 s4 s5).b,
  V.ref (7 : Nat) (0 : Nat) (Ses.mk s0 s1 s2 s3 s4 s5).ha.length,
  V.ref (8 : Nat) (0 : Nat) (Ses.mk s0 s1 s2 s3 s4 s5).w.length,
  V.ref (9 : Nat) (0 : Nat) (Ses.mk s0 s1 s2 s3 s4 s5).a.length]),
  some
  (Blk.box
  [V.i IntKind.i64 (0 : Int), V.ref (10 : Nat) (0 : Nat) (0 : Nat), V.i IntKind.i64 (0 : Int),
  V.ref (11 : Nat) (0 : Nat) (0 : Nat), V.ref (12 : Nat) (0 : Nat) (0 : Nat),
  V.ref (13 : Nat) (0 : Nat) (0 : Nat)]),
  some (Blk.row false none Cd.str (Ses.mk s0 s1 s2 s3 s4 s5).it),
  some (Blk.row false none Cd.str (Ses.mk s0 s1 s2 s3 s4 s5).ha),
  some
  (Blk.row false none ((Cd.int IntKind.i64).pair ((Cd.int IntKind.i64).pair (Cd.str.pair Cd.unit)))
  (Ses.mk s0 s1 s2 s3 s4 s5).w),
  some
  (Blk.row false none ((Cd.int IntKind.i64).pair ((Cd.int IntKind.i64).pair Cd.unit))
  (Ses.mk s0 s1 s2 s3 s4 s5).a),
  some (Blk.row false none Cd.str (nilT Cd.str.den)), some (Blk.row false none Cd.str (nilT Cd.str.den)),
  some
  (Blk.row false none ((Cd.int IntKind.i64).pair ((Cd.int IntKind.i64).pair (Cd.str.pair Cd.unit)))
  (nilT ((Cd.int IntKind.i64).pair ((Cd.int IntKind.i64).pair (Cd.str.pair Cd.unit))).den)),
  some
  (Blk.row false none ((Cd.int IntKind.i64).pair ((Cd.int IntKind.i64).pair Cd.unit))
  (nilT ((Cd.int IntKind.i64).pair ((Cd.int IntKind.i64).pair Cd.unit)).den))]))))
  (some
  (Ex.exit (0 : Nat), [V.ptr (4 : Nat) (0 : Nat), V.ptr (5 : Nat) (0 : Nat)],
  [none, none, none, none,
  some
  (Blk.box
  [V.i IntKind.i64 s0, V.ref (6 : Nat) (0 : Nat) m1, V.i IntKind.i64 s2, V.ref (7 : Nat) (0 : Nat) m3,
  V.ref (8 : Nat) (0 : Nat) m4, V.ref (9 : Nat) (0 : Nat) m5]),
  some
  (Blk.box
  [V.i IntKind.i64 (0 : Int), V.ref (10 : Nat) (0 : Nat) (0 : Nat), V.i IntKind.i64 (0 : Int),
  V.ref (11 : Nat) (0 : Nat) (0 : Nat), V.ref (12 : Nat) (0 : Nat) (0 : Nat),
  V.ref (13 : Nat) (0 : Nat) (0 : Nat)]),
  some (Blk.row false none Cd.str s1), some (Blk.row false none Cd.str s3),
  some (Blk.row false none ((Cd.int IntKind.i64).pair ((Cd.int IntKind.i64).pair (Cd.str.pair Cd.unit))) s4),
  some (Blk.row false none ((Cd.int IntKind.i64).pair ((Cd.int IntKind.i64).pair Cd.unit)) s5),
  some (Blk.row false none Cd.str (nilT Cd.str.den)), some (Blk.row false none Cd.str (nilT Cd.str.den)),
  some
  (Blk.row false none ((Cd.int IntKind.i64).pair ((Cd.int IntKind.i64).pair (Cd.str.pair Cd.unit)))
  (nilT ((Cd.int IntKind.i64).pair ((Cd.int IntKind.i64).pair (Cd.str.pair Cd.unit))).den)),
  some
  (Blk.row false none ((Cd.int IntKind.i64).pair ((Cd.int IntKind.i64).pair Cd.unit))
  (nilT ((Cd.int IntKind.i64).pair ((Cd.int IntKind.i64).pair Cd.unit)).den))]))) : _) := by kernel_rfl
theorem ca2_round (s0 : Int) (m1 : Nat) (s2 : Int) (m3 m4 m5 : Nat) (s1 s3 : List (List UInt8)) (s4 : List (Int × Int × List UInt8 × Unit)) (s5 : List (Int × Int × Unit)) : roundK Try.prog (look [(64, .own l15StepCG)]) (look [(1, ca1E), (3, ca2E), (5, ca3E)]) 4 (body Try.f62 1) ca2E ([.ptr 4 0, .ptr 5 0], [none, none, none, none, some (.box [.i .i64 s0, .ref 6 0 m1, .i .i64 s2, .ref 7 0 m3, .ref 8 0 m4, .ref 9 0 m5]), some (.box [.i .i64 0, .ref 10 0 0, .i .i64 0, .ref 11 0 0, .ref 12 0 0, .ref 13 0 0]), some (.row false none .str s1), some (.row false none .str s3), some (.row false none (.pair (.int .i64) (.pair (.int .i64) (.pair .str .unit))) s4), some (.row false none (.pair (.int .i64) (.pair (.int .i64) .unit)) s5), some (.row false none .str []), some (.row false none .str []), some (.row false none (.pair (.int .i64) (.pair (.int .i64) (.pair .str .unit))) []), some (.row false none (.pair (.int .i64) (.pair (.int .i64) .unit)) [])]) =
    ((ifB (decide ((↑m4 : Int) > (0 : Int)))
  (ifT
  (decide
  (m1 = s1.length ∧
  m3 = s3.length ∧
  m4 = s4.length ∧
  m5 = s5.length ∧
  ((0 : Int) ≤ s2 ∧ s2 ≤ (1000000000 : Int)) ∧
  ((0 : Int) ≤ s0 ∧ s0 ≤ (1000000000 : Int)) ∧
  s1.length ≤ (1000000000 : Nat) ∧
  s3.length ≤ (1000000000 : Nat) ∧ s4.length ≤ (1000000000 : Nat) ∧ s5.length ≤ (1000000000 : Nat)))
  (ifB ((Ses.mk s0 s1 s2 s3 s4 s5).ok (3 : Int) (0 : Int) (nilT UInt8))
  (ifT
  (decide
  ((((Ses.mk s0 s1 s2 s3 s4 s5).next (3 : Int) (0 : Int) (nilT UInt8)).it.length =
  ((Ses.mk s0 s1 s2 s3 s4 s5).next (3 : Int) (0 : Int) (nilT UInt8)).it.length ∧
  ((Ses.mk s0 s1 s2 s3 s4 s5).next (3 : Int) (0 : Int) (nilT UInt8)).ha.length =
  ((Ses.mk s0 s1 s2 s3 s4 s5).next (3 : Int) (0 : Int) (nilT UInt8)).ha.length ∧
  ((Ses.mk s0 s1 s2 s3 s4 s5).next (3 : Int) (0 : Int) (nilT UInt8)).w.length =
  ((Ses.mk s0 s1 s2 s3 s4 s5).next (3 : Int) (0 : Int) (nilT UInt8)).w.length ∧
  ((Ses.mk s0 s1 s2 s3 s4 s5).next (3 : Int) (0 : Int) (nilT UInt8)).a.length =
  ((Ses.mk s0 s1 s2 s3 s4 s5).next (3 : Int) (0 : Int) (nilT UInt8)).a.length) ∧
  ((Ses.mk s0 s1 s2 s3 s4 s5).next (3 : Int) (0 : Int) (nilT UInt8)).w.length ≤ (500000 : Nat) ∧
  ((Ses.mk s0 s1 s2 s3 s4 s5).next (3 : Int) (0 : Int) (nilT UInt8)).inv
  ((1000000 : Nat) - ((Ses.mk s0 s1 s2 s3 s4 s5).next (3 : Int) (0 : Int) (nilT UInt8)).w.length)))
  (some
  (Ex.normal, [V.ptr (4 : Nat) (0 : Nat), V.ptr (5 : Nat) (0 : Nat)],
  [none, none, none, none,
  some
  (Blk.box
  [V.i IntKind.i64 ((Ses.mk s0 s1 s2 s3 s4 s5).next (3 : Int) (0 : Int) (nilT UInt8)).acks.e,
  V.ref (6 : Nat) (0 : Nat)
  ((Ses.mk s0 s1 s2 s3 s4 s5).next (3 : Int) (0 : Int) (nilT UInt8)).acks.it.length,
  V.i IntKind.i64 ((Ses.mk s0 s1 s2 s3 s4 s5).next (3 : Int) (0 : Int) (nilT UInt8)).acks.b,
  V.ref (7 : Nat) (0 : Nat)
  ((Ses.mk s0 s1 s2 s3 s4 s5).next (3 : Int) (0 : Int) (nilT UInt8)).acks.ha.length,
  V.ref (8 : Nat) (0 : Nat)
  ((Ses.mk s0 s1 s2 s3 s4 s5).next (3 : Int) (0 : Int) (nilT UInt8)).acks.w.length,
  V.ref (9 : Nat) (0 : Nat) (0 : Nat)]),
  some
  (Blk.box
  [V.i IntKind.i64 (0 : Int), V.ref (10 : Nat) (0 : Nat) (0 : Nat), V.i IntKind.i64 (0 : Int),
  V.ref (11 : Nat) (0 : Nat) (0 : Nat), V.ref (12 : Nat) (0 : Nat) (0 : Nat),
  V.ref (13 : Nat) (0 : Nat) (0 : Nat)]),
  some
  (Blk.row false none Cd.str ((Ses.mk s0 s1 s2 s3 s4 s5).next (3 : Int) (0 : Int) (nilT UInt8)).acks.it),
  some
  (Blk.row false none Cd.str ((Ses.mk s0 s1 s2 s3 s4 s5).next (3 : Int) (0 : Int) (nilT UInt8)).acks.ha),
  some
  (Blk.row false none ((Cd.int IntKind.i64).pair ((Cd.int IntKind.i64).pair (Cd.str.pair Cd.unit)))
  ((Ses.mk s0 s1 s2 s3 s4 s5).next (3 : Int) (0 : Int) (nilT UInt8)).acks.w),
  some
  (Blk.row false none ((Cd.int IntKind.i64).pair ((Cd.int IntKind.i64).pair Cd.unit))
  ((Ses.mk s0 s1 s2 s3 s4 s5).next (3 : Int) (0 : Int) (nilT UInt8)).acks.a),
  some (Blk.row false none Cd.str (nilT Cd.str.den)), some (Blk.row false none Cd.str (nilT Cd.str.den)),
  some
  (Blk.row false none ((Cd.int IntKind.i64).pair ((Cd.int IntKind.i64).pair (Cd.str.pair Cd.unit)))
  (nilT ((Cd.int IntKind.i64).pair ((Cd.int IntKind.i64).pair (Cd.str.pair Cd.unit))).den)),
  some
  (Blk.row false none ((Cd.int IntKind.i64).pair ((Cd.int IntKind.i64).pair Cd.unit))
  (nilT ((Cd.int IntKind.i64).pair ((Cd.int IntKind.i64).pair Cd.unit)).den))])))
  (ifT
  (decide
  (((Ses.mk s0 s1 s2 s3 s4 s5).it.length = (Ses.mk s0 s1 s2 s3 s4 s5).it.length ∧
  (Ses.mk s0 s1 s2 s3 s4 s5).ha.length = (Ses.mk s0 s1 s2 s3 s4 s5).ha.length ∧
  (Ses.mk s0 s1 s2 s3 s4 s5).w.length = (Ses.mk s0 s1 s2 s3 s4 s5).w.length ∧
  (Ses.mk s0 s1 s2 s3 s4 s5).a.length = (Ses.mk s0 s1 s2 s3 s4 s5).a.length) ∧
  (Ses.mk s0 s1 s2 s3 s4 s5).w.length ≤ (500000 : Nat) ∧
  (Ses.mk s0 s1 s2 s3 s4 s5).inv ((1000000 : Nat) - (Ses.mk s0 s1 s2 s3 s4 s5).w.length)))
  (some
  (Ex.normal, [V.ptr (4 : Nat) (0 : Nat), V.ptr (5 : Nat) (0 : Nat)],
  [none, none, none, none,
  some
  (Blk.box
  [V.i IntKind.i64 (Ses.mk s0 s1 s2 s3 s4 s5).acks.e,
  V.ref (6 : Nat) (0 : Nat) (Ses.mk s0 s1 s2 s3 s4 s5).acks.it.length,
  V.i IntKind.i64 (Ses.mk s0 s1 s2 s3 s4 s5).acks.b,
  V.ref (7 : Nat) (0 : Nat) (Ses.mk s0 s1 s2 s3 s4 s5).acks.ha.length,
  V.ref (8 : Nat) (0 : Nat) (Ses.mk s0 s1 s2 s3 s4 s5).acks.w.length,
  V.ref (9 : Nat) (0 : Nat) (0 : Nat)]),
  some
  (Blk.box
  [V.i IntKind.i64 (0 : Int), V.ref (10 : Nat) (0 : Nat) (0 : Nat), V.i IntKind.i64 (0 : Int),
  V.ref (11 : Nat) (0 : Nat) (0 : Nat), V.ref (12 : Nat) (0 : Nat) (0 : Nat),
  V.ref (13 : Nat) (0 : Nat) (0 : Nat)]),
  some (Blk.row false none Cd.str (Ses.mk s0 s1 s2 s3 s4 s5).acks.it),
  some (Blk.row false none Cd.str (Ses.mk s0 s1 s2 s3 s4 s5).acks.ha),
  some
  (Blk.row false none ((Cd.int IntKind.i64).pair ((Cd.int IntKind.i64).pair (Cd.str.pair Cd.unit)))
  (Ses.mk s0 s1 s2 s3 s4 s5).acks.w),
  some
  (Blk.row false none ((Cd.int IntKind.i64).pair ((Cd.int IntKind.i64).pair Cd.unit))
  (Ses.mk s0 s1 s2 s3 s4 s5).acks.a),
  some (Blk.row false none Cd.str (nilT Cd.str.den)), some (Blk.row false none Cd.str (nilT Cd.str.den)),
  some
  (Blk.row false none ((Cd.int IntKind.i64).pair ((Cd.int IntKind.i64).pair (Cd.str.pair Cd.unit)))
  (nilT ((Cd.int IntKind.i64).pair ((Cd.int IntKind.i64).pair (Cd.str.pair Cd.unit))).den)),
  some
  (Blk.row false none ((Cd.int IntKind.i64).pair ((Cd.int IntKind.i64).pair Cd.unit))
  (nilT ((Cd.int IntKind.i64).pair ((Cd.int IntKind.i64).pair Cd.unit)).den))])))))
  (some
  (Ex.exit (2 : Nat), [V.ptr (4 : Nat) (0 : Nat), V.ptr (5 : Nat) (0 : Nat)],
  [none, none, none, none,
  some
  (Blk.box
  [V.i IntKind.i64 s0, V.ref (6 : Nat) (0 : Nat) m1, V.i IntKind.i64 s2, V.ref (7 : Nat) (0 : Nat) m3,
  V.ref (8 : Nat) (0 : Nat) m4, V.ref (9 : Nat) (0 : Nat) m5]),
  some
  (Blk.box
  [V.i IntKind.i64 (0 : Int), V.ref (10 : Nat) (0 : Nat) (0 : Nat), V.i IntKind.i64 (0 : Int),
  V.ref (11 : Nat) (0 : Nat) (0 : Nat), V.ref (12 : Nat) (0 : Nat) (0 : Nat),
  V.ref (13 : Nat) (0 : Nat) (0 : Nat)]),
  some (Blk.row false none Cd.str s1), some (Blk.row false none Cd.str s3),
  some (Blk.row false none ((Cd.int IntKind.i64).pair ((Cd.int IntKind.i64).pair (Cd.str.pair Cd.unit))) s4),
  some (Blk.row false none ((Cd.int IntKind.i64).pair ((Cd.int IntKind.i64).pair Cd.unit)) s5),
  some (Blk.row false none Cd.str (nilT Cd.str.den)), some (Blk.row false none Cd.str (nilT Cd.str.den)),
  some
  (Blk.row false none ((Cd.int IntKind.i64).pair ((Cd.int IntKind.i64).pair (Cd.str.pair Cd.unit)))
  (nilT ((Cd.int IntKind.i64).pair ((Cd.int IntKind.i64).pair (Cd.str.pair Cd.unit))).den)),
  some
  (Blk.row false none ((Cd.int IntKind.i64).pair ((Cd.int IntKind.i64).pair Cd.unit))
  (nilT ((Cd.int IntKind.i64).pair ((Cd.int IntKind.i64).pair Cd.unit)).den))]))) : _) := by kernel_rfl
theorem ca3_round (s0 : Int) (m1 : Nat) (s2 : Int) (m3 m4 m5 : Nat) (s1 s3 : List (List UInt8)) (s4 : List (Int × Int × List UInt8 × Unit)) (s5 : List (Int × Int × Unit)) : roundK Try.prog (look [(64, .own l15StepCG)]) (look [(1, ca1E), (3, ca2E), (5, ca3E)]) 4 (body Try.f62 2) ca3E ([.ptr 4 0, .ptr 5 0], [none, none, none, none, some (.box [.i .i64 s0, .ref 6 0 m1, .i .i64 s2, .ref 7 0 m3, .ref 8 0 m4, .ref 9 0 m5]), some (.box [.i .i64 0, .ref 10 0 0, .i .i64 0, .ref 11 0 0, .ref 12 0 0, .ref 13 0 0]), some (.row false none .str s1), some (.row false none .str s3), some (.row false none (.pair (.int .i64) (.pair (.int .i64) (.pair .str .unit))) s4), some (.row false none (.pair (.int .i64) (.pair (.int .i64) .unit)) s5), some (.row false none .str []), some (.row false none .str []), some (.row false none (.pair (.int .i64) (.pair (.int .i64) (.pair .str .unit))) []), some (.row false none (.pair (.int .i64) (.pair (.int .i64) .unit)) [])]) =
    ((ifB (decide ((↑m5 : Int) > (0 : Int)))
  (ifT
  (decide
  (m1 = s1.length ∧
  m3 = s3.length ∧
  m4 = s4.length ∧
  m5 = s5.length ∧
  ((0 : Int) ≤ s2 ∧ s2 ≤ (1000000000 : Int)) ∧
  ((0 : Int) ≤ s0 ∧ s0 ≤ (1000000000 : Int)) ∧
  s1.length ≤ (1000000000 : Nat) ∧
  s3.length ≤ (1000000000 : Nat) ∧ s4.length ≤ (1000000000 : Nat) ∧ s5.length ≤ (1000000000 : Nat)))
  (ifB ((Ses.mk s0 s1 s2 s3 s4 s5).ok (6 : Int) (0 : Int) (nilT UInt8))
  (some
  (Ex.normal, [V.ptr (4 : Nat) (0 : Nat), V.ptr (5 : Nat) (0 : Nat)],
  [none, none, none, none,
  some
  (Blk.box
  [V.i IntKind.i64 ((Ses.mk s0 s1 s2 s3 s4 s5).next (6 : Int) (0 : Int) (nilT UInt8)).e,
  V.ref (6 : Nat) (0 : Nat)
  ((Ses.mk s0 s1 s2 s3 s4 s5).next (6 : Int) (0 : Int) (nilT UInt8)).it.length,
  V.i IntKind.i64 ((Ses.mk s0 s1 s2 s3 s4 s5).next (6 : Int) (0 : Int) (nilT UInt8)).b,
  V.ref (7 : Nat) (0 : Nat)
  ((Ses.mk s0 s1 s2 s3 s4 s5).next (6 : Int) (0 : Int) (nilT UInt8)).ha.length,
  V.ref (8 : Nat) (0 : Nat) ((Ses.mk s0 s1 s2 s3 s4 s5).next (6 : Int) (0 : Int) (nilT UInt8)).w.length,
  V.ref (9 : Nat) (0 : Nat)
  ((Ses.mk s0 s1 s2 s3 s4 s5).next (6 : Int) (0 : Int) (nilT UInt8)).a.length]),
  some
  (Blk.box
  [V.i IntKind.i64 (0 : Int), V.ref (10 : Nat) (0 : Nat) (0 : Nat), V.i IntKind.i64 (0 : Int),
  V.ref (11 : Nat) (0 : Nat) (0 : Nat), V.ref (12 : Nat) (0 : Nat) (0 : Nat),
  V.ref (13 : Nat) (0 : Nat) (0 : Nat)]),
  some (Blk.row false none Cd.str ((Ses.mk s0 s1 s2 s3 s4 s5).next (6 : Int) (0 : Int) (nilT UInt8)).it),
  some (Blk.row false none Cd.str ((Ses.mk s0 s1 s2 s3 s4 s5).next (6 : Int) (0 : Int) (nilT UInt8)).ha),
  some
  (Blk.row false none ((Cd.int IntKind.i64).pair ((Cd.int IntKind.i64).pair (Cd.str.pair Cd.unit)))
  ((Ses.mk s0 s1 s2 s3 s4 s5).next (6 : Int) (0 : Int) (nilT UInt8)).w),
  some
  (Blk.row false none ((Cd.int IntKind.i64).pair ((Cd.int IntKind.i64).pair Cd.unit))
  ((Ses.mk s0 s1 s2 s3 s4 s5).next (6 : Int) (0 : Int) (nilT UInt8)).a),
  some (Blk.row false none Cd.str (nilT Cd.str.den)), some (Blk.row false none Cd.str (nilT Cd.str.den)),
  some
  (Blk.row false none ((Cd.int IntKind.i64).pair ((Cd.int IntKind.i64).pair (Cd.str.pair Cd.unit)))
  (nilT ((Cd.int IntKind.i64).pair ((Cd.int IntKind.i64).pair (Cd.str.pair Cd.unit))).den)),
  some
  (Blk.row false none ((Cd.int IntKind.i64).pair ((Cd.int IntKind.i64).pair Cd.unit))
  (nilT ((Cd.int IntKind.i64).pair ((Cd.int IntKind.i64).pair Cd.unit)).den))]))
  (some
  (Ex.normal, [V.ptr (4 : Nat) (0 : Nat), V.ptr (5 : Nat) (0 : Nat)],
  [none, none, none, none,
  some
  (Blk.box
  [V.i IntKind.i64 (Ses.mk s0 s1 s2 s3 s4 s5).e,
  V.ref (6 : Nat) (0 : Nat) (Ses.mk s0 s1 s2 s3 s4 s5).it.length,
  V.i IntKind.i64 (Ses.mk s0 s1 s2 s3 s4 s5).b,
  V.ref (7 : Nat) (0 : Nat) (Ses.mk s0 s1 s2 s3 s4 s5).ha.length,
  V.ref (8 : Nat) (0 : Nat) (Ses.mk s0 s1 s2 s3 s4 s5).w.length,
  V.ref (9 : Nat) (0 : Nat) (Ses.mk s0 s1 s2 s3 s4 s5).a.length]),
  some
  (Blk.box
  [V.i IntKind.i64 (0 : Int), V.ref (10 : Nat) (0 : Nat) (0 : Nat), V.i IntKind.i64 (0 : Int),
  V.ref (11 : Nat) (0 : Nat) (0 : Nat), V.ref (12 : Nat) (0 : Nat) (0 : Nat),
  V.ref (13 : Nat) (0 : Nat) (0 : Nat)]),
  some (Blk.row false none Cd.str (Ses.mk s0 s1 s2 s3 s4 s5).it),
  some (Blk.row false none Cd.str (Ses.mk s0 s1 s2 s3 s4 s5).ha),
  some
  (Blk.row false none ((Cd.int IntKind.i64).pair ((Cd.int IntKind.i64).pair (Cd.str.pair Cd.unit)))
  (Ses.mk s0 s1 s2 s3 s4 s5).w),
  some
  (Blk.row false none ((Cd.int IntKind.i64).pair ((Cd.int IntKind.i64).pair Cd.unit))
  (Ses.mk s0 s1 s2 s3 s4 s5).a),
  some (Blk.row false none Cd.str (nilT Cd.str.den)), some (Blk.row false none Cd.str (nilT Cd.str.den)),
  some
  (Blk.row false none ((Cd.int IntKind.i64).pair ((Cd.int IntKind.i64).pair (Cd.str.pair Cd.unit)))
  (nilT ((Cd.int IntKind.i64).pair ((Cd.int IntKind.i64).pair (Cd.str.pair Cd.unit))).den)),
  some
  (Blk.row false none ((Cd.int IntKind.i64).pair ((Cd.int IntKind.i64).pair Cd.unit))
  (nilT ((Cd.int IntKind.i64).pair ((Cd.int IntKind.i64).pair Cd.unit)).den))]))))
  (some
  (Ex.exit (4 : Nat), [V.ptr (4 : Nat) (0 : Nat), V.ptr (5 : Nat) (0 : Nat)],
  [none, none, none, none,
  some
  (Blk.box
  [V.i IntKind.i64 s0, V.ref (6 : Nat) (0 : Nat) m1, V.i IntKind.i64 s2, V.ref (7 : Nat) (0 : Nat) m3,
  V.ref (8 : Nat) (0 : Nat) m4, V.ref (9 : Nat) (0 : Nat) m5]),
  some
  (Blk.box
  [V.i IntKind.i64 (0 : Int), V.ref (10 : Nat) (0 : Nat) (0 : Nat), V.i IntKind.i64 (0 : Int),
  V.ref (11 : Nat) (0 : Nat) (0 : Nat), V.ref (12 : Nat) (0 : Nat) (0 : Nat),
  V.ref (13 : Nat) (0 : Nat) (0 : Nat)]),
  some (Blk.row false none Cd.str s1), some (Blk.row false none Cd.str s3),
  some (Blk.row false none ((Cd.int IntKind.i64).pair ((Cd.int IntKind.i64).pair (Cd.str.pair Cd.unit))) s4),
  some (Blk.row false none ((Cd.int IntKind.i64).pair ((Cd.int IntKind.i64).pair Cd.unit)) s5),
  some (Blk.row false none Cd.str (nilT Cd.str.den)), some (Blk.row false none Cd.str (nilT Cd.str.den)),
  some
  (Blk.row false none ((Cd.int IntKind.i64).pair ((Cd.int IntKind.i64).pair (Cd.str.pair Cd.unit)))
  (nilT ((Cd.int IntKind.i64).pair ((Cd.int IntKind.i64).pair (Cd.str.pair Cd.unit))).den)),
  some
  (Blk.row false none ((Cd.int IntKind.i64).pair ((Cd.int IntKind.i64).pair Cd.unit))
  (nilT ((Cd.int IntKind.i64).pair ((Cd.int IntKind.i64).pair Cd.unit)).den))]))) : _) := by kernel_rfl
theorem ca_fun0 (s0 : Int) (m1 : Nat) (s2 : Int) (m3 m4 m5 : Nat) (n1 : Option Bool) (s1 : List (List UInt8)) (n3 : Option Bool) (s3 : List (List UInt8)) (n4 : Option Bool) (s4 : List (Int × Int × List UInt8 × Unit)) (n5 : Option Bool) (s5 : List (Int × Int × Unit)) : funE Try.prog (look [(64, .own l15StepCG)]) (look [(1, ca1E), (3, ca2E), (5, ca3E)]) Try.f62 [.agg [.i .i64 s0, .ref 0 0 m1, .i .i64 s2, .ref 1 0 m3, .ref 2 0 m4, .ref 3 0 m5]] [.row false n1 .str s1, .row false n3 .str s3, .row false n4 (.pair (.int .i64) (.pair (.int .i64) (.pair .str .unit))) s4, .row false n5 (.pair (.int .i64) (.pair (.int .i64) .unit)) s5] =
((ifT
  (decide
  ((m1 = s1.length ∧ m3 = s3.length ∧ m4 = s4.length ∧ m5 = s5.length) ∧
  s4.length ≤ (500000 : Nat) ∧ (Ses.mk s0 s1 s2 s3 s4 s5).inv ((1000000 : Nat) - s4.length)))
  (ifT
  (decide
  (((Ses.mk s0 s1 s2 s3 s4 s5).acks.it.length = (Ses.mk s0 s1 s2 s3 s4 s5).acks.it.length ∧
  (Ses.mk s0 s1 s2 s3 s4 s5).acks.ha.length = (Ses.mk s0 s1 s2 s3 s4 s5).acks.ha.length ∧
  (Ses.mk s0 s1 s2 s3 s4 s5).acks.w.length = (Ses.mk s0 s1 s2 s3 s4 s5).acks.w.length ∧
  (0 : Nat) = (0 : Nat)) ∧
  (Ses.mk s0 s1 s2 s3 s4 s5).acks.w.length ≤ (500000 : Nat) ∧
  (Ses.mk s0 s1 s2 s3 s4 s5).acks.inv ((1000000 : Nat) - (Ses.mk s0 s1 s2 s3 s4 s5).acks.w.length)))
  (some
  (V.agg
  [V.i IntKind.i64 (Ses.calmL (Ses.mk s0 s1 s2 s3 s4 s5).acks.w (Ses.mk s0 s1 s2 s3 s4 s5).acks).e,
  V.ref (4 : Nat) (0 : Nat)
  (Ses.calmL (Ses.mk s0 s1 s2 s3 s4 s5).acks.w (Ses.mk s0 s1 s2 s3 s4 s5).acks).it.length,
  V.i IntKind.i64 (Ses.calmL (Ses.mk s0 s1 s2 s3 s4 s5).acks.w (Ses.mk s0 s1 s2 s3 s4 s5).acks).b,
  V.ref (5 : Nat) (0 : Nat)
  (Ses.calmL (Ses.mk s0 s1 s2 s3 s4 s5).acks.w (Ses.mk s0 s1 s2 s3 s4 s5).acks).ha.length,
  V.ref (6 : Nat) (0 : Nat)
  (Ses.calmL (Ses.mk s0 s1 s2 s3 s4 s5).acks.w (Ses.mk s0 s1 s2 s3 s4 s5).acks).w.length,
  V.ref (7 : Nat) (0 : Nat)
  (Ses.calmL (Ses.mk s0 s1 s2 s3 s4 s5).acks.w (Ses.mk s0 s1 s2 s3 s4 s5).acks).a.length],
  [none, none, none, none,
  some
  (Blk.row false none Cd.str
  (Ses.calmL (Ses.mk s0 s1 s2 s3 s4 s5).acks.w (Ses.mk s0 s1 s2 s3 s4 s5).acks).it),
  some
  (Blk.row false none Cd.str
  (Ses.calmL (Ses.mk s0 s1 s2 s3 s4 s5).acks.w (Ses.mk s0 s1 s2 s3 s4 s5).acks).ha),
  some
  (Blk.row false none ((Cd.int IntKind.i64).pair ((Cd.int IntKind.i64).pair (Cd.str.pair Cd.unit)))
  (Ses.calmL (Ses.mk s0 s1 s2 s3 s4 s5).acks.w (Ses.mk s0 s1 s2 s3 s4 s5).acks).w),
  some
  (Blk.row false none ((Cd.int IntKind.i64).pair ((Cd.int IntKind.i64).pair Cd.unit))
  (Ses.calmL (Ses.mk s0 s1 s2 s3 s4 s5).acks.w (Ses.mk s0 s1 s2 s3 s4 s5).acks).a)])))) : _) := by kernel_rfl
theorem ca1_loop : ∀ (a : List (Int × Int × Unit)) (e : Int) (it : List (List UInt8)) (b : Int) (ha : List (List UInt8)) (w : List (Int × Int × List UInt8 × Unit)), w.length ≤ 500000 → (Ses.mk e it b ha w a).inv (1000000 - w.length) →
    Runs Try.prog (look [(64, .own l15StepCG)]) (look [(1, ca1E), (3, ca2E), (5, ca3E)]) 4 (body Try.f62 0) ca1E (([.ptr 4 0, .ptr 5 0], [none, none, none, none, some (.box [.i .i64 (Ses.mk e it b ha w a).e, .ref 6 0 (Ses.mk e it b ha w a).it.length, .i .i64 (Ses.mk e it b ha w a).b, .ref 7 0 (Ses.mk e it b ha w a).ha.length, .ref 8 0 (Ses.mk e it b ha w a).w.length, .ref 9 0 (Ses.mk e it b ha w a).a.length]), some (.box [.i .i64 0, .ref 10 0 0, .i .i64 0, .ref 11 0 0, .ref 12 0 0, .ref 13 0 0]), some (.row false none .str (Ses.mk e it b ha w a).it), some (.row false none .str (Ses.mk e it b ha w a).ha), some (.row false none (.pair (.int .i64) (.pair (.int .i64) (.pair .str .unit))) (Ses.mk e it b ha w a).w), some (.row false none (.pair (.int .i64) (.pair (.int .i64) .unit)) (Ses.mk e it b ha w a).a), some (.row false none .str []), some (.row false none .str []), some (.row false none (.pair (.int .i64) (.pair (.int .i64) (.pair .str .unit))) []), some (.row false none (.pair (.int .i64) (.pair (.int .i64) .unit)) [])])) (.exit 0) (([.ptr 4 0, .ptr 5 0], [none, none, none, none, some (.box [.i .i64 (Ses.mk e it b ha w a).acks.e, .ref 6 0 (Ses.mk e it b ha w a).acks.it.length, .i .i64 (Ses.mk e it b ha w a).acks.b, .ref 7 0 (Ses.mk e it b ha w a).acks.ha.length, .ref 8 0 (Ses.mk e it b ha w a).acks.w.length, .ref 9 0 (Ses.mk e it b ha w a).acks.a.length]), some (.box [.i .i64 0, .ref 10 0 0, .i .i64 0, .ref 11 0 0, .ref 12 0 0, .ref 13 0 0]), some (.row false none .str (Ses.mk e it b ha w a).acks.it), some (.row false none .str (Ses.mk e it b ha w a).acks.ha), some (.row false none (.pair (.int .i64) (.pair (.int .i64) (.pair .str .unit))) (Ses.mk e it b ha w a).acks.w), some (.row false none (.pair (.int .i64) (.pair (.int .i64) .unit)) (Ses.mk e it b ha w a).acks.a), some (.row false none .str []), some (.row false none .str []), some (.row false none (.pair (.int .i64) (.pair (.int .i64) (.pair .str .unit))) []), some (.row false none (.pair (.int .i64) (.pair (.int .i64) .unit)) [])]))
  | [], e, it, b, ha, w, hw, hi => by
    refine .stop _ _ _ ((ca1_round e it.length b ha.length w.length 0 it ha w []).trans ?_) (by simp)
    rw [ifB_false (by simp)]
    rfl
  | z :: a, e, it, b, ha, w, hw, hi => by
    have ih := ca1_loop a e it (if z.1 = e then (if z.2.1 > b then z.2.1 else b) else b) ha w hw (Ses.ack_inv hi)
    refine .step _ _ _ _ ((ca1_round e it.length b ha.length w.length (z :: a).length it ha w (z :: a)).trans ?_) ih
    obtain ⟨i1, i2, -, i4, i5, i6, i7⟩ := hi
    dsimp only at i1 i2 i4 i5 i6 i7
    have i8 : a.length + 1 ≤ 1000000 - w.length := i7
    rw [ifB_true (by simp), ifT_true (by simp only [true_and, decide_eq_true_eq, List.length_cons]; omega), ifB_true (Ses.ok6 (s := Ses.mk e it b ha w (z :: a)) (by simp))]
    rfl
theorem ca1_ok : ∀ d e d', ((ca1E).L d).run = some (e, d') → Runs Try.prog (look [(64, .own l15StepCG)]) (look [(1, ca1E), (3, ca2E), (5, ca3E)]) 4 (body Try.f62 0) ca1E d e d' := by
  intro d e d' h
  unfold ca1E at h
  dsimp only at h
  split at h
  · obtain ⟨hc, h'⟩ := need_some h
    obtain ⟨⟨rfl, rfl, rfl, rfl⟩, h1, h2⟩ := of_decide_eq_true hc
    have h5 := leaf_some h'
    obtain ⟨rfl, rfl⟩ := Prod.mk.inj h5
    exact ca1_loop _ _ _ _ _ _ h1 h2
  · cases h
theorem ca3_loop : ∀ (a : List (Int × Int × Unit)) (e : Int) (it : List (List UInt8)) (b : Int) (ha : List (List UInt8)) (w : List (Int × Int × List UInt8 × Unit)), w.length ≤ 500000 → (Ses.mk e it b ha w a).inv (1000000 - w.length) →
    Runs Try.prog (look [(64, .own l15StepCG)]) (look [(1, ca1E), (3, ca2E), (5, ca3E)]) 4 (body Try.f62 2) ca3E (([.ptr 4 0, .ptr 5 0], [none, none, none, none, some (.box [.i .i64 (Ses.mk e it b ha w a).e, .ref 6 0 (Ses.mk e it b ha w a).it.length, .i .i64 (Ses.mk e it b ha w a).b, .ref 7 0 (Ses.mk e it b ha w a).ha.length, .ref 8 0 (Ses.mk e it b ha w a).w.length, .ref 9 0 (Ses.mk e it b ha w a).a.length]), some (.box [.i .i64 0, .ref 10 0 0, .i .i64 0, .ref 11 0 0, .ref 12 0 0, .ref 13 0 0]), some (.row false none .str (Ses.mk e it b ha w a).it), some (.row false none .str (Ses.mk e it b ha w a).ha), some (.row false none (.pair (.int .i64) (.pair (.int .i64) (.pair .str .unit))) (Ses.mk e it b ha w a).w), some (.row false none (.pair (.int .i64) (.pair (.int .i64) .unit)) (Ses.mk e it b ha w a).a), some (.row false none .str []), some (.row false none .str []), some (.row false none (.pair (.int .i64) (.pair (.int .i64) (.pair .str .unit))) []), some (.row false none (.pair (.int .i64) (.pair (.int .i64) .unit)) [])])) (.exit 4) (([.ptr 4 0, .ptr 5 0], [none, none, none, none, some (.box [.i .i64 (Ses.mk e it b ha w a).acks.e, .ref 6 0 (Ses.mk e it b ha w a).acks.it.length, .i .i64 (Ses.mk e it b ha w a).acks.b, .ref 7 0 (Ses.mk e it b ha w a).acks.ha.length, .ref 8 0 (Ses.mk e it b ha w a).acks.w.length, .ref 9 0 (Ses.mk e it b ha w a).acks.a.length]), some (.box [.i .i64 0, .ref 10 0 0, .i .i64 0, .ref 11 0 0, .ref 12 0 0, .ref 13 0 0]), some (.row false none .str (Ses.mk e it b ha w a).acks.it), some (.row false none .str (Ses.mk e it b ha w a).acks.ha), some (.row false none (.pair (.int .i64) (.pair (.int .i64) (.pair .str .unit))) (Ses.mk e it b ha w a).acks.w), some (.row false none (.pair (.int .i64) (.pair (.int .i64) .unit)) (Ses.mk e it b ha w a).acks.a), some (.row false none .str []), some (.row false none .str []), some (.row false none (.pair (.int .i64) (.pair (.int .i64) (.pair .str .unit))) []), some (.row false none (.pair (.int .i64) (.pair (.int .i64) .unit)) [])]))
  | [], e, it, b, ha, w, hw, hi => by
    refine .stop _ _ _ ((ca3_round e it.length b ha.length w.length 0 it ha w []).trans ?_) (by simp)
    rw [ifB_false (by simp)]
    rfl
  | z :: a, e, it, b, ha, w, hw, hi => by
    have ih := ca3_loop a e it (if z.1 = e then (if z.2.1 > b then z.2.1 else b) else b) ha w hw (Ses.ack_inv hi)
    refine .step _ _ _ _ ((ca3_round e it.length b ha.length w.length (z :: a).length it ha w (z :: a)).trans ?_) ih
    obtain ⟨i1, i2, -, i4, i5, i6, i7⟩ := hi
    dsimp only at i1 i2 i4 i5 i6 i7
    have i8 : a.length + 1 ≤ 1000000 - w.length := i7
    rw [ifB_true (by simp), ifT_true (by simp only [true_and, decide_eq_true_eq, List.length_cons]; omega), ifB_true (Ses.ok6 (s := Ses.mk e it b ha w (z :: a)) (by simp))]
    rfl
theorem ca3_ok : ∀ d e d', ((ca3E).L d).run = some (e, d') → Runs Try.prog (look [(64, .own l15StepCG)]) (look [(1, ca1E), (3, ca2E), (5, ca3E)]) 4 (body Try.f62 2) ca3E d e d' := by
  intro d e d' h
  unfold ca3E at h
  dsimp only at h
  split at h
  · obtain ⟨hc, h'⟩ := need_some h
    obtain ⟨⟨rfl, rfl, rfl, rfl⟩, h1, h2⟩ := of_decide_eq_true hc
    have h5 := leaf_some h'
    obtain ⟨rfl, rfl⟩ := Prod.mk.inj h5
    exact ca3_loop _ _ _ _ _ _ h1 h2
  · cases h
theorem ca2_loop : ∀ (w : List (Int × Int × List UInt8 × Unit)) (e : Int) (it : List (List UInt8)) (b : Int) (ha : List (List UInt8)) (a : List (Int × Int × Unit)), w.length ≤ 500000 → (Ses.mk e it b ha w a).inv (1000000 - w.length) →
    Runs Try.prog (look [(64, .own l15StepCG)]) (look [(1, ca1E), (3, ca2E), (5, ca3E)]) 4 (body Try.f62 1) ca2E (([.ptr 4 0, .ptr 5 0], [none, none, none, none, some (.box [.i .i64 (Ses.mk e it b ha w a).e, .ref 6 0 (Ses.mk e it b ha w a).it.length, .i .i64 (Ses.mk e it b ha w a).b, .ref 7 0 (Ses.mk e it b ha w a).ha.length, .ref 8 0 (Ses.mk e it b ha w a).w.length, .ref 9 0 (Ses.mk e it b ha w a).a.length]), some (.box [.i .i64 0, .ref 10 0 0, .i .i64 0, .ref 11 0 0, .ref 12 0 0, .ref 13 0 0]), some (.row false none .str (Ses.mk e it b ha w a).it), some (.row false none .str (Ses.mk e it b ha w a).ha), some (.row false none (.pair (.int .i64) (.pair (.int .i64) (.pair .str .unit))) (Ses.mk e it b ha w a).w), some (.row false none (.pair (.int .i64) (.pair (.int .i64) .unit)) (Ses.mk e it b ha w a).a), some (.row false none .str []), some (.row false none .str []), some (.row false none (.pair (.int .i64) (.pair (.int .i64) (.pair .str .unit))) []), some (.row false none (.pair (.int .i64) (.pair (.int .i64) .unit)) [])])) (.exit 2) (([.ptr 4 0, .ptr 5 0], [none, none, none, none, some (.box [.i .i64 (Ses.calmL w (Ses.mk e it b ha w a)).e, .ref 6 0 (Ses.calmL w (Ses.mk e it b ha w a)).it.length, .i .i64 (Ses.calmL w (Ses.mk e it b ha w a)).b, .ref 7 0 (Ses.calmL w (Ses.mk e it b ha w a)).ha.length, .ref 8 0 (Ses.calmL w (Ses.mk e it b ha w a)).w.length, .ref 9 0 (Ses.calmL w (Ses.mk e it b ha w a)).a.length]), some (.box [.i .i64 0, .ref 10 0 0, .i .i64 0, .ref 11 0 0, .ref 12 0 0, .ref 13 0 0]), some (.row false none .str (Ses.calmL w (Ses.mk e it b ha w a)).it), some (.row false none .str (Ses.calmL w (Ses.mk e it b ha w a)).ha), some (.row false none (.pair (.int .i64) (.pair (.int .i64) (.pair .str .unit))) (Ses.calmL w (Ses.mk e it b ha w a)).w), some (.row false none (.pair (.int .i64) (.pair (.int .i64) .unit)) (Ses.calmL w (Ses.mk e it b ha w a)).a), some (.row false none .str []), some (.row false none .str []), some (.row false none (.pair (.int .i64) (.pair (.int .i64) (.pair .str .unit))) []), some (.row false none (.pair (.int .i64) (.pair (.int .i64) .unit)) [])]))
  | [], e, it, b, ha, a, hw, hi => by
    refine .stop _ _ _ ((ca2_round e it.length b ha.length 0 a.length it ha [] a).trans ?_) (by simp)
    rw [ifB_false (by simp)]
    rfl
  | p :: w, e, it, b, ha, a, hw, hi => by
    have hl : (p :: w).length = w.length + 1 := rfl
    have hf := Ses.come_fix (s := Ses.mk e it b ha w a) p
    have hd : (Ses.mk e it b ha w a).inv (1000000 - (p :: w).length) := by
      obtain ⟨i1, i2, i3, i4, i5, i6, i7⟩ := hi
      exact ⟨i1, i2, i3, i4, i5, by simp at i6 ⊢; omega, i7⟩
    have hc : ((Ses.mk e it b ha w a).come p).inv (1000000 - w.length) := by
      have := Ses.come_inv hd p
      rwa [show 1000000 - (p :: w).length + 1 = 1000000 - w.length by omega] at this
    have ha2 := Ses.acks_inv hc
    have hw2 : ((Ses.mk e it b ha w a).come p).acks.w = w := hf.1
    have ih := ca2_loop w ((Ses.mk e it b ha w a).come p).acks.e ((Ses.mk e it b ha w a).come p).acks.it ((Ses.mk e it b ha w a).come p).acks.b ((Ses.mk e it b ha w a).come p).acks.ha ((Ses.mk e it b ha w a).come p).acks.a (by omega) (by
      have := ha2
      obtain ⟨i1, i2, i3, i4, i5, i6, i7⟩ := this
      exact ⟨i1, i2, i3, i4, i5, by dsimp only; omega, i7⟩)
    have e1 := Ses.eta_w _ w hw2
    rw [e1] at ih
    refine .step _ _ _ _ ((ca2_round e it.length b ha.length (p :: w).length a.length it ha (p :: w) a).trans ?_) ih
    obtain ⟨i1, i2, -, i4, i5, i6, i7⟩ := hi
    dsimp only at i1 i2 i4 i5 i6 i7
    rw [ifB_true (by simp), ifT_true (by simp only [true_and, decide_eq_true_eq]; omega), ifB_true (Ses.ok3 (s := Ses.mk e it b ha (p :: w) a) (by simp))]
    rw [Ses.next3]
    have hc2 : ((Ses.mk e it b ha w a).come p).inv (1000000 - ((Ses.mk e it b ha w a).come p).w.length) := by rw [hf.1]; exact hc
    rw [ifT_true (decide_eq_true ⟨⟨by first | trivial | rfl, by first | trivial | rfl, by first | trivial | rfl, by first | trivial | rfl⟩, by rw [hf.1]; dsimp only; omega, hc2⟩)]
    rfl
theorem ca2_ok : ∀ d e d', ((ca2E).L d).run = some (e, d') → Runs Try.prog (look [(64, .own l15StepCG)]) (look [(1, ca1E), (3, ca2E), (5, ca3E)]) 4 (body Try.f62 1) ca2E d e d' := by
  intro d e d' h
  unfold ca2E at h
  dsimp only at h
  split at h
  · obtain ⟨hc, h'⟩ := need_some h
    obtain ⟨⟨rfl, rfl, rfl, rfl⟩, h1, h2⟩ := of_decide_eq_true hc
    have h5 := leaf_some h'
    obtain ⟨rfl, rfl⟩ := Prod.mk.inj h5
    exact ca2_loop _ _ _ _ _ _ h1 h2
  · cases h
theorem ca_loops : LoopsOk Try.prog (look [(64, .own l15StepCG)]) (look [(1, ca1E), (3, ca2E), (5, ca3E)]) 4 (Try.f62.body.getD .skip) :=
  LoopsI.loops (.cons (a := body Try.f62 0) (by kernel_rfl) ca1_ok (.cons (a := body Try.f62 1) (by kernel_rfl) ca2_ok (.cons (a := body Try.f62 2) (by kernel_rfl) ca3_ok .nil))) (by kernel_rfl)
end Go.Proofs.Ytjghbihlgfjebaa.Den
