/- What functions of the program do, by the machine: Calm2. -/
import Derived.Test.YtjghbihlgfjebaaDCalmO
import Derived.KernelRfl
import Derived.Test.YtjghbihlgfjebaaRows
namespace Go.Proofs.Ytjghbihlgfjebaa.Den
open Go.Proofs
set_option maxRecDepth 100000
def st1E : LoopEnt := ⟨9, [0], [0], [], fun
  | ([.ptr 0 0], [some (.box [.ptr 1 0]), some (.box [.i .i64 s0, .ref 6 0 m1, .i .i64 s2, .ref 7 0 m3, .ref 8 0 m4, .ref 9 0 m5]), none, none, none, none, some (.row false none .str s1), some (.row false none .str s3), some (.row false none (.pair (.int .i64) (.pair (.int .i64) (.pair .str .unit))) s4), some (.row false none (.pair (.int .i64) (.pair (.int .i64) .unit)) s5)]) => .need (decide ((m1 = s1.length ∧ m3 = s3.length ∧ m4 = s4.length ∧ m5 = s5.length) ∧ s4.length ≤ 500000 ∧ (Ses.mk s0 s1 s2 s3 s4 s5).inv (1000000 - s4.length))) (.leaf (.exit 0, ([.ptr 0 0], [some (.box [.ptr 1 0]), some (.box [.i .i64 ((Ses.mk s0 s1 s2 s3 s4 s5).acks).e, .ref 6 0 ((Ses.mk s0 s1 s2 s3 s4 s5).acks).it.length, .i .i64 ((Ses.mk s0 s1 s2 s3 s4 s5).acks).b, .ref 7 0 ((Ses.mk s0 s1 s2 s3 s4 s5).acks).ha.length, .ref 8 0 ((Ses.mk s0 s1 s2 s3 s4 s5).acks).w.length, .ref 9 0 ((Ses.mk s0 s1 s2 s3 s4 s5).acks).a.length]), none, none, none, none, some (.row false none .str ((Ses.mk s0 s1 s2 s3 s4 s5).acks).it), some (.row false none .str ((Ses.mk s0 s1 s2 s3 s4 s5).acks).ha), some (.row false none (.pair (.int .i64) (.pair (.int .i64) (.pair .str .unit))) ((Ses.mk s0 s1 s2 s3 s4 s5).acks).w), some (.row false none (.pair (.int .i64) (.pair (.int .i64) .unit)) ((Ses.mk s0 s1 s2 s3 s4 s5).acks).a)])))
  | _ => .no⟩
def settle1G : List V → List Blk → Br (V × List (Option Blk))
  | [.ptr 0 0], [.box [.ptr 1 0], .box [.i .i64 s0, .ref 2 0 m1, .i .i64 s2, .ref 3 0 m3, .ref 4 0 m4, .ref 5 0 m5], .row false n1 .str s1, .row false n3 .str s3, .row false n4 (.pair (.int .i64) (.pair (.int .i64) (.pair .str .unit))) s4, .row false n5 (.pair (.int .i64) (.pair (.int .i64) .unit)) s5] => .need (decide ((m1 = s1.length ∧ m3 = s3.length ∧ m4 = s4.length ∧ m5 = s5.length) ∧ s4.length ≤ 500000 ∧ (Ses.mk s0 s1 s2 s3 s4 s5).inv (1000000 - s4.length))) (.leaf (.tup [], [some (.box [.ptr 1 0]), some (.box [.i .i64 ((Ses.mk s0 s1 s2 s3 s4 s5).acks).e, .ref 6 0 ((Ses.mk s0 s1 s2 s3 s4 s5).acks).it.length, .i .i64 ((Ses.mk s0 s1 s2 s3 s4 s5).acks).b, .ref 7 0 ((Ses.mk s0 s1 s2 s3 s4 s5).acks).ha.length, .ref 8 0 ((Ses.mk s0 s1 s2 s3 s4 s5).acks).w.length, .ref 9 0 ((Ses.mk s0 s1 s2 s3 s4 s5).acks).a.length]), none, none, none, none, some (.row false none .str ((Ses.mk s0 s1 s2 s3 s4 s5).acks).it), some (.row false none .str ((Ses.mk s0 s1 s2 s3 s4 s5).acks).ha), some (.row false none (.pair (.int .i64) (.pair (.int .i64) (.pair .str .unit))) ((Ses.mk s0 s1 s2 s3 s4 s5).acks).w), some (.row false none (.pair (.int .i64) (.pair (.int .i64) .unit)) ((Ses.mk s0 s1 s2 s3 s4 s5).acks).a)]))
  | _, _ => .no
theorem st1_round (s0 : Int) (m1 : Nat) (s2 : Int) (m3 m4 m5 : Nat) (s1 s3 : List (List UInt8)) (s4 : List (Int × Int × List UInt8 × Unit)) (s5 : List (Int × Int × Unit)) : roundK Try.prog (look [(131, .own oAckCG)]) (look [(0, st1E)]) 6 (body Try.f130 0) st1E ([.ptr 0 0], [some (.box [.ptr 1 0]), some (.box [.i .i64 s0, .ref 6 0 m1, .i .i64 s2, .ref 7 0 m3, .ref 8 0 m4, .ref 9 0 m5]), none, none, none, none, some (.row false none .str s1), some (.row false none .str s3), some (.row false none (.pair (.int .i64) (.pair (.int .i64) (.pair .str .unit))) s4), some (.row false none (.pair (.int .i64) (.pair (.int .i64) .unit)) s5)]) =
((ifB (decide ((↑m5 : Int) > (0 : Int)))
  (ifT
  (decide
  (m1 = s1.length ∧
  m3 = s3.length ∧
  m4 = s4.length ∧
  m5 = s5.length ∧
  ((0 : Int) ≤ s2 ∧ s2 ≤ (1000000000 : Int)) ∧
  ((0 : Int) ≤ s0 ∧ s0 ≤ (1000000000 : Int)) ∧
  s1.length ≤ (1000000000 : Nat) ∧
  s3.length ≤ (1000000000 : Nat) ∧
  s4.length ≤ (1000000000 : Nat) ∧
  s5.length ≤ (1000000000 : Nat) ∧ (0 : Int) ≤ (0 : Int) ∧ (0 : Int) < (↑s5.length : Int)))
  (some
  (Ex.normal, [V.ptr (0 : Nat) (0 : Nat)],
  [some (Blk.box [V.ptr (1 : Nat) (0 : Nat)]),
  some
  (Blk.box
  [V.i IntKind.i64 ((Ses.mk s0 s1 s2 s3 s4 s5).next (6 : Int) (0 : Int) (nilT UInt8)).e,
  V.ref (6 : Nat) (0 : Nat) ((Ses.mk s0 s1 s2 s3 s4 s5).next (6 : Int) (0 : Int) (nilT UInt8)).it.length,
  V.i IntKind.i64 ((Ses.mk s0 s1 s2 s3 s4 s5).next (6 : Int) (0 : Int) (nilT UInt8)).b,
  V.ref (7 : Nat) (0 : Nat) ((Ses.mk s0 s1 s2 s3 s4 s5).next (6 : Int) (0 : Int) (nilT UInt8)).ha.length,
  V.ref (8 : Nat) (0 : Nat) ((Ses.mk s0 s1 s2 s3 s4 s5).next (6 : Int) (0 : Int) (nilT UInt8)).w.length,
  V.ref (9 : Nat) (0 : Nat) ((Ses.mk s0 s1 s2 s3 s4 s5).next (6 : Int) (0 : Int) (nilT UInt8)).a.length]),
  none, none, none, none,
  some (Blk.row false none Cd.str ((Ses.mk s0 s1 s2 s3 s4 s5).next (6 : Int) (0 : Int) (nilT UInt8)).it),
  some (Blk.row false none Cd.str ((Ses.mk s0 s1 s2 s3 s4 s5).next (6 : Int) (0 : Int) (nilT UInt8)).ha),
  some
  (Blk.row false none ((Cd.int IntKind.i64).pair ((Cd.int IntKind.i64).pair (Cd.str.pair Cd.unit)))
  ((Ses.mk s0 s1 s2 s3 s4 s5).next (6 : Int) (0 : Int) (nilT UInt8)).w),
  some
  (Blk.row false none ((Cd.int IntKind.i64).pair ((Cd.int IntKind.i64).pair Cd.unit))
  ((Ses.mk s0 s1 s2 s3 s4 s5).next (6 : Int) (0 : Int) (nilT UInt8)).a)])))
  (some
  (Ex.exit (0 : Nat), [V.ptr (0 : Nat) (0 : Nat)],
  [some (Blk.box [V.ptr (1 : Nat) (0 : Nat)]),
  some
  (Blk.box
  [V.i IntKind.i64 s0, V.ref (6 : Nat) (0 : Nat) m1, V.i IntKind.i64 s2, V.ref (7 : Nat) (0 : Nat) m3,
  V.ref (8 : Nat) (0 : Nat) m4, V.ref (9 : Nat) (0 : Nat) m5]),
  none, none, none, none, some (Blk.row false none Cd.str s1), some (Blk.row false none Cd.str s3),
  some (Blk.row false none ((Cd.int IntKind.i64).pair ((Cd.int IntKind.i64).pair (Cd.str.pair Cd.unit))) s4),
  some (Blk.row false none ((Cd.int IntKind.i64).pair ((Cd.int IntKind.i64).pair Cd.unit)) s5)]))) : _) := by kernel_rfl
theorem st1_fun0 (s0 : Int) (m1 : Nat) (s2 : Int) (m3 m4 m5 : Nat) (n1 : Option Bool) (s1 : List (List UInt8)) (n3 : Option Bool) (s3 : List (List UInt8)) (n4 : Option Bool) (s4 : List (Int × Int × List UInt8 × Unit)) (n5 : Option Bool) (s5 : List (Int × Int × Unit)) : funE Try.prog (look [(131, .own oAckCG)]) (look [(0, st1E)]) Try.f130 [.ptr 0 0] [.box [.ptr 1 0], .box [.i .i64 s0, .ref 2 0 m1, .i .i64 s2, .ref 3 0 m3, .ref 4 0 m4, .ref 5 0 m5], .row false n1 .str s1, .row false n3 .str s3, .row false n4 (.pair (.int .i64) (.pair (.int .i64) (.pair .str .unit))) s4, .row false n5 (.pair (.int .i64) (.pair (.int .i64) .unit)) s5] =
((ifT
  (decide
  ((m1 = s1.length ∧ m3 = s3.length ∧ m4 = s4.length ∧ m5 = s5.length) ∧
  s4.length ≤ (500000 : Nat) ∧ (Ses.mk s0 s1 s2 s3 s4 s5).inv ((1000000 : Nat) - s4.length)))
  (some
  (V.tup [],
  [some (Blk.box [V.ptr (1 : Nat) (0 : Nat)]),
  some
  (Blk.box
  [V.i IntKind.i64 (Ses.mk s0 s1 s2 s3 s4 s5).acks.e,
  V.ref (6 : Nat) (0 : Nat) (Ses.mk s0 s1 s2 s3 s4 s5).acks.it.length,
  V.i IntKind.i64 (Ses.mk s0 s1 s2 s3 s4 s5).acks.b,
  V.ref (7 : Nat) (0 : Nat) (Ses.mk s0 s1 s2 s3 s4 s5).acks.ha.length,
  V.ref (8 : Nat) (0 : Nat) (Ses.mk s0 s1 s2 s3 s4 s5).acks.w.length, V.ref (9 : Nat) (0 : Nat) (0 : Nat)]),
  none, none, none, none, some (Blk.row false none Cd.str (Ses.mk s0 s1 s2 s3 s4 s5).acks.it),
  some (Blk.row false none Cd.str (Ses.mk s0 s1 s2 s3 s4 s5).acks.ha),
  some
  (Blk.row false none ((Cd.int IntKind.i64).pair ((Cd.int IntKind.i64).pair (Cd.str.pair Cd.unit)))
  (Ses.mk s0 s1 s2 s3 s4 s5).acks.w),
  some
  (Blk.row false none ((Cd.int IntKind.i64).pair ((Cd.int IntKind.i64).pair Cd.unit))
  (Ses.mk s0 s1 s2 s3 s4 s5).acks.a)]))) : _) := by kernel_rfl
theorem st1_loop : ∀ (a : List (Int × Int × Unit)) (e : Int) (it : List (List UInt8)) (b : Int) (ha : List (List UInt8)) (w : List (Int × Int × List UInt8 × Unit)), w.length ≤ 500000 → (Ses.mk e it b ha w a).inv (1000000 - w.length) →
    Runs Try.prog (look [(131, .own oAckCG)]) (look [(0, st1E)]) 6 (body Try.f130 0) st1E (([.ptr 0 0], [some (.box [.ptr 1 0]), some (.box [.i .i64 (Ses.mk e it b ha w a).e, .ref 6 0 (Ses.mk e it b ha w a).it.length, .i .i64 (Ses.mk e it b ha w a).b, .ref 7 0 (Ses.mk e it b ha w a).ha.length, .ref 8 0 (Ses.mk e it b ha w a).w.length, .ref 9 0 (Ses.mk e it b ha w a).a.length]), none, none, none, none, some (.row false none .str (Ses.mk e it b ha w a).it), some (.row false none .str (Ses.mk e it b ha w a).ha), some (.row false none (.pair (.int .i64) (.pair (.int .i64) (.pair .str .unit))) (Ses.mk e it b ha w a).w), some (.row false none (.pair (.int .i64) (.pair (.int .i64) .unit)) (Ses.mk e it b ha w a).a)])) (.exit 0) (([.ptr 0 0], [some (.box [.ptr 1 0]), some (.box [.i .i64 (Ses.mk e it b ha w a).acks.e, .ref 6 0 (Ses.mk e it b ha w a).acks.it.length, .i .i64 (Ses.mk e it b ha w a).acks.b, .ref 7 0 (Ses.mk e it b ha w a).acks.ha.length, .ref 8 0 (Ses.mk e it b ha w a).acks.w.length, .ref 9 0 (Ses.mk e it b ha w a).acks.a.length]), none, none, none, none, some (.row false none .str (Ses.mk e it b ha w a).acks.it), some (.row false none .str (Ses.mk e it b ha w a).acks.ha), some (.row false none (.pair (.int .i64) (.pair (.int .i64) (.pair .str .unit))) (Ses.mk e it b ha w a).acks.w), some (.row false none (.pair (.int .i64) (.pair (.int .i64) .unit)) (Ses.mk e it b ha w a).acks.a)]))
  | [], e, it, b, ha, w, hw, hi => by
    refine .stop _ _ _ ((st1_round e it.length b ha.length w.length 0 it ha w []).trans ?_) (by simp)
    rw [ifB_false (by simp)]
    rfl
  | z :: a, e, it, b, ha, w, hw, hi => by
    have ih := st1_loop a e it (if z.1 = e then (if z.2.1 > b then z.2.1 else b) else b) ha w hw (Ses.ack_inv hi)
    refine .step _ _ _ _ ((st1_round e it.length b ha.length w.length (z :: a).length it ha w (z :: a)).trans ?_) ih
    obtain ⟨i1, i2, -, i4, i5, i6, i7⟩ := hi
    dsimp only at i1 i2 i4 i5 i6 i7
    have i8 : a.length + 1 ≤ 1000000 - w.length := i7
    rw [ifB_true (by simp), ifT_true (by simp only [true_and, decide_eq_true_eq, List.length_cons]; omega)]
    rfl
theorem st1_ok : ∀ d e d', ((st1E).L d).run = some (e, d') → Runs Try.prog (look [(131, .own oAckCG)]) (look [(0, st1E)]) 6 (body Try.f130 0) st1E d e d' := by
  intro d e d' h
  unfold st1E at h
  dsimp only at h
  split at h
  · obtain ⟨hc, h'⟩ := need_some h
    obtain ⟨⟨rfl, rfl, rfl, rfl⟩, h1, h2⟩ := of_decide_eq_true hc
    have h5 := leaf_some h'
    obtain ⟨rfl, rfl⟩ := Prod.mk.inj h5
    exact st1_loop _ _ _ _ _ _ h1 h2
  · cases h
theorem settle1_fun (s0 : Int) (m1 : Nat) (s2 : Int) (m3 m4 m5 : Nat) (n1 : Option Bool) (s1 : List (List UInt8)) (n3 : Option Bool) (s3 : List (List UInt8)) (n4 : Option Bool) (s4 : List (Int × Int × List UInt8 × Unit)) (n5 : Option Bool) (s5 : List (Int × Int × Unit)) (hc : ((m1 = s1.length ∧ m3 = s3.length ∧ m4 = s4.length ∧ m5 = s5.length) ∧ s4.length ≤ 500000 ∧ (Ses.mk s0 s1 s2 s3 s4 s5).inv (1000000 - s4.length))) : funE Try.prog (look [(131, .own oAckCG)]) (look [(0, st1E)]) Try.f130 [.ptr 0 0] [.box [.ptr 1 0], .box [.i .i64 s0, .ref 2 0 m1, .i .i64 s2, .ref 3 0 m3, .ref 4 0 m4, .ref 5 0 m5], .row false n1 .str s1, .row false n3 .str s3, .row false n4 (.pair (.int .i64) (.pair (.int .i64) (.pair .str .unit))) s4, .row false n5 (.pair (.int .i64) (.pair (.int .i64) .unit)) s5] = (.leaf (.tup [], [some (.box [.ptr 1 0]), some (.box [.i .i64 ((Ses.mk s0 s1 s2 s3 s4 s5).acks).e, .ref 6 0 ((Ses.mk s0 s1 s2 s3 s4 s5).acks).it.length, .i .i64 ((Ses.mk s0 s1 s2 s3 s4 s5).acks).b, .ref 7 0 ((Ses.mk s0 s1 s2 s3 s4 s5).acks).ha.length, .ref 8 0 ((Ses.mk s0 s1 s2 s3 s4 s5).acks).w.length, .ref 9 0 ((Ses.mk s0 s1 s2 s3 s4 s5).acks).a.length]), none, none, none, none, some (.row false none .str ((Ses.mk s0 s1 s2 s3 s4 s5).acks).it), some (.row false none .str ((Ses.mk s0 s1 s2 s3 s4 s5).acks).ha), some (.row false none (.pair (.int .i64) (.pair (.int .i64) (.pair .str .unit))) ((Ses.mk s0 s1 s2 s3 s4 s5).acks).w), some (.row false none (.pair (.int .i64) (.pair (.int .i64) .unit)) ((Ses.mk s0 s1 s2 s3 s4 s5).acks).a)]) : Br (V × List (Option Blk))).run := by
  rw [st1_fun0]
  obtain ⟨⟨rfl, rfl, rfl, rfl⟩, h1, h2⟩ := hc
  rw [ifT_true (decide_eq_true ⟨⟨by first | trivial | rfl, by first | trivial | rfl, by first | trivial | rfl, by first | trivial | rfl⟩, h1, h2⟩)]
  rfl
theorem st1_loops : LoopsOk Try.prog (look [(131, .own oAckCG)]) (look [(0, st1E)]) 6 (Try.f130.body.getD .skip) := LoopsI.loops (.cons (a := body Try.f130 0) (by kernel_rfl) st1_ok .nil) (by kernel_rfl)
theorem settle1 : Contract Try.prog 130 (Ent.own settle1G).F := by
  refine fun_contractE (KnowsL.cons (enters_fn Try.func131 (by kernel_rfl) (by kernel_rfl)) oAckC KnowsL.nil).knows (Λ := (look [(0, st1E)])) Try.func130 (c := Try.f130.body.getD .skip) (by kernel_rfl) fun vs bs r h => ?_
  unfold Ent.F settle1G at h
  dsimp only at h
  split at h
  · rename_i s0 m1 s2 m3 m4 m5 n1 s1 n3 s3 n4 s4 n5 s5
    obtain ⟨hc, h⟩ := need_some h
    exact ⟨st1_loops, (settle1_fun s0 m1 s2 m3 m4 m5 n1 s1 n3 s3 n4 s4 n5 s5 (of_decide_eq_true hc)).trans h⟩
  · cases h
end Go.Proofs.Ytjghbihlgfjebaa.Den
