/- What functions of the program do, by the machine: Calm4. -/
import Derived.Test.YtjghbihlgfjebaaDCalm3
import Derived.KernelRfl
import Derived.Test.YtjghbihlgfjebaaRows
namespace Go.Proofs.Ytjghbihlgfjebaa.Den
open Go.Proofs
set_option maxRecDepth 100000
def st2E : LoopEnt := ⟨16, [1,2], [], [], fun
  | ([.ptr 5 0, .fn 130 [] [.ptr 5 0]], [some (.box [.i .i64 s0, .ref 6 0 m1, .i .i64 s2, .ref 7 0 m3, .ref 8 0 m4, .ref 9 0 m5]), none, none, none, none, some (.box [.ptr 0 0]), some (.row false none .str s1), some (.row false none .str s3), some (.row false none (.pair (.int .i64) (.pair (.int .i64) (.pair .str .unit))) s4), some (.row false none (.pair (.int .i64) (.pair (.int .i64) .unit)) s5)]) => .need (decide ((m1 = s1.length ∧ m3 = s3.length ∧ m4 = s4.length ∧ m5 = s5.length) ∧ s4.length ≤ 500000 ∧ (Ses.mk s0 s1 s2 s3 s4 s5).inv (1000000 - s4.length))) (.leaf (.exit 0, ([], [some (.box [.i .i64 (Ses.calmL s4 (Ses.mk s0 s1 s2 s3 s4 s5)).e, .ref 5 0 (Ses.calmL s4 (Ses.mk s0 s1 s2 s3 s4 s5)).it.length, .i .i64 (Ses.calmL s4 (Ses.mk s0 s1 s2 s3 s4 s5)).b, .ref 6 0 (Ses.calmL s4 (Ses.mk s0 s1 s2 s3 s4 s5)).ha.length, .ref 7 0 (Ses.calmL s4 (Ses.mk s0 s1 s2 s3 s4 s5)).w.length, .ref 8 0 (Ses.calmL s4 (Ses.mk s0 s1 s2 s3 s4 s5)).a.length]), none, none, none, none, some (.row false none .str (Ses.calmL s4 (Ses.mk s0 s1 s2 s3 s4 s5)).it), some (.row false none .str (Ses.calmL s4 (Ses.mk s0 s1 s2 s3 s4 s5)).ha), some (.row false none (.pair (.int .i64) (.pair (.int .i64) (.pair .str .unit))) (Ses.calmL s4 (Ses.mk s0 s1 s2 s3 s4 s5)).w), some (.row false none (.pair (.int .i64) (.pair (.int .i64) .unit)) (Ses.calmL s4 (Ses.mk s0 s1 s2 s3 s4 s5)).a)])))
  | _ => .no⟩
def settleG : List V → List Blk → Br (V × List (Option Blk))
  | [.ptr 0 0], [.box [.i .i64 s0, .ref 1 0 m1, .i .i64 s2, .ref 2 0 m3, .ref 3 0 m4, .ref 4 0 m5], .row false n1 .str s1, .row false n3 .str s3, .row false n4 (.pair (.int .i64) (.pair (.int .i64) (.pair .str .unit))) s4, .row false n5 (.pair (.int .i64) (.pair (.int .i64) .unit)) s5] => .need (decide ((m1 = s1.length ∧ m3 = s3.length ∧ m4 = s4.length ∧ m5 = s5.length) ∧ s4.length ≤ 500000 ∧ (Ses.mk s0 s1 s2 s3 s4 s5).inv (1000000 - s4.length))) (.leaf (.tup [], [some (.box [.i .i64 ((Ses.mk s0 s1 s2 s3 s4 s5).calm).e, .ref 5 0 ((Ses.mk s0 s1 s2 s3 s4 s5).calm).it.length, .i .i64 ((Ses.mk s0 s1 s2 s3 s4 s5).calm).b, .ref 6 0 ((Ses.mk s0 s1 s2 s3 s4 s5).calm).ha.length, .ref 7 0 ((Ses.mk s0 s1 s2 s3 s4 s5).calm).w.length, .ref 8 0 ((Ses.mk s0 s1 s2 s3 s4 s5).calm).a.length]), none, none, none, none, some (.row false none .str ((Ses.mk s0 s1 s2 s3 s4 s5).calm).it), some (.row false none .str ((Ses.mk s0 s1 s2 s3 s4 s5).calm).ha), some (.row false none (.pair (.int .i64) (.pair (.int .i64) (.pair .str .unit))) ((Ses.mk s0 s1 s2 s3 s4 s5).calm).w), some (.row false none (.pair (.int .i64) (.pair (.int .i64) .unit)) ((Ses.mk s0 s1 s2 s3 s4 s5).calm).a)]))
  | _, _ => .no
theorem st2_round (s0 : Int) (m1 : Nat) (s2 : Int) (m3 m4 m5 : Nat) (s1 s3 : List (List UInt8)) (s4 : List (Int × Int × List UInt8 × Unit)) (s5 : List (Int × Int × Unit)) : roundK Try.prog (look [(130, .own settle1G), (132, .own oTakeCG)]) (look [(3, st2E)]) 5 (body Try.f69 0) st2E ([.ptr 5 0, .fn 130 [] [.ptr 5 0]], [some (.box [.i .i64 s0, .ref 6 0 m1, .i .i64 s2, .ref 7 0 m3, .ref 8 0 m4, .ref 9 0 m5]), none, none, none, none, some (.box [.ptr 0 0]), some (.row false none .str s1), some (.row false none .str s3), some (.row false none (.pair (.int .i64) (.pair (.int .i64) (.pair .str .unit))) s4), some (.row false none (.pair (.int .i64) (.pair (.int .i64) .unit)) s5)]) =
    ((ifB (decide ((↑m4 : Int) > (0 : Int)))
  (ifT
  (decide
  (m1 = s1.length ∧
  m3 = s3.length ∧
  m4 = s4.length ∧
  m5 = s5.length ∧
  ((0 : Int) ≤ s2 ∧ s2 ≤ (1000000000 : Int)) ∧
  ((0 : Int) ≤ s0 ∧ s0 ≤ (1000000000 : Int)) ∧
  s1.length ≤ (1000000000 : Nat) ∧
  s3.length ≤ (1000000000 : Nat) ∧
  s4.length ≤ (1000000000 : Nat) ∧
  s5.length ≤ (1000000000 : Nat) ∧ (0 : Int) ≤ (0 : Int) ∧ (0 : Int) < (↑s4.length : Int)))
  (ifT
  (decide
  ((((Ses.mk s0 s1 s2 s3 s4 s5).next (3 : Int) (0 : Int) (nilT UInt8)).it.length =
  ((Ses.mk s0 s1 s2 s3 s4 s5).next (3 : Int) (0 : Int) (nilT UInt8)).it.length ∧
  ((Ses.mk s0 s1 s2 s3 s4 s5).next (3 : Int) (0 : Int) (nilT UInt8)).ha.length =
  ((Ses.mk s0 s1 s2 s3 s4 s5).next (3 : Int) (0 : Int) (nilT UInt8)).ha.length ∧
  ((Ses.mk s0 s1 s2 s3 s4 s5).next (3 : Int) (0 : Int) (nilT UInt8)).w.length =
  ((Ses.mk s0 s1 s2 s3 s4 s5).next (3 : Int) (0 : Int) (nilT UInt8)).w.length ∧
  ((Ses.mk s0 s1 s2 s3 s4 s5).next (3 : Int) (0 : Int) (nilT UInt8)).a.length =
  ((Ses.mk s0 s1 s2 s3 s4 s5).next (3 : Int) (0 : Int) (nilT UInt8)).a.length) ∧
  ((Ses.mk s0 s1 s2 s3 s4 s5).next (3 : Int) (0 : Int) (nilT UInt8)).w.length ≤ (500000 : Nat) ∧
  ((Ses.mk s0 s1 s2 s3 s4 s5).next (3 : Int) (0 : Int) (nilT UInt8)).inv
  ((1000000 : Nat) - ((Ses.mk s0 s1 s2 s3 s4 s5).next (3 : Int) (0 : Int) (nilT UInt8)).w.length)))
  (some
  (Ex.normal, [V.ptr (5 : Nat) (0 : Nat), V.fn 130 [] [V.ptr (5 : Nat) (0 : Nat)]],
  [some
  (Blk.box
  [V.i IntKind.i64 ((Ses.mk s0 s1 s2 s3 s4 s5).next (3 : Int) (0 : Int) (nilT UInt8)).acks.e,
  V.ref (6 : Nat) (0 : Nat)
  ((Ses.mk s0 s1 s2 s3 s4 s5).next (3 : Int) (0 : Int) (nilT UInt8)).acks.it.length,
  V.i IntKind.i64 ((Ses.mk s0 s1 s2 s3 s4 s5).next (3 : Int) (0 : Int) (nilT UInt8)).acks.b,
  V.ref (7 : Nat) (0 : Nat)
  ((Ses.mk s0 s1 s2 s3 s4 s5).next (3 : Int) (0 : Int) (nilT UInt8)).acks.ha.length,
  V.ref (8 : Nat) (0 : Nat)
  ((Ses.mk s0 s1 s2 s3 s4 s5).next (3 : Int) (0 : Int) (nilT UInt8)).acks.w.length,
  V.ref (9 : Nat) (0 : Nat) (0 : Nat)]),
  none, none, none, none, some (Blk.box [V.ptr (0 : Nat) (0 : Nat)]),
  some (Blk.row false none Cd.str ((Ses.mk s0 s1 s2 s3 s4 s5).next (3 : Int) (0 : Int) (nilT UInt8)).acks.it),
  some (Blk.row false none Cd.str ((Ses.mk s0 s1 s2 s3 s4 s5).next (3 : Int) (0 : Int) (nilT UInt8)).acks.ha),
  some
  (Blk.row false none ((Cd.int IntKind.i64).pair ((Cd.int IntKind.i64).pair (Cd.str.pair Cd.unit)))
  ((Ses.mk s0 s1 s2 s3 s4 s5).next (3 : Int) (0 : Int) (nilT UInt8)).acks.w),
  some
  (Blk.row false none ((Cd.int IntKind.i64).pair ((Cd.int IntKind.i64).pair Cd.unit))
  ((Ses.mk s0 s1 s2 s3 s4 s5).next (3 : Int) (0 : Int) (nilT UInt8)).acks.a)]))))
  (some
  (Ex.exit (0 : Nat), [],
  [some
  (Blk.box
  [V.i IntKind.i64 s0, V.ref (5 : Nat) (0 : Nat) m1, V.i IntKind.i64 s2, V.ref (6 : Nat) (0 : Nat) m3,
  V.ref (7 : Nat) (0 : Nat) m4, V.ref (8 : Nat) (0 : Nat) m5]),
  none, none, none, none, some (Blk.row false none Cd.str s1), some (Blk.row false none Cd.str s3),
  some (Blk.row false none ((Cd.int IntKind.i64).pair ((Cd.int IntKind.i64).pair (Cd.str.pair Cd.unit))) s4),
  some (Blk.row false none ((Cd.int IntKind.i64).pair ((Cd.int IntKind.i64).pair Cd.unit)) s5)]))) : _) := by kernel_rfl
theorem st2_fun0 (s0 : Int) (m1 : Nat) (s2 : Int) (m3 m4 m5 : Nat) (n1 : Option Bool) (s1 : List (List UInt8)) (n3 : Option Bool) (s3 : List (List UInt8)) (n4 : Option Bool) (s4 : List (Int × Int × List UInt8 × Unit)) (n5 : Option Bool) (s5 : List (Int × Int × Unit)) : funE Try.prog (look [(130, .own settle1G), (132, .own oTakeCG)]) (look [(3, st2E)]) Try.f69 [.ptr 0 0] [.box [.i .i64 s0, .ref 1 0 m1, .i .i64 s2, .ref 2 0 m3, .ref 3 0 m4, .ref 4 0 m5], .row false n1 .str s1, .row false n3 .str s3, .row false n4 (.pair (.int .i64) (.pair (.int .i64) (.pair .str .unit))) s4, .row false n5 (.pair (.int .i64) (.pair (.int .i64) .unit)) s5] =
    ((ifT
  (decide
  ((m1 = s1.length ∧ m3 = s3.length ∧ m4 = s4.length ∧ m5 = s5.length) ∧
  s4.length ≤ (500000 : Nat) ∧ (Ses.mk s0 s1 s2 s3 s4 s5).inv ((1000000 : Nat) - s4.length)))
  (ifT
  (decide
  (((Ses.mk s0 s1 s2 s3 s4 s5).acks.it.length = (Ses.mk s0 s1 s2 s3 s4 s5).acks.it.length ∧
  (Ses.mk s0 s1 s2 s3 s4 s5).acks.ha.length = (Ses.mk s0 s1 s2 s3 s4 s5).acks.ha.length ∧
  (Ses.mk s0 s1 s2 s3 s4 s5).acks.w.length = (Ses.mk s0 s1 s2 s3 s4 s5).acks.w.length ∧
  (0 : Nat) = (0 : Nat)) ∧
  (Ses.mk s0 s1 s2 s3 s4 s5).acks.w.length ≤ (500000 : Nat) ∧
  (Ses.mk s0 s1 s2 s3 s4 s5).acks.inv ((1000000 : Nat) - (Ses.mk s0 s1 s2 s3 s4 s5).acks.w.length)))
  (some
  (V.tup [],
  [some
  (Blk.box
  [V.i IntKind.i64 (Ses.calmL (Ses.mk s0 s1 s2 s3 s4 s5).acks.w (Ses.mk s0 s1 s2 s3 s4 s5).acks).e,
  V.ref (5 : Nat) (0 : Nat)
  (Ses.calmL (Ses.mk s0 s1 s2 s3 s4 s5).acks.w (Ses.mk s0 s1 s2 s3 s4 s5).acks).it.length,
  V.i IntKind.i64 (Ses.calmL (Ses.mk s0 s1 s2 s3 s4 s5).acks.w (Ses.mk s0 s1 s2 s3 s4 s5).acks).b,
  V.ref (6 : Nat) (0 : Nat)
  (Ses.calmL (Ses.mk s0 s1 s2 s3 s4 s5).acks.w (Ses.mk s0 s1 s2 s3 s4 s5).acks).ha.length,
  V.ref (7 : Nat) (0 : Nat)
  (Ses.calmL (Ses.mk s0 s1 s2 s3 s4 s5).acks.w (Ses.mk s0 s1 s2 s3 s4 s5).acks).w.length,
  V.ref (8 : Nat) (0 : Nat)
  (Ses.calmL (Ses.mk s0 s1 s2 s3 s4 s5).acks.w (Ses.mk s0 s1 s2 s3 s4 s5).acks).a.length]),
  none, none, none, none,
  some
  (Blk.row false none Cd.str
  (Ses.calmL (Ses.mk s0 s1 s2 s3 s4 s5).acks.w (Ses.mk s0 s1 s2 s3 s4 s5).acks).it),
  some
  (Blk.row false none Cd.str
  (Ses.calmL (Ses.mk s0 s1 s2 s3 s4 s5).acks.w (Ses.mk s0 s1 s2 s3 s4 s5).acks).ha),
  some
  (Blk.row false none ((Cd.int IntKind.i64).pair ((Cd.int IntKind.i64).pair (Cd.str.pair Cd.unit)))
  (Ses.calmL (Ses.mk s0 s1 s2 s3 s4 s5).acks.w (Ses.mk s0 s1 s2 s3 s4 s5).acks).w),
  some
  (Blk.row false none ((Cd.int IntKind.i64).pair ((Cd.int IntKind.i64).pair Cd.unit))
  (Ses.calmL (Ses.mk s0 s1 s2 s3 s4 s5).acks.w (Ses.mk s0 s1 s2 s3 s4 s5).acks).a)])))) : _) := by kernel_rfl
theorem st2_loop : ∀ (w : List (Int × Int × List UInt8 × Unit)) (e : Int) (it : List (List UInt8)) (b : Int) (ha : List (List UInt8)) (a : List (Int × Int × Unit)), w.length ≤ 500000 → (Ses.mk e it b ha w a).inv (1000000 - w.length) →
    Runs Try.prog (look [(130, .own settle1G), (132, .own oTakeCG)]) (look [(3, st2E)]) 5 (body Try.f69 0) st2E (([.ptr 5 0, .fn 130 [] [.ptr 5 0]], [some (.box [.i .i64 (Ses.mk e it b ha w a).e, .ref 6 0 (Ses.mk e it b ha w a).it.length, .i .i64 (Ses.mk e it b ha w a).b, .ref 7 0 (Ses.mk e it b ha w a).ha.length, .ref 8 0 (Ses.mk e it b ha w a).w.length, .ref 9 0 (Ses.mk e it b ha w a).a.length]), none, none, none, none, some (.box [.ptr 0 0]), some (.row false none .str (Ses.mk e it b ha w a).it), some (.row false none .str (Ses.mk e it b ha w a).ha), some (.row false none (.pair (.int .i64) (.pair (.int .i64) (.pair .str .unit))) (Ses.mk e it b ha w a).w), some (.row false none (.pair (.int .i64) (.pair (.int .i64) .unit)) (Ses.mk e it b ha w a).a)])) (.exit 0) (([], [some (.box [.i .i64 (Ses.calmL w (Ses.mk e it b ha w a)).e, .ref 5 0 (Ses.calmL w (Ses.mk e it b ha w a)).it.length, .i .i64 (Ses.calmL w (Ses.mk e it b ha w a)).b, .ref 6 0 (Ses.calmL w (Ses.mk e it b ha w a)).ha.length, .ref 7 0 (Ses.calmL w (Ses.mk e it b ha w a)).w.length, .ref 8 0 (Ses.calmL w (Ses.mk e it b ha w a)).a.length]), none, none, none, none, some (.row false none .str (Ses.calmL w (Ses.mk e it b ha w a)).it), some (.row false none .str (Ses.calmL w (Ses.mk e it b ha w a)).ha), some (.row false none (.pair (.int .i64) (.pair (.int .i64) (.pair .str .unit))) (Ses.calmL w (Ses.mk e it b ha w a)).w), some (.row false none (.pair (.int .i64) (.pair (.int .i64) .unit)) (Ses.calmL w (Ses.mk e it b ha w a)).a)]))
  | [], e, it, b, ha, a, hw, hi => by
    refine .stop _ _ _ ((st2_round e it.length b ha.length 0 a.length it ha [] a).trans ?_) (by simp)
    rw [ifB_false (by simp)]
    rfl
  | p :: w, e, it, b, ha, a, hw, hi => by
    have hl : (p :: w).length = w.length + 1 := rfl
    have hf := Ses.come_fix (s := Ses.mk e it b ha w a) p
    have hd : (Ses.mk e it b ha w a).inv (1000000 - (p :: w).length) := by
      obtain ⟨i1, i2, i3, i4, i5, i6, i7⟩ := hi
      exact ⟨i1, i2, i3, i4, i5, by simp at i6 ⊢; omega, i7⟩
    have hc : ((Ses.mk e it b ha w a).come p).inv (1000000 - w.length) := by
      have := Ses.come_inv hd p
      rwa [show 1000000 - (p :: w).length + 1 = 1000000 - w.length by omega] at this
    have ha2 := Ses.acks_inv hc
    have hw2 : ((Ses.mk e it b ha w a).come p).acks.w = w := hf.1
    have ih := st2_loop w ((Ses.mk e it b ha w a).come p).acks.e ((Ses.mk e it b ha w a).come p).acks.it ((Ses.mk e it b ha w a).come p).acks.b ((Ses.mk e it b ha w a).come p).acks.ha ((Ses.mk e it b ha w a).come p).acks.a (by omega) (by
      have := ha2
      obtain ⟨i1, i2, i3, i4, i5, i6, i7⟩ := this
      exact ⟨i1, i2, i3, i4, i5, by dsimp only; omega, i7⟩)
    have e1 := Ses.eta_w _ w hw2
    rw [e1] at ih
    refine .step _ _ _ _ ((st2_round e it.length b ha.length (p :: w).length a.length it ha (p :: w) a).trans ?_) ih
    obtain ⟨i1, i2, -, i4, i5, i6, i7⟩ := hi
    dsimp only at i1 i2 i4 i5 i6 i7
    have i8 : w.length + 1 ≤ 1000000 - (p :: w).length := i6
    rw [ifB_true (by simp), ifT_true (by simp only [true_and, decide_eq_true_eq, List.length_cons] at *; omega)]
    rw [Ses.next3]
    have hc2 : ((Ses.mk e it b ha w a).come p).inv (1000000 - ((Ses.mk e it b ha w a).come p).w.length) := by rw [hf.1]; exact hc
    rw [ifT_true (decide_eq_true ⟨⟨by first | trivial | rfl, by first | trivial | rfl, by first | trivial | rfl, by first | trivial | rfl⟩, by rw [hf.1]; dsimp only; omega, hc2⟩)]
    rfl
theorem st2_ok : ∀ d e d', ((st2E).L d).run = some (e, d') → Runs Try.prog (look [(130, .own settle1G), (132, .own oTakeCG)]) (look [(3, st2E)]) 5 (body Try.f69 0) st2E d e d' := by
  intro d e d' h
  unfold st2E at h
  dsimp only at h
  split at h
  · obtain ⟨hc, h'⟩ := need_some h
    obtain ⟨⟨rfl, rfl, rfl, rfl⟩, h1, h2⟩ := of_decide_eq_true hc
    have h5 := leaf_some h'
    obtain ⟨rfl, rfl⟩ := Prod.mk.inj h5
    exact st2_loop _ _ _ _ _ _ h1 h2
  · cases h
theorem settle_fun (s0 : Int) (m1 : Nat) (s2 : Int) (m3 m4 m5 : Nat) (n1 : Option Bool) (s1 : List (List UInt8)) (n3 : Option Bool) (s3 : List (List UInt8)) (n4 : Option Bool) (s4 : List (Int × Int × List UInt8 × Unit)) (n5 : Option Bool) (s5 : List (Int × Int × Unit)) (hc : ((m1 = s1.length ∧ m3 = s3.length ∧ m4 = s4.length ∧ m5 = s5.length) ∧ s4.length ≤ 500000 ∧ (Ses.mk s0 s1 s2 s3 s4 s5).inv (1000000 - s4.length))) : funE Try.prog (look [(130, .own settle1G), (132, .own oTakeCG)]) (look [(3, st2E)]) Try.f69 [.ptr 0 0] [.box [.i .i64 s0, .ref 1 0 m1, .i .i64 s2, .ref 2 0 m3, .ref 3 0 m4, .ref 4 0 m5], .row false n1 .str s1, .row false n3 .str s3, .row false n4 (.pair (.int .i64) (.pair (.int .i64) (.pair .str .unit))) s4, .row false n5 (.pair (.int .i64) (.pair (.int .i64) .unit)) s5] = (.leaf (.tup [], [some (.box [.i .i64 ((Ses.mk s0 s1 s2 s3 s4 s5).calm).e, .ref 5 0 ((Ses.mk s0 s1 s2 s3 s4 s5).calm).it.length, .i .i64 ((Ses.mk s0 s1 s2 s3 s4 s5).calm).b, .ref 6 0 ((Ses.mk s0 s1 s2 s3 s4 s5).calm).ha.length, .ref 7 0 ((Ses.mk s0 s1 s2 s3 s4 s5).calm).w.length, .ref 8 0 ((Ses.mk s0 s1 s2 s3 s4 s5).calm).a.length]), none, none, none, none, some (.row false none .str ((Ses.mk s0 s1 s2 s3 s4 s5).calm).it), some (.row false none .str ((Ses.mk s0 s1 s2 s3 s4 s5).calm).ha), some (.row false none (.pair (.int .i64) (.pair (.int .i64) (.pair .str .unit))) ((Ses.mk s0 s1 s2 s3 s4 s5).calm).w), some (.row false none (.pair (.int .i64) (.pair (.int .i64) .unit)) ((Ses.mk s0 s1 s2 s3 s4 s5).calm).a)]) : Br (V × List (Option Blk))).run := by
  rw [st2_fun0]
  obtain ⟨⟨rfl, rfl, rfl, rfl⟩, h1, h2⟩ := hc
  rw [ifT_true (decide_eq_true ⟨⟨by first | trivial | rfl, by first | trivial | rfl, by first | trivial | rfl, by first | trivial | rfl⟩, h1, h2⟩)]
  have h3 : (Ses.mk s0 s1 s2 s3 s4 s5).acks.inv (1000000 - s4.length) := Ses.acks_inv h2
  rw [ifT_true (decide_eq_true ⟨⟨by first | trivial | rfl, by first | trivial | rfl, by first | trivial | rfl, by first | trivial | rfl⟩, h1, h3⟩)]
  rfl
theorem st2_loops : LoopsOk Try.prog (look [(130, .own settle1G), (132, .own oTakeCG)]) (look [(3, st2E)]) 5 (Try.f69.body.getD .skip) := LoopsI.loops (.cons (a := body Try.f69 0) (by kernel_rfl) st2_ok .nil) (by kernel_rfl)
theorem settle : Contract Try.prog 69 (Ent.own settleG).F := by
  refine fun_contractE (KnowsL.cons (enters_fn Try.func130 (by kernel_rfl) (by kernel_rfl)) settle1 (KnowsL.cons (enters_fn Try.func132 (by kernel_rfl) (by kernel_rfl)) oTakeC KnowsL.nil)).knows (Λ := (look [(3, st2E)])) Try.func69 (c := Try.f69.body.getD .skip) (by kernel_rfl) fun vs bs r h => ?_
  unfold Ent.F settleG at h
  dsimp only at h
  split at h
  · rename_i s0 m1 s2 m3 m4 m5 n1 s1 n3 s3 n4 s4 n5 s5
    obtain ⟨hc, h⟩ := need_some h
    exact ⟨st2_loops, (settle_fun s0 m1 s2 m3 m4 m5 n1 s1 n3 s3 n4 s4 n5 s5 (of_decide_eq_true hc)).trans h⟩
  · cases h
end Go.Proofs.Ytjghbihlgfjebaa.Den
