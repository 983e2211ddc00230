/- What functions of the program do, by the machine: Calm3. -/
import Derived.Test.YtjghbihlgfjebaaDCalm2
import Derived.KernelRfl
import Derived.Test.YtjghbihlgfjebaaRows
namespace Go.Proofs.Ytjghbihlgfjebaa.Den
open Go.Proofs
set_option maxRecDepth 100000
def l15CalmG : List V → List Blk → Br (V × List (Option Blk))
  | [.agg [.i .i64 s0, .ref 0 0 m1, .i .i64 s2, .ref 1 0 m3, .ref 2 0 m4, .ref 3 0 m5]], [.row false n1 .str s1, .row false n3 .str s3, .row false n4 (.pair (.int .i64) (.pair (.int .i64) (.pair .str .unit))) s4, .row false n5 (.pair (.int .i64) (.pair (.int .i64) .unit)) s5] => .need (decide ((m1 = s1.length ∧ m3 = s3.length ∧ m4 = s4.length ∧ m5 = s5.length) ∧ s4.length ≤ 500000 ∧ (Ses.mk s0 s1 s2 s3 s4 s5).inv (1000000 - s4.length))) (.leaf (.agg [.i .i64 ((Ses.mk s0 s1 s2 s3 s4 s5).calm).e, .ref 4 0 ((Ses.mk s0 s1 s2 s3 s4 s5).calm).it.length, .i .i64 ((Ses.mk s0 s1 s2 s3 s4 s5).calm).b, .ref 5 0 ((Ses.mk s0 s1 s2 s3 s4 s5).calm).ha.length, .ref 6 0 ((Ses.mk s0 s1 s2 s3 s4 s5).calm).w.length, .ref 7 0 ((Ses.mk s0 s1 s2 s3 s4 s5).calm).a.length], [none, none, none, none, some (.row false none .str ((Ses.mk s0 s1 s2 s3 s4 s5).calm).it), some (.row false none .str ((Ses.mk s0 s1 s2 s3 s4 s5).calm).ha), some (.row false none (.pair (.int .i64) (.pair (.int .i64) (.pair .str .unit))) ((Ses.mk s0 s1 s2 s3 s4 s5).calm).w), some (.row false none (.pair (.int .i64) (.pair (.int .i64) .unit)) ((Ses.mk s0 s1 s2 s3 s4 s5).calm).a)]))
  | _, _ => .no
theorem l15Calm_fun (s0 : Int) (m1 : Nat) (s2 : Int) (m3 m4 m5 : Nat) (n1 : Option Bool) (s1 : List (List UInt8)) (n3 : Option Bool) (s3 : List (List UInt8)) (n4 : Option Bool) (s4 : List (Int × Int × List UInt8 × Unit)) (n5 : Option Bool) (s5 : List (Int × Int × Unit)) (hc : ((m1 = s1.length ∧ m3 = s3.length ∧ m4 = s4.length ∧ m5 = s5.length) ∧ s4.length ≤ 500000 ∧ (Ses.mk s0 s1 s2 s3 s4 s5).inv (1000000 - s4.length))) : funE Try.prog (look [(64, .own l15StepCG)]) (look [(1, ca1E), (3, ca2E), (5, ca3E)]) Try.f62 [.agg [.i .i64 s0, .ref 0 0 m1, .i .i64 s2, .ref 1 0 m3, .ref 2 0 m4, .ref 3 0 m5]] [.row false n1 .str s1, .row false n3 .str s3, .row false n4 (.pair (.int .i64) (.pair (.int .i64) (.pair .str .unit))) s4, .row false n5 (.pair (.int .i64) (.pair (.int .i64) .unit)) s5] = (.leaf (.agg [.i .i64 ((Ses.mk s0 s1 s2 s3 s4 s5).calm).e, .ref 4 0 ((Ses.mk s0 s1 s2 s3 s4 s5).calm).it.length, .i .i64 ((Ses.mk s0 s1 s2 s3 s4 s5).calm).b, .ref 5 0 ((Ses.mk s0 s1 s2 s3 s4 s5).calm).ha.length, .ref 6 0 ((Ses.mk s0 s1 s2 s3 s4 s5).calm).w.length, .ref 7 0 ((Ses.mk s0 s1 s2 s3 s4 s5).calm).a.length], [none, none, none, none, some (.row false none .str ((Ses.mk s0 s1 s2 s3 s4 s5).calm).it), some (.row false none .str ((Ses.mk s0 s1 s2 s3 s4 s5).calm).ha), some (.row false none (.pair (.int .i64) (.pair (.int .i64) (.pair .str .unit))) ((Ses.mk s0 s1 s2 s3 s4 s5).calm).w), some (.row false none (.pair (.int .i64) (.pair (.int .i64) .unit)) ((Ses.mk s0 s1 s2 s3 s4 s5).calm).a)]) : Br (V × List (Option Blk))).run := by
  rw [ca_fun0]
  obtain ⟨⟨rfl, rfl, rfl, rfl⟩, h1, h2⟩ := hc
  rw [ifT_true (decide_eq_true ⟨⟨by first | trivial | rfl, by first | trivial | rfl, by first | trivial | rfl, by first | trivial | rfl⟩, h1, h2⟩)]
  have h3 : (Ses.mk s0 s1 s2 s3 s4 s5).acks.inv (1000000 - s4.length) := Ses.acks_inv h2
  rw [ifT_true (decide_eq_true ⟨⟨by first | trivial | rfl, by first | trivial | rfl, by first | trivial | rfl, by first | trivial | rfl⟩, h1, h3⟩)]
  rfl
theorem l15Calm : Contract Try.prog 62 (Ent.own l15CalmG).F := by
  refine fun_contractE (KnowsL.cons (enters_fn Try.func64 (by kernel_rfl) (by kernel_rfl)) l15StepC KnowsL.nil).knows (Λ := (look [(1, ca1E), (3, ca2E), (5, ca3E)])) Try.func62 (c := Try.f62.body.getD .skip) (by kernel_rfl) fun vs bs r h => ?_
  unfold Ent.F l15CalmG at h
  dsimp only at h
  split at h
  · rename_i s0 m1 s2 m3 m4 m5 n1 s1 n3 s3 n4 s4 n5 s5
    obtain ⟨hc, h⟩ := need_some h
    exact ⟨ca_loops, (l15Calm_fun s0 m1 s2 m3 m4 m5 n1 s1 n3 s3 n4 s4 n5 s5 (of_decide_eq_true hc)).trans h⟩
  · cases h
end Go.Proofs.Ytjghbihlgfjebaa.Den
