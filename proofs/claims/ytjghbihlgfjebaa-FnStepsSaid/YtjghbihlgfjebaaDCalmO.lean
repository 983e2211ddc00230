/- What functions of the program do, by the machine: CalmO. -/
import Derived.Test.YtjghbihlgfjebaaDCalm1
import Derived.KernelRfl
import Derived.Test.YtjghbihlgfjebaaRows
namespace Go.Proofs.Ytjghbihlgfjebaa.Den
open Go.Proofs
set_option maxRecDepth 100000
def oAckCG : List V → List Blk → Br (V × List (Option Blk))
  | [.ptr 0 0, .i .i64 k], [.box [.i .i64 s0, .ref 1 0 m1, .i .i64 s2, .ref 2 0 m3, .ref 3 0 m4, .ref 4 0 m5], .row false n1 .str s1, .row false n3 .str s3, .row false n4 (.pair (.int .i64) (.pair (.int .i64) (.pair .str .unit))) s4, .row false n5 (.pair (.int .i64) (.pair (.int .i64) .unit)) s5] => .need (decide ((m1 = s1.length) ∧ (m3 = s3.length) ∧ (m4 = s4.length) ∧ (m5 = s5.length) ∧ (0 ≤ s2 ∧ s2 ≤ 1000000000) ∧ (0 ≤ s0 ∧ s0 ≤ 1000000000) ∧ (s1.length ≤ 1000000000) ∧ (s3.length ≤ 1000000000) ∧ (s4.length ≤ 1000000000) ∧ (s5.length ≤ 1000000000) ∧ (0 ≤ k ∧ k < (s5.length : Int)))) (.leaf (.tup [], [some (.box [.i .i64 ((Ses.mk s0 s1 s2 s3 s4 s5).next 6 k []).e, .ref 5 0 ((Ses.mk s0 s1 s2 s3 s4 s5).next 6 k []).it.length, .i .i64 ((Ses.mk s0 s1 s2 s3 s4 s5).next 6 k []).b, .ref 6 0 ((Ses.mk s0 s1 s2 s3 s4 s5).next 6 k []).ha.length, .ref 7 0 ((Ses.mk s0 s1 s2 s3 s4 s5).next 6 k []).w.length, .ref 8 0 ((Ses.mk s0 s1 s2 s3 s4 s5).next 6 k []).a.length]), none, none, none, none, some (.row false none .str ((Ses.mk s0 s1 s2 s3 s4 s5).next 6 k []).it), some (.row false none .str ((Ses.mk s0 s1 s2 s3 s4 s5).next 6 k []).ha), some (.row false none (.pair (.int .i64) (.pair (.int .i64) (.pair .str .unit))) ((Ses.mk s0 s1 s2 s3 s4 s5).next 6 k []).w), some (.row false none (.pair (.int .i64) (.pair (.int .i64) .unit)) ((Ses.mk s0 s1 s2 s3 s4 s5).next 6 k []).a)]))
  | _, _ => .no
def oTakeCG : List V → List Blk → Br (V × List (Option Blk))
  | [.ptr 0 0, .i .i64 k], [.box [.i .i64 s0, .ref 1 0 m1, .i .i64 s2, .ref 2 0 m3, .ref 3 0 m4, .ref 4 0 m5], .row false n1 .str s1, .row false n3 .str s3, .row false n4 (.pair (.int .i64) (.pair (.int .i64) (.pair .str .unit))) s4, .row false n5 (.pair (.int .i64) (.pair (.int .i64) .unit)) s5] => .need (decide ((m1 = s1.length) ∧ (m3 = s3.length) ∧ (m4 = s4.length) ∧ (m5 = s5.length) ∧ (0 ≤ s2 ∧ s2 ≤ 1000000000) ∧ (0 ≤ s0 ∧ s0 ≤ 1000000000) ∧ (s1.length ≤ 1000000000) ∧ (s3.length ≤ 1000000000) ∧ (s4.length ≤ 1000000000) ∧ (s5.length ≤ 1000000000) ∧ (0 ≤ k ∧ k < (s4.length : Int)))) (.leaf (.tup [], [some (.box [.i .i64 ((Ses.mk s0 s1 s2 s3 s4 s5).next 3 k []).e, .ref 5 0 ((Ses.mk s0 s1 s2 s3 s4 s5).next 3 k []).it.length, .i .i64 ((Ses.mk s0 s1 s2 s3 s4 s5).next 3 k []).b, .ref 6 0 ((Ses.mk s0 s1 s2 s3 s4 s5).next 3 k []).ha.length, .ref 7 0 ((Ses.mk s0 s1 s2 s3 s4 s5).next 3 k []).w.length, .ref 8 0 ((Ses.mk s0 s1 s2 s3 s4 s5).next 3 k []).a.length]), none, none, none, none, some (.row false none .str ((Ses.mk s0 s1 s2 s3 s4 s5).next 3 k []).it), some (.row false none .str ((Ses.mk s0 s1 s2 s3 s4 s5).next 3 k []).ha), some (.row false none (.pair (.int .i64) (.pair (.int .i64) (.pair .str .unit))) ((Ses.mk s0 s1 s2 s3 s4 s5).next 3 k []).w), some (.row false none (.pair (.int .i64) (.pair (.int .i64) .unit)) ((Ses.mk s0 s1 s2 s3 s4 s5).next 3 k []).a)]))
  | _, _ => .no
def oSendCG : List V → List Blk → Br (V × List (Option Blk))
  | [.ptr 0 0, .i .i64 k], [.box [.i .i64 s0, .ref 1 0 m1, .i .i64 s2, .ref 2 0 m3, .ref 3 0 m4, .ref 4 0 m5], .row false n1 .str s1, .row false n3 .str s3, .row false n4 (.pair (.int .i64) (.pair (.int .i64) (.pair .str .unit))) s4, .row false n5 (.pair (.int .i64) (.pair (.int .i64) .unit)) s5] => .need (decide ((m1 = s1.length) ∧ (m3 = s3.length) ∧ (m4 = s4.length) ∧ (m5 = s5.length) ∧ (0 ≤ s2 ∧ s2 ≤ 1000000000) ∧ (0 ≤ s0 ∧ s0 ≤ 1000000000) ∧ (s1.length ≤ 1000000000) ∧ (s3.length ≤ 1000000000) ∧ (s4.length ≤ 1000000000) ∧ (s5.length ≤ 1000000000))) (.br (Ses.ok (Ses.mk s0 s1 s2 s3 s4 s5) 2 k []) (.leaf (.b true, [some (.box [.i .i64 ((Ses.mk s0 s1 s2 s3 s4 s5).next 2 k []).e, .ref 5 0 ((Ses.mk s0 s1 s2 s3 s4 s5).next 2 k []).it.length, .i .i64 ((Ses.mk s0 s1 s2 s3 s4 s5).next 2 k []).b, .ref 6 0 ((Ses.mk s0 s1 s2 s3 s4 s5).next 2 k []).ha.length, .ref 7 0 ((Ses.mk s0 s1 s2 s3 s4 s5).next 2 k []).w.length, .ref 8 0 ((Ses.mk s0 s1 s2 s3 s4 s5).next 2 k []).a.length]), none, none, none, none, some (.row false none .str ((Ses.mk s0 s1 s2 s3 s4 s5).next 2 k []).it), some (.row false none .str ((Ses.mk s0 s1 s2 s3 s4 s5).next 2 k []).ha), some (.row false none (.pair (.int .i64) (.pair (.int .i64) (.pair .str .unit))) ((Ses.mk s0 s1 s2 s3 s4 s5).next 2 k []).w), some (.row false none (.pair (.int .i64) (.pair (.int .i64) .unit)) ((Ses.mk s0 s1 s2 s3 s4 s5).next 2 k []).a)])) (.leaf (.b false, [some (.box [.i .i64 (Ses.mk s0 s1 s2 s3 s4 s5).e, .ref 5 0 (Ses.mk s0 s1 s2 s3 s4 s5).it.length, .i .i64 (Ses.mk s0 s1 s2 s3 s4 s5).b, .ref 6 0 (Ses.mk s0 s1 s2 s3 s4 s5).ha.length, .ref 7 0 (Ses.mk s0 s1 s2 s3 s4 s5).w.length, .ref 8 0 (Ses.mk s0 s1 s2 s3 s4 s5).a.length]), none, none, none, none, some (.row false none .str (Ses.mk s0 s1 s2 s3 s4 s5).it), some (.row false none .str (Ses.mk s0 s1 s2 s3 s4 s5).ha), some (.row false none (.pair (.int .i64) (.pair (.int .i64) (.pair .str .unit))) (Ses.mk s0 s1 s2 s3 s4 s5).w), some (.row false none (.pair (.int .i64) (.pair (.int .i64) .unit)) (Ses.mk s0 s1 s2 s3 s4 s5).a)])))
  | _, _ => .no
set_option maxHeartbeats 8000000 in
theorem oAckC_fun (k : Int) (s0 : Int) (m1 : Nat) (s2 : Int) (m3 m4 m5 : Nat) (n1 : Option Bool) (s1 : List (List UInt8)) (n3 : Option Bool) (s3 : List (List UInt8)) (n4 : Option Bool) (s4 : List (Int × Int × List UInt8 × Unit)) (n5 : Option Bool) (s5 : List (Int × Int × Unit)) (e1 : m1 = s1.length) (e3 : m3 = s3.length) (e4 : m4 = s4.length) (e5 : m5 = s5.length) (hb : 0 ≤ s2 ∧ s2 ≤ 1000000000) (he : 0 ≤ s0 ∧ s0 ≤ 1000000000) (l1 : s1.length ≤ 1000000000) (l3 : s3.length ≤ 1000000000) (l4 : s4.length ≤ 1000000000) (l5 : s5.length ≤ 1000000000) (hk : 0 ≤ k ∧ k < (s5.length : Int)) : (oAckG [.ptr 0 0, .i .i64 k] [.box [.i .i64 s0, .ref 1 0 m1, .i .i64 s2, .ref 2 0 m3, .ref 3 0 m4, .ref 4 0 m5], .row false n1 .str s1, .row false n3 .str s3, .row false n4 (.pair (.int .i64) (.pair (.int .i64) (.pair .str .unit))) s4, .row false n5 (.pair (.int .i64) (.pair (.int .i64) .unit)) s5]).run.map (canonR 5) = (.leaf (.tup [], [some (.box [.i .i64 ((Ses.mk s0 s1 s2 s3 s4 s5).next 6 k []).e, .ref 5 0 ((Ses.mk s0 s1 s2 s3 s4 s5).next 6 k []).it.length, .i .i64 ((Ses.mk s0 s1 s2 s3 s4 s5).next 6 k []).b, .ref 6 0 ((Ses.mk s0 s1 s2 s3 s4 s5).next 6 k []).ha.length, .ref 7 0 ((Ses.mk s0 s1 s2 s3 s4 s5).next 6 k []).w.length, .ref 8 0 ((Ses.mk s0 s1 s2 s3 s4 s5).next 6 k []).a.length]), none, none, none, none, some (.row false none .str ((Ses.mk s0 s1 s2 s3 s4 s5).next 6 k []).it), some (.row false none .str ((Ses.mk s0 s1 s2 s3 s4 s5).next 6 k []).ha), some (.row false none (.pair (.int .i64) (.pair (.int .i64) (.pair .str .unit))) ((Ses.mk s0 s1 s2 s3 s4 s5).next 6 k []).w), some (.row false none (.pair (.int .i64) (.pair (.int .i64) .unit)) ((Ses.mk s0 s1 s2 s3 s4 s5).next 6 k []).a)]) : Br (V × List (Option Blk))).run := by
  subst e1 e3 e4 e5
  unfold oAckG
  try dsimp only
  have w2 : IntKind.i64.wrap (s2 + 4) = s2 + 4 := wrap_id (by omega) (by omega)
  have w1 : ∀ n : Int, 0 ≤ n → n ≤ 1000000000 → IntKind.i64.wrap (n + 1) = n + 1 := fun n h h' => wrap_id (by omega) (by omega)
  have w4 : IntKind.i64.wrap ((s4.length : Int) - 1) = (s4.length : Int) - 1 := wrap_id (by omega) (by omega)
  have w5 : IntKind.i64.wrap ((s5.length : Int) - 1) = (s5.length : Int) - 1 := wrap_id (by omega) (by omega)
  have w6 : IntKind.i64.wrap ((if (s1.length : Int) < s2 + 4 then (s1.length : Int) else s2 + 4) - 1) = (if (s1.length : Int) < s2 + 4 then (s1.length : Int) else s2 + 4) - 1 := by split <;> exact wrap_id (by omega) (by omega)
  have w7 : IntKind.i64.wrap (s0 + 1) = s0 + 1 := wrap_id (by omega) (by omega)
  simp only [List.drop_zero, List.take_length, Nat.zero_add, w2, w4, w5, w6, w7]
  repeat' first
    | ((with_reducible refine br_case (fun h => ?_) (fun h => ?_)) <;> (try simp only [Bool.and_eq_true, Bool.or_eq_true, decide_eq_true_eq, decide_eq_false_iff_not, beq_iff_eq, bne_iff_ne, beq_eq_false_iff_ne, bne_eq_false_iff_eq, Bool.not_eq_true', Bool.not_eq_false', ne_eq, Decidable.not_not] at h))
    | with_reducible refine need_case ?_ ?_
    | with_reducible refine opt_case ?_ (fun _ _ => ?_)
    | with_reducible refine leaf_case ?_
  all_goals try simp only [Bool.and_eq_true, decide_eq_true_eq, List.length_take, List.length_drop, Nat.sub_zero, nilT_eq, List.nil_append, List.take_nil]
  all_goals have hM : maxI = 9223372036854775807 := rfl
  all_goals try have w3 := w1 k (by omega) (by omega)
  all_goals try simp only [w3]
  all_goals try omega
  all_goals try (exact ⟨_, List.getElem?_eq_getElem (by omega)⟩)
  all_goals try have q1 : (k + 1).toNat = k.toNat + 1 := by omega
  all_goals try have q2 : min k.toNat s5.length = k.toNat := by omega
  all_goals try have q4 := erase_len (show k.toNat < s4.length by omega)
  all_goals try have q5 := erase_len (show k.toNat < s5.length by omega)
  all_goals try have q6 := erase_len1 (show k.toNat < s4.length by omega)
  all_goals try have q7 := erase_len1 (show k.toNat < s5.length by omega)
  all_goals try have q8 : s5.length < 12 := by omega
  all_goals try have q9 : ¬ s5.length < 12 := by omega
  all_goals try have q3 : min k.toNat s4.length = k.toNat := by omega
  all_goals first
    | (rw [br_t]; rotate_left; · (simp [Ses.ok, *] <;> omega))
    | (rw [br_f]; rotate_left; · (simp [Ses.ok, *] <;> omega))
    | skip
  all_goals first
    | (simp [Ses.next, Ses.come, erase_eq, *] <;> omega)
    | ((try clear hk); (try simp [Ses.next, Ses.come, erase_eq, *]))
  all_goals try omega
  all_goals (show _ = _; kernel_rfl)
  all_goals trace_state
  all_goals sorry

theorem oAckC : Contract Try.prog 131 (Ent.own oAckCG).F := by
  refine contract_weak (contract_canon oAck) fun vs bs r h => ?_
  unfold Ent.F oAckCG at h
  dsimp only at h
  split at h
  · rename_i k s0 m1 s2 m3 m4 m5 n1 s1 n3 s3 n4 s4 n5 s5
    obtain ⟨hc, h⟩ := need_some h
    obtain ⟨e1, e3, e4, e5, hb, he, l1, l3, l4, l5, hk⟩ := of_decide_eq_true hc
    exact (oAckC_fun k s0 m1 s2 m3 m4 m5 n1 s1 n3 s3 n4 s4 n5 s5 e1 e3 e4 e5 hb he l1 l3 l4 l5 hk).trans h
  · cases h
set_option maxHeartbeats 8000000 in
theorem oTakeC_fun (k : Int) (s0 : Int) (m1 : Nat) (s2 : Int) (m3 m4 m5 : Nat) (n1 : Option Bool) (s1 : List (List UInt8)) (n3 : Option Bool) (s3 : List (List UInt8)) (n4 : Option Bool) (s4 : List (Int × Int × List UInt8 × Unit)) (n5 : Option Bool) (s5 : List (Int × Int × Unit)) (e1 : m1 = s1.length) (e3 : m3 = s3.length) (e4 : m4 = s4.length) (e5 : m5 = s5.length) (hb : 0 ≤ s2 ∧ s2 ≤ 1000000000) (he : 0 ≤ s0 ∧ s0 ≤ 1000000000) (l1 : s1.length ≤ 1000000000) (l3 : s3.length ≤ 1000000000) (l4 : s4.length ≤ 1000000000) (l5 : s5.length ≤ 1000000000) (hk : 0 ≤ k ∧ k < (s4.length : Int)) : (oTakeG [.ptr 0 0, .i .i64 k] [.box [.i .i64 s0, .ref 1 0 m1, .i .i64 s2, .ref 2 0 m3, .ref 3 0 m4, .ref 4 0 m5], .row false n1 .str s1, .row false n3 .str s3, .row false n4 (.pair (.int .i64) (.pair (.int .i64) (.pair .str .unit))) s4, .row false n5 (.pair (.int .i64) (.pair (.int .i64) .unit)) s5]).run.map (canonR 5) = (.leaf (.tup [], [some (.box [.i .i64 ((Ses.mk s0 s1 s2 s3 s4 s5).next 3 k []).e, .ref 5 0 ((Ses.mk s0 s1 s2 s3 s4 s5).next 3 k []).it.length, .i .i64 ((Ses.mk s0 s1 s2 s3 s4 s5).next 3 k []).b, .ref 6 0 ((Ses.mk s0 s1 s2 s3 s4 s5).next 3 k []).ha.length, .ref 7 0 ((Ses.mk s0 s1 s2 s3 s4 s5).next 3 k []).w.length, .ref 8 0 ((Ses.mk s0 s1 s2 s3 s4 s5).next 3 k []).a.length]), none, none, none, none, some (.row false none .str ((Ses.mk s0 s1 s2 s3 s4 s5).next 3 k []).it), some (.row false none .str ((Ses.mk s0 s1 s2 s3 s4 s5).next 3 k []).ha), some (.row false none (.pair (.int .i64) (.pair (.int .i64) (.pair .str .unit))) ((Ses.mk s0 s1 s2 s3 s4 s5).next 3 k []).w), some (.row false none (.pair (.int .i64) (.pair (.int .i64) .unit)) ((Ses.mk s0 s1 s2 s3 s4 s5).next 3 k []).a)]) : Br (V × List (Option Blk))).run := by
  subst e1 e3 e4 e5
  unfold oTakeG
  try dsimp only
  have w2 : IntKind.i64.wrap (s2 + 4) = s2 + 4 := wrap_id (by omega) (by omega)
  have w1 : ∀ n : Int, 0 ≤ n → n ≤ 1000000000 → IntKind.i64.wrap (n + 1) = n + 1 := fun n h h' => wrap_id (by omega) (by omega)
  have w4 : IntKind.i64.wrap ((s4.length : Int) - 1) = (s4.length : Int) - 1 := wrap_id (by omega) (by omega)
  have w5 : IntKind.i64.wrap ((s5.length : Int) - 1) = (s5.length : Int) - 1 := wrap_id (by omega) (by omega)
  have w6 : IntKind.i64.wrap ((if (s1.length : Int) < s2 + 4 then (s1.length : Int) else s2 + 4) - 1) = (if (s1.length : Int) < s2 + 4 then (s1.length : Int) else s2 + 4) - 1 := by split <;> exact wrap_id (by omega) (by omega)
  have w7 : IntKind.i64.wrap (s0 + 1) = s0 + 1 := wrap_id (by omega) (by omega)
  simp only [List.drop_zero, List.take_length, Nat.zero_add, w2, w4, w5, w6, w7]
  repeat' first
    | ((with_reducible refine br_case (fun h => ?_) (fun h => ?_)) <;> (try simp only [Bool.and_eq_true, Bool.or_eq_true, decide_eq_true_eq, decide_eq_false_iff_not, beq_iff_eq, bne_iff_ne, beq_eq_false_iff_ne, bne_eq_false_iff_eq, Bool.not_eq_true', Bool.not_eq_false', ne_eq, Decidable.not_not] at h))
    | with_reducible refine need_case ?_ ?_
    | with_reducible refine opt_case ?_ (fun _ _ => ?_)
    | with_reducible refine leaf_case ?_
  all_goals try simp only [Bool.and_eq_true, decide_eq_true_eq, List.length_take, List.length_drop, Nat.sub_zero, nilT_eq, List.nil_append, List.take_nil]
  all_goals have hM : maxI = 9223372036854775807 := rfl
  all_goals try have w3 := w1 k (by omega) (by omega)
  all_goals try simp only [w3]
  all_goals try omega
  all_goals try (exact ⟨_, List.getElem?_eq_getElem (by omega)⟩)
  all_goals try have q1 : (k + 1).toNat = k.toNat + 1 := by omega
  all_goals try have q2 : min k.toNat s5.length = k.toNat := by omega
  all_goals try have q4 := erase_len (show k.toNat < s4.length by omega)
  all_goals try have q5 := erase_len (show k.toNat < s5.length by omega)
  all_goals try have q6 := erase_len1 (show k.toNat < s4.length by omega)
  all_goals try have q7 := erase_len1 (show k.toNat < s5.length by omega)
  all_goals try have q8 : s5.length < 12 := by omega
  all_goals try have q9 : ¬ s5.length < 12 := by omega
  all_goals try have q3 : min k.toNat s4.length = k.toNat := by omega
  all_goals first
    | (rw [br_t]; rotate_left; · (simp [Ses.ok, *] <;> omega))
    | (rw [br_f]; rotate_left; · (simp [Ses.ok, *] <;> omega))
    | skip
  all_goals first
    | (simp [Ses.next, Ses.come, erase_eq, *] <;> omega)
    | ((try clear hk); (try simp [Ses.next, Ses.come, erase_eq, *]))
  all_goals try omega
  all_goals (show _ = _; kernel_rfl)
  all_goals trace_state
  all_goals sorry

theorem oTakeC : Contract Try.prog 132 (Ent.own oTakeCG).F := by
  refine contract_weak (contract_canon oTake) fun vs bs r h => ?_
  unfold Ent.F oTakeCG at h
  dsimp only at h
  split at h
  · rename_i k s0 m1 s2 m3 m4 m5 n1 s1 n3 s3 n4 s4 n5 s5
    obtain ⟨hc, h⟩ := need_some h
    obtain ⟨e1, e3, e4, e5, hb, he, l1, l3, l4, l5, hk⟩ := of_decide_eq_true hc
    exact (oTakeC_fun k s0 m1 s2 m3 m4 m5 n1 s1 n3 s3 n4 s4 n5 s5 e1 e3 e4 e5 hb he l1 l3 l4 l5 hk).trans h
  · cases h
set_option maxHeartbeats 8000000 in
theorem oSendC_fun (k : Int) (s0 : Int) (m1 : Nat) (s2 : Int) (m3 m4 m5 : Nat) (n1 : Option Bool) (s1 : List (List UInt8)) (n3 : Option Bool) (s3 : List (List UInt8)) (n4 : Option Bool) (s4 : List (Int × Int × List UInt8 × Unit)) (n5 : Option Bool) (s5 : List (Int × Int × Unit)) (e1 : m1 = s1.length) (e3 : m3 = s3.length) (e4 : m4 = s4.length) (e5 : m5 = s5.length) (hb : 0 ≤ s2 ∧ s2 ≤ 1000000000) (he : 0 ≤ s0 ∧ s0 ≤ 1000000000) (l1 : s1.length ≤ 1000000000) (l3 : s3.length ≤ 1000000000) (l4 : s4.length ≤ 1000000000) (l5 : s5.length ≤ 1000000000) : (oSendG [.ptr 0 0, .i .i64 k] [.box [.i .i64 s0, .ref 1 0 m1, .i .i64 s2, .ref 2 0 m3, .ref 3 0 m4, .ref 4 0 m5], .row false n1 .str s1, .row false n3 .str s3, .row false n4 (.pair (.int .i64) (.pair (.int .i64) (.pair .str .unit))) s4, .row false n5 (.pair (.int .i64) (.pair (.int .i64) .unit)) s5]).run.map (canonR 5) = (.br (Ses.ok (Ses.mk s0 s1 s2 s3 s4 s5) 2 k []) (.leaf (.b true, [some (.box [.i .i64 ((Ses.mk s0 s1 s2 s3 s4 s5).next 2 k []).e, .ref 5 0 ((Ses.mk s0 s1 s2 s3 s4 s5).next 2 k []).it.length, .i .i64 ((Ses.mk s0 s1 s2 s3 s4 s5).next 2 k []).b, .ref 6 0 ((Ses.mk s0 s1 s2 s3 s4 s5).next 2 k []).ha.length, .ref 7 0 ((Ses.mk s0 s1 s2 s3 s4 s5).next 2 k []).w.length, .ref 8 0 ((Ses.mk s0 s1 s2 s3 s4 s5).next 2 k []).a.length]), none, none, none, none, some (.row false none .str ((Ses.mk s0 s1 s2 s3 s4 s5).next 2 k []).it), some (.row false none .str ((Ses.mk s0 s1 s2 s3 s4 s5).next 2 k []).ha), some (.row false none (.pair (.int .i64) (.pair (.int .i64) (.pair .str .unit))) ((Ses.mk s0 s1 s2 s3 s4 s5).next 2 k []).w), some (.row false none (.pair (.int .i64) (.pair (.int .i64) .unit)) ((Ses.mk s0 s1 s2 s3 s4 s5).next 2 k []).a)])) (.leaf (.b false, [some (.box [.i .i64 (Ses.mk s0 s1 s2 s3 s4 s5).e, .ref 5 0 (Ses.mk s0 s1 s2 s3 s4 s5).it.length, .i .i64 (Ses.mk s0 s1 s2 s3 s4 s5).b, .ref 6 0 (Ses.mk s0 s1 s2 s3 s4 s5).ha.length, .ref 7 0 (Ses.mk s0 s1 s2 s3 s4 s5).w.length, .ref 8 0 (Ses.mk s0 s1 s2 s3 s4 s5).a.length]), none, none, none, none, some (.row false none .str (Ses.mk s0 s1 s2 s3 s4 s5).it), some (.row false none .str (Ses.mk s0 s1 s2 s3 s4 s5).ha), some (.row false none (.pair (.int .i64) (.pair (.int .i64) (.pair .str .unit))) (Ses.mk s0 s1 s2 s3 s4 s5).w), some (.row false none (.pair (.int .i64) (.pair (.int .i64) .unit)) (Ses.mk s0 s1 s2 s3 s4 s5).a)])) : Br (V × List (Option Blk))).run := by
  subst e1 e3 e4 e5
  unfold oSendG
  try dsimp only
  have w2 : IntKind.i64.wrap (s2 + 4) = s2 + 4 := wrap_id (by omega) (by omega)
  have w1 : ∀ n : Int, 0 ≤ n → n ≤ 1000000000 → IntKind.i64.wrap (n + 1) = n + 1 := fun n h h' => wrap_id (by omega) (by omega)
  have w4 : IntKind.i64.wrap ((s4.length : Int) - 1) = (s4.length : Int) - 1 := wrap_id (by omega) (by omega)
  have w5 : IntKind.i64.wrap ((s5.length : Int) - 1) = (s5.length : Int) - 1 := wrap_id (by omega) (by omega)
  have w6 : IntKind.i64.wrap ((if (s1.length : Int) < s2 + 4 then (s1.length : Int) else s2 + 4) - 1) = (if (s1.length : Int) < s2 + 4 then (s1.length : Int) else s2 + 4) - 1 := by split <;> exact wrap_id (by omega) (by omega)
  have w7 : IntKind.i64.wrap (s0 + 1) = s0 + 1 := wrap_id (by omega) (by omega)
  simp only [List.drop_zero, List.take_length, Nat.zero_add, w2, w4, w5, w6, w7]
  repeat' first
    | ((with_reducible refine br_case (fun h => ?_) (fun h => ?_)) <;> (try simp only [Bool.and_eq_true, Bool.or_eq_true, decide_eq_true_eq, decide_eq_false_iff_not, beq_iff_eq, bne_iff_ne, beq_eq_false_iff_ne, bne_eq_false_iff_eq, Bool.not_eq_true', Bool.not_eq_false', ne_eq, Decidable.not_not] at h))
    | with_reducible refine need_case ?_ ?_
    | with_reducible refine opt_case ?_ (fun _ _ => ?_)
    | with_reducible refine leaf_case ?_
  all_goals try simp only [Bool.and_eq_true, decide_eq_true_eq, List.length_take, List.length_drop, Nat.sub_zero, nilT_eq, List.nil_append, List.take_nil]
  all_goals have hM : maxI = 9223372036854775807 := rfl
  all_goals try have w3 := w1 k (by omega) (by omega)
  all_goals try simp only [w3]
  all_goals try omega
  all_goals try (exact ⟨_, List.getElem?_eq_getElem (by omega)⟩)
  all_goals try have q1 : (k + 1).toNat = k.toNat + 1 := by omega
  all_goals try have q2 : min k.toNat s5.length = k.toNat := by omega
  all_goals try have q4 := erase_len (show k.toNat < s4.length by omega)
  all_goals try have q5 := erase_len (show k.toNat < s5.length by omega)
  all_goals try have q6 := erase_len1 (show k.toNat < s4.length by omega)
  all_goals try have q7 := erase_len1 (show k.toNat < s5.length by omega)
  all_goals try have q8 : s5.length < 12 := by omega
  all_goals try have q9 : ¬ s5.length < 12 := by omega
  all_goals try have q3 : min k.toNat s4.length = k.toNat := by omega
  all_goals first
    | (rw [br_t]; rotate_left; · (simp [Ses.ok, *] <;> omega))
    | (rw [br_f]; rotate_left; · (simp [Ses.ok, *] <;> omega))
    | skip
  all_goals first
    | (simp [Ses.next, Ses.come, erase_eq, *] <;> omega)
    | ((try clear hk); (try simp [Ses.next, Ses.come, erase_eq, *]))
  all_goals try omega
  all_goals (show _ = _; kernel_rfl)
  all_goals trace_state
  all_goals sorry

theorem oSendC : Contract Try.prog 70 (Ent.own oSendCG).F := by
  refine contract_weak (contract_canon oSend) fun vs bs r h => ?_
  unfold Ent.F oSendCG at h
  dsimp only at h
  split at h
  · rename_i k s0 m1 s2 m3 m4 m5 n1 s1 n3 s3 n4 s4 n5 s5
    obtain ⟨hc, h⟩ := need_some h
    obtain ⟨e1, e3, e4, e5, hb, he, l1, l3, l4, l5⟩ := of_decide_eq_true hc
    exact (oSendC_fun k s0 m1 s2 m3 m4 m5 n1 s1 n3 s3 n4 s4 n5 s5 e1 e3 e4 e5 hb he l1 l3 l4 l5).trans h
  · cases h
end Go.Proofs.Ytjghbihlgfjebaa.Den
