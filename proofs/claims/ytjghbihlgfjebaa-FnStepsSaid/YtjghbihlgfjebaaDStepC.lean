/- What functions of the program do, by the machine: StepC. -/
import Derived.Test.YtjghbihlgfjebaaDStep3
import Derived.KernelRfl
import Derived.Test.YtjghbihlgfjebaaRows
namespace Go.Proofs.Ytjghbihlgfjebaa.Den
open Go.Proofs
set_option maxRecDepth 100000
/-- A session's value. -/
structure Ses where
  e : Int
  it : List (List UInt8)
  b : Int
  ha : List (List UInt8)
  w : List (Int × Int × List UInt8 × Unit)
  a : List (Int × Int × Unit)
/-- A packet comes. -/
def Ses.come (s : Ses) (p : (Int × Int × List UInt8 × Unit)) : Ses :=
  if p.1 = s.e then
    if p.2.1 = s.ha.length then
      if s.a.length < 12 then ⟨s.e, s.it, s.b, s.ha ++ [p.2.2.1], s.w, s.a ++ [(s.e, ((s.ha.length + 1 : Nat) : Int), ())]⟩ else ⟨s.e, s.it, s.b, s.ha ++ [p.2.2.1], s.w, s.a⟩
    else if s.a.length < 12 then ⟨s.e, s.it, s.b, s.ha, s.w, s.a ++ [(s.e, (s.ha.length : Int), ())]⟩ else s
  else s
/-- Whether a step can be done. -/
def Ses.ok (s : Ses) (x0 x1 : Int) (x2 : List UInt8) : Bool :=
  if x0 = 1 then decide (x2.length ≤ 20 ∧ s.it.length ≠ 30)
  else if x0 = 2 then decide (s.b ≤ x1 ∧ x1 < s.b + 4 ∧ x1 < s.it.length ∧ s.w.length ≠ 12)
  else if x0 = 6 then decide (0 ≤ x1 ∧ x1 < s.a.length)
  else if x0 = 7 then decide (s.e ≠ 1000)
  else decide ((0 ≤ x1 ∧ x1 < s.w.length) ∧ (3 ≤ x0 ∧ x0 ≤ 5) ∧ (x0 = 5 → s.w.length ≠ 12))
/-- The session behind a step that can be done. -/
def Ses.next (s : Ses) (x0 x1 : Int) (x2 : List UInt8) : Ses :=
  if x0 = 1 then ⟨s.e, s.it ++ [x2], s.b, s.ha, s.w, s.a⟩
  else if x0 = 2 then ⟨s.e, s.it, s.b, s.ha, s.w ++ [(s.e, x1, s.it.getD x1.toNat [], ())], s.a⟩
  else if x0 = 6 then ⟨s.e, s.it, (if (s.a.getD x1.toNat (0, 0, ())).1 = s.e then (if (s.a.getD x1.toNat (0, 0, ())).2.1 > s.b then (s.a.getD x1.toNat (0, 0, ())).2.1 else s.b) else s.b), s.ha, s.w, s.a.eraseIdx x1.toNat⟩
  else if x0 = 7 then ⟨s.e + 1, s.it, s.ha.length, s.ha, s.w, s.a⟩
  else if x0 = 5 then ⟨s.e, s.it, s.b, s.ha, s.w ++ [s.w.getD x1.toNat (0, 0, [], ())], s.a⟩
  else if x0 = 3 then Ses.come ⟨s.e, s.it, s.b, s.ha, s.w.eraseIdx x1.toNat, s.a⟩ (s.w.getD x1.toNat (0, 0, [], ()))
  else ⟨s.e, s.it, s.b, s.ha, s.w.eraseIdx x1.toNat, s.a⟩
def l15StepCG : List V → List Blk → Br (V × List (Option Blk))
  | [.agg [.i .i64 s0, .ref 0 0 m1, .i .i64 s2, .ref 1 0 m3, .ref 2 0 m4, .ref 3 0 m5], .agg [.i .i64 x0, .i .i64 x1, .s x2]], [.row false n1 .str s1, .row false n3 .str s3, .row false n4 (.pair (.int .i64) (.pair (.int .i64) (.pair .str .unit))) s4, .row false n5 (.pair (.int .i64) (.pair (.int .i64) .unit)) s5] => .need (decide ((m1 = s1.length) ∧ (m3 = s3.length) ∧ (m4 = s4.length) ∧ (m5 = s5.length) ∧ (0 ≤ s2 ∧ s2 ≤ 1000000000) ∧ (0 ≤ s0 ∧ s0 ≤ 1000000000) ∧ (s1.length ≤ 1000000000) ∧ (s3.length ≤ 1000000000) ∧ (s4.length ≤ 1000000000) ∧ (s5.length ≤ 1000000000))) (.br (Ses.ok (Ses.mk s0 s1 s2 s3 s4 s5) x0 x1 x2) (.leaf (.tup [.agg [.i .i64 (Ses.next ⟨s0, s1, s2, s3, s4, s5⟩ x0 x1 x2).e, .ref 4 0 (Ses.next ⟨s0, s1, s2, s3, s4, s5⟩ x0 x1 x2).it.length, .i .i64 (Ses.next ⟨s0, s1, s2, s3, s4, s5⟩ x0 x1 x2).b, .ref 5 0 (Ses.next ⟨s0, s1, s2, s3, s4, s5⟩ x0 x1 x2).ha.length, .ref 6 0 (Ses.next ⟨s0, s1, s2, s3, s4, s5⟩ x0 x1 x2).w.length, .ref 7 0 (Ses.next ⟨s0, s1, s2, s3, s4, s5⟩ x0 x1 x2).a.length], .b true], [none, none, none, none, some (.row false none .str (Ses.next ⟨s0, s1, s2, s3, s4, s5⟩ x0 x1 x2).it), some (.row false none .str (Ses.next ⟨s0, s1, s2, s3, s4, s5⟩ x0 x1 x2).ha), some (.row false none (.pair (.int .i64) (.pair (.int .i64) (.pair .str .unit))) (Ses.next ⟨s0, s1, s2, s3, s4, s5⟩ x0 x1 x2).w), some (.row false none (.pair (.int .i64) (.pair (.int .i64) .unit)) (Ses.next ⟨s0, s1, s2, s3, s4, s5⟩ x0 x1 x2).a)])) (.leaf (.tup [.agg [.i .i64 (Ses.mk s0 s1 s2 s3 s4 s5).e, .ref 4 0 (Ses.mk s0 s1 s2 s3 s4 s5).it.length, .i .i64 (Ses.mk s0 s1 s2 s3 s4 s5).b, .ref 5 0 (Ses.mk s0 s1 s2 s3 s4 s5).ha.length, .ref 6 0 (Ses.mk s0 s1 s2 s3 s4 s5).w.length, .ref 7 0 (Ses.mk s0 s1 s2 s3 s4 s5).a.length], .b false], [none, none, none, none, some (.row false none .str (Ses.mk s0 s1 s2 s3 s4 s5).it), some (.row false none .str (Ses.mk s0 s1 s2 s3 s4 s5).ha), some (.row false none (.pair (.int .i64) (.pair (.int .i64) (.pair .str .unit))) (Ses.mk s0 s1 s2 s3 s4 s5).w), some (.row false none (.pair (.int .i64) (.pair (.int .i64) .unit)) (Ses.mk s0 s1 s2 s3 s4 s5).a)])))
  | _, _ => .no
def oStepCG : List V → List Blk → Br (V × List (Option Blk))
  | [.ptr 0 0, .agg [.i .i64 x0, .i .i64 x1, .s x2]], [.box [.i .i64 s0, .ref 1 0 m1, .i .i64 s2, .ref 2 0 m3, .ref 3 0 m4, .ref 4 0 m5], .row false n1 .str s1, .row false n3 .str s3, .row false n4 (.pair (.int .i64) (.pair (.int .i64) (.pair .str .unit))) s4, .row false n5 (.pair (.int .i64) (.pair (.int .i64) .unit)) s5] => .need (decide ((m1 = s1.length) ∧ (m3 = s3.length) ∧ (m4 = s4.length) ∧ (m5 = s5.length) ∧ (0 ≤ s2 ∧ s2 ≤ 1000000000) ∧ (0 ≤ s0 ∧ s0 ≤ 1000000000) ∧ (s1.length ≤ 1000000000) ∧ (s3.length ≤ 1000000000) ∧ (s4.length ≤ 1000000000) ∧ (s5.length ≤ 1000000000))) (.br (Ses.ok (Ses.mk s0 s1 s2 s3 s4 s5) x0 x1 x2) (.leaf (.b true, [some (.box [.i .i64 (Ses.next ⟨s0, s1, s2, s3, s4, s5⟩ x0 x1 x2).e, .ref 5 0 (Ses.next ⟨s0, s1, s2, s3, s4, s5⟩ x0 x1 x2).it.length, .i .i64 (Ses.next ⟨s0, s1, s2, s3, s4, s5⟩ x0 x1 x2).b, .ref 6 0 (Ses.next ⟨s0, s1, s2, s3, s4, s5⟩ x0 x1 x2).ha.length, .ref 7 0 (Ses.next ⟨s0, s1, s2, s3, s4, s5⟩ x0 x1 x2).w.length, .ref 8 0 (Ses.next ⟨s0, s1, s2, s3, s4, s5⟩ x0 x1 x2).a.length]), none, none, none, none, some (.row false none .str (Ses.next ⟨s0, s1, s2, s3, s4, s5⟩ x0 x1 x2).it), some (.row false none .str (Ses.next ⟨s0, s1, s2, s3, s4, s5⟩ x0 x1 x2).ha), some (.row false none (.pair (.int .i64) (.pair (.int .i64) (.pair .str .unit))) (Ses.next ⟨s0, s1, s2, s3, s4, s5⟩ x0 x1 x2).w), some (.row false none (.pair (.int .i64) (.pair (.int .i64) .unit)) (Ses.next ⟨s0, s1, s2, s3, s4, s5⟩ x0 x1 x2).a)])) (.leaf (.b false, [some (.box [.i .i64 (Ses.mk s0 s1 s2 s3 s4 s5).e, .ref 5 0 (Ses.mk s0 s1 s2 s3 s4 s5).it.length, .i .i64 (Ses.mk s0 s1 s2 s3 s4 s5).b, .ref 6 0 (Ses.mk s0 s1 s2 s3 s4 s5).ha.length, .ref 7 0 (Ses.mk s0 s1 s2 s3 s4 s5).w.length, .ref 8 0 (Ses.mk s0 s1 s2 s3 s4 s5).a.length]), none, none, none, none, some (.row false none .str (Ses.mk s0 s1 s2 s3 s4 s5).it), some (.row false none .str (Ses.mk s0 s1 s2 s3 s4 s5).ha), some (.row false none (.pair (.int .i64) (.pair (.int .i64) (.pair .str .unit))) (Ses.mk s0 s1 s2 s3 s4 s5).w), some (.row false none (.pair (.int .i64) (.pair (.int .i64) .unit)) (Ses.mk s0 s1 s2 s3 s4 s5).a)])))
  | _, _ => .no
theorem erase_eq {α : Type} {l : List α} {i : Nat} : List.take i (List.take i l) ++ List.take (l.length - (i + 1)) (List.drop (i + 1) l) = l.eraseIdx i := by
  rw [List.take_take, Nat.min_self, List.eraseIdx_eq_take_drop_succ, List.take_of_length_le (l := List.drop (i + 1) l) (by simp)]
theorem erase_len {α : Type} {l : List α} {i : Nat} (h : i < l.length) : i + (l.length - (i + 1)) = (l.eraseIdx i).length := by
  rw [List.length_eraseIdx, if_pos h]; omega
theorem erase_len1 {α : Type} {l : List α} {i : Nat} (h : i < l.length) : l.length - 1 = (l.eraseIdx i).length := by
  rw [List.length_eraseIdx, if_pos h]
set_option maxHeartbeats 8000000 in
theorem l15StepC_fun (s0 : Int) (m1 : Nat) (s2 : Int) (m3 m4 m5 : Nat) (x0 x1 : Int) (x2 : List UInt8) (n1 : Option Bool) (s1 : List (List UInt8)) (n3 : Option Bool) (s3 : List (List UInt8)) (n4 : Option Bool) (s4 : List (Int × Int × List UInt8 × Unit)) (n5 : Option Bool) (s5 : List (Int × Int × Unit)) (e1 : m1 = s1.length) (e3 : m3 = s3.length) (e4 : m4 = s4.length) (e5 : m5 = s5.length) (hb : 0 ≤ s2 ∧ s2 ≤ 1000000000) (he : 0 ≤ s0 ∧ s0 ≤ 1000000000) (l1 : s1.length ≤ 1000000000) (l3 : s3.length ≤ 1000000000) (l4 : s4.length ≤ 1000000000) (l5 : s5.length ≤ 1000000000) : (l15StepG [.agg [.i .i64 s0, .ref 0 0 m1, .i .i64 s2, .ref 1 0 m3, .ref 2 0 m4, .ref 3 0 m5], .agg [.i .i64 x0, .i .i64 x1, .s x2]] [.row false n1 .str s1, .row false n3 .str s3, .row false n4 (.pair (.int .i64) (.pair (.int .i64) (.pair .str .unit))) s4, .row false n5 (.pair (.int .i64) (.pair (.int .i64) .unit)) s5]).run.map (canonR 4) = (.br (Ses.ok (Ses.mk s0 s1 s2 s3 s4 s5) x0 x1 x2) (.leaf (.tup [.agg [.i .i64 (Ses.next ⟨s0, s1, s2, s3, s4, s5⟩ x0 x1 x2).e, .ref 4 0 (Ses.next ⟨s0, s1, s2, s3, s4, s5⟩ x0 x1 x2).it.length, .i .i64 (Ses.next ⟨s0, s1, s2, s3, s4, s5⟩ x0 x1 x2).b, .ref 5 0 (Ses.next ⟨s0, s1, s2, s3, s4, s5⟩ x0 x1 x2).ha.length, .ref 6 0 (Ses.next ⟨s0, s1, s2, s3, s4, s5⟩ x0 x1 x2).w.length, .ref 7 0 (Ses.next ⟨s0, s1, s2, s3, s4, s5⟩ x0 x1 x2).a.length], .b true], [none, none, none, none, some (.row false none .str (Ses.next ⟨s0, s1, s2, s3, s4, s5⟩ x0 x1 x2).it), some (.row false none .str (Ses.next ⟨s0, s1, s2, s3, s4, s5⟩ x0 x1 x2).ha), some (.row false none (.pair (.int .i64) (.pair (.int .i64) (.pair .str .unit))) (Ses.next ⟨s0, s1, s2, s3, s4, s5⟩ x0 x1 x2).w), some (.row false none (.pair (.int .i64) (.pair (.int .i64) .unit)) (Ses.next ⟨s0, s1, s2, s3, s4, s5⟩ x0 x1 x2).a)])) (.leaf (.tup [.agg [.i .i64 (Ses.mk s0 s1 s2 s3 s4 s5).e, .ref 4 0 (Ses.mk s0 s1 s2 s3 s4 s5).it.length, .i .i64 (Ses.mk s0 s1 s2 s3 s4 s5).b, .ref 5 0 (Ses.mk s0 s1 s2 s3 s4 s5).ha.length, .ref 6 0 (Ses.mk s0 s1 s2 s3 s4 s5).w.length, .ref 7 0 (Ses.mk s0 s1 s2 s3 s4 s5).a.length], .b false], [none, none, none, none, some (.row false none .str (Ses.mk s0 s1 s2 s3 s4 s5).it), some (.row false none .str (Ses.mk s0 s1 s2 s3 s4 s5).ha), some (.row false none (.pair (.int .i64) (.pair (.int .i64) (.pair .str .unit))) (Ses.mk s0 s1 s2 s3 s4 s5).w), some (.row false none (.pair (.int .i64) (.pair (.int .i64) .unit)) (Ses.mk s0 s1 s2 s3 s4 s5).a)])) : Br (V × List (Option Blk))).run := by
  subst e1 e3 e4 e5
  unfold l15StepG
  dsimp only
  have w2 : IntKind.i64.wrap (s2 + 4) = s2 + 4 := wrap_id (by omega) (by omega)
  have w1 : ∀ n : Int, 0 ≤ n → n ≤ 1000000000 → IntKind.i64.wrap (n + 1) = n + 1 := fun n h h' => wrap_id (by omega) (by omega)
  have w4 : IntKind.i64.wrap ((s4.length : Int) - 1) = (s4.length : Int) - 1 := wrap_id (by omega) (by omega)
  have w5 : IntKind.i64.wrap ((s5.length : Int) - 1) = (s5.length : Int) - 1 := wrap_id (by omega) (by omega)
  have w6 : IntKind.i64.wrap ((if (s1.length : Int) < s2 + 4 then (s1.length : Int) else s2 + 4) - 1) = (if (s1.length : Int) < s2 + 4 then (s1.length : Int) else s2 + 4) - 1 := by split <;> exact wrap_id (by omega) (by omega)
  have w7 : IntKind.i64.wrap (s0 + 1) = s0 + 1 := wrap_id (by omega) (by omega)
  simp only [List.drop_zero, List.take_length, Nat.zero_add, w2, w4, w5, w6, w7]
  repeat' first
    | ((with_reducible refine br_case (fun h => ?_) (fun h => ?_)) <;> (try simp only [Bool.and_eq_true, Bool.or_eq_true, decide_eq_true_eq, decide_eq_false_iff_not, beq_iff_eq, bne_iff_ne, beq_eq_false_iff_ne, bne_eq_false_iff_eq, Bool.not_eq_true', Bool.not_eq_false', ne_eq, Decidable.not_not] at h))
    | with_reducible refine need_case ?_ ?_
    | with_reducible refine opt_case ?_ (fun _ _ => ?_)
    | with_reducible refine leaf_case ?_
  all_goals try simp only [Bool.and_eq_true, decide_eq_true_eq, List.length_take, List.length_drop, Nat.sub_zero, nilT_eq, List.nil_append, List.take_nil]
  all_goals have hM : maxI = 9223372036854775807 := rfl
  all_goals try have w3 := w1 x1 (by omega) (by omega)
  all_goals try simp only [w3]
  all_goals try omega
  all_goals try (exact ⟨_, List.getElem?_eq_getElem (by omega)⟩)
  all_goals try have q1 : (x1 + 1).toNat = x1.toNat + 1 := by omega
  all_goals try have q2 : min x1.toNat s5.length = x1.toNat := by omega
  all_goals try have q4 := erase_len (show x1.toNat < s4.length by omega)
  all_goals try have q5 := erase_len (show x1.toNat < s5.length by omega)
  all_goals try have q6 := erase_len1 (show x1.toNat < s4.length by omega)
  all_goals try have q7 := erase_len1 (show x1.toNat < s5.length by omega)
  all_goals try have q8 : s5.length < 12 := by omega
  all_goals try have q9 : ¬ s5.length < 12 := by omega
  all_goals try have q3 : min x1.toNat s4.length = x1.toNat := by omega
  all_goals first
    | (rw [br_t]; rotate_left; · (simp [Ses.ok, *] <;> omega))
    | (rw [br_f]; rotate_left; · (simp [Ses.ok, *] <;> omega))
    | skip
  all_goals try simp [Ses.next, Ses.come, erase_eq, *]
  all_goals try omega
  all_goals (show _ = _; kernel_rfl)
  all_goals trace_state
  all_goals sorry

theorem l15StepC : Contract Try.prog 64 (Ent.own l15StepCG).F := by
  refine contract_weak (contract_canon l15Step) fun vs bs r h => ?_
  unfold Ent.F l15StepCG at h
  dsimp only at h
  split at h
  · rename_i s0 m1 s2 m3 m4 m5 x0 x1 x2 n1 s1 n3 s3 n4 s4 n5 s5
    obtain ⟨hc, h⟩ := need_some h
    obtain ⟨e1, e3, e4, e5, hb, he, l1, l3, l4, l5⟩ := of_decide_eq_true hc
    exact (l15StepC_fun s0 m1 s2 m3 m4 m5 x0 x1 x2 n1 s1 n3 s3 n4 s4 n5 s5 e1 e3 e4 e5 hb he l1 l3 l4 l5).trans h
  · cases h
set_option maxHeartbeats 8000000 in
theorem oStepC_fun (x0 x1 : Int) (x2 : List UInt8) (s0 : Int) (m1 : Nat) (s2 : Int) (m3 m4 m5 : Nat) (n1 : Option Bool) (s1 : List (List UInt8)) (n3 : Option Bool) (s3 : List (List UInt8)) (n4 : Option Bool) (s4 : List (Int × Int × List UInt8 × Unit)) (n5 : Option Bool) (s5 : List (Int × Int × Unit)) (e1 : m1 = s1.length) (e3 : m3 = s3.length) (e4 : m4 = s4.length) (e5 : m5 = s5.length) (hb : 0 ≤ s2 ∧ s2 ≤ 1000000000) (he : 0 ≤ s0 ∧ s0 ≤ 1000000000) (l1 : s1.length ≤ 1000000000) (l3 : s3.length ≤ 1000000000) (l4 : s4.length ≤ 1000000000) (l5 : s5.length ≤ 1000000000) : (oStepG [.ptr 0 0, .agg [.i .i64 x0, .i .i64 x1, .s x2]] [.box [.i .i64 s0, .ref 1 0 m1, .i .i64 s2, .ref 2 0 m3, .ref 3 0 m4, .ref 4 0 m5], .row false n1 .str s1, .row false n3 .str s3, .row false n4 (.pair (.int .i64) (.pair (.int .i64) (.pair .str .unit))) s4, .row false n5 (.pair (.int .i64) (.pair (.int .i64) .unit)) s5]).run.map (canonR 5) = (.br (Ses.ok (Ses.mk s0 s1 s2 s3 s4 s5) x0 x1 x2) (.leaf (.b true, [some (.box [.i .i64 (Ses.next ⟨s0, s1, s2, s3, s4, s5⟩ x0 x1 x2).e, .ref 5 0 (Ses.next ⟨s0, s1, s2, s3, s4, s5⟩ x0 x1 x2).it.length, .i .i64 (Ses.next ⟨s0, s1, s2, s3, s4, s5⟩ x0 x1 x2).b, .ref 6 0 (Ses.next ⟨s0, s1, s2, s3, s4, s5⟩ x0 x1 x2).ha.length, .ref 7 0 (Ses.next ⟨s0, s1, s2, s3, s4, s5⟩ x0 x1 x2).w.length, .ref 8 0 (Ses.next ⟨s0, s1, s2, s3, s4, s5⟩ x0 x1 x2).a.length]), none, none, none, none, some (.row false none .str (Ses.next ⟨s0, s1, s2, s3, s4, s5⟩ x0 x1 x2).it), some (.row false none .str (Ses.next ⟨s0, s1, s2, s3, s4, s5⟩ x0 x1 x2).ha), some (.row false none (.pair (.int .i64) (.pair (.int .i64) (.pair .str .unit))) (Ses.next ⟨s0, s1, s2, s3, s4, s5⟩ x0 x1 x2).w), some (.row false none (.pair (.int .i64) (.pair (.int .i64) .unit)) (Ses.next ⟨s0, s1, s2, s3, s4, s5⟩ x0 x1 x2).a)])) (.leaf (.b false, [some (.box [.i .i64 (Ses.mk s0 s1 s2 s3 s4 s5).e, .ref 5 0 (Ses.mk s0 s1 s2 s3 s4 s5).it.length, .i .i64 (Ses.mk s0 s1 s2 s3 s4 s5).b, .ref 6 0 (Ses.mk s0 s1 s2 s3 s4 s5).ha.length, .ref 7 0 (Ses.mk s0 s1 s2 s3 s4 s5).w.length, .ref 8 0 (Ses.mk s0 s1 s2 s3 s4 s5).a.length]), none, none, none, none, some (.row false none .str (Ses.mk s0 s1 s2 s3 s4 s5).it), some (.row false none .str (Ses.mk s0 s1 s2 s3 s4 s5).ha), some (.row false none (.pair (.int .i64) (.pair (.int .i64) (.pair .str .unit))) (Ses.mk s0 s1 s2 s3 s4 s5).w), some (.row false none (.pair (.int .i64) (.pair (.int .i64) .unit)) (Ses.mk s0 s1 s2 s3 s4 s5).a)])) : Br (V × List (Option Blk))).run := by
  subst e1 e3 e4 e5
  unfold oStepG
  dsimp only
  have w2 : IntKind.i64.wrap (s2 + 4) = s2 + 4 := wrap_id (by omega) (by omega)
  have w1 : ∀ n : Int, 0 ≤ n → n ≤ 1000000000 → IntKind.i64.wrap (n + 1) = n + 1 := fun n h h' => wrap_id (by omega) (by omega)
  have w4 : IntKind.i64.wrap ((s4.length : Int) - 1) = (s4.length : Int) - 1 := wrap_id (by omega) (by omega)
  have w5 : IntKind.i64.wrap ((s5.length : Int) - 1) = (s5.length : Int) - 1 := wrap_id (by omega) (by omega)
  have w6 : IntKind.i64.wrap ((if (s1.length : Int) < s2 + 4 then (s1.length : Int) else s2 + 4) - 1) = (if (s1.length : Int) < s2 + 4 then (s1.length : Int) else s2 + 4) - 1 := by split <;> exact wrap_id (by omega) (by omega)
  have w7 : IntKind.i64.wrap (s0 + 1) = s0 + 1 := wrap_id (by omega) (by omega)
  simp only [List.drop_zero, List.take_length, Nat.zero_add, w2, w4, w5, w6, w7]
  repeat' first
    | ((with_reducible refine br_case (fun h => ?_) (fun h => ?_)) <;> (try simp only [Bool.and_eq_true, Bool.or_eq_true, decide_eq_true_eq, decide_eq_false_iff_not, beq_iff_eq, bne_iff_ne, beq_eq_false_iff_ne, bne_eq_false_iff_eq, Bool.not_eq_true', Bool.not_eq_false', ne_eq, Decidable.not_not] at h))
    | with_reducible refine need_case ?_ ?_
    | with_reducible refine opt_case ?_ (fun _ _ => ?_)
    | with_reducible refine leaf_case ?_
  all_goals try simp only [Bool.and_eq_true, decide_eq_true_eq, List.length_take, List.length_drop, Nat.sub_zero, nilT_eq, List.nil_append, List.take_nil]
  all_goals have hM : maxI = 9223372036854775807 := rfl
  all_goals try have w3 := w1 x1 (by omega) (by omega)
  all_goals try simp only [w3]
  all_goals try omega
  all_goals try (exact ⟨_, List.getElem?_eq_getElem (by omega)⟩)
  all_goals try have q1 : (x1 + 1).toNat = x1.toNat + 1 := by omega
  all_goals try have q2 : min x1.toNat s5.length = x1.toNat := by omega
  all_goals try have q4 := erase_len (show x1.toNat < s4.length by omega)
  all_goals try have q5 := erase_len (show x1.toNat < s5.length by omega)
  all_goals try have q6 := erase_len1 (show x1.toNat < s4.length by omega)
  all_goals try have q7 := erase_len1 (show x1.toNat < s5.length by omega)
  all_goals try have q8 : s5.length < 12 := by omega
  all_goals try have q9 : ¬ s5.length < 12 := by omega
  all_goals try have q3 : min x1.toNat s4.length = x1.toNat := by omega
  all_goals first
    | (rw [br_t]; rotate_left; · (simp [Ses.ok, *] <;> omega))
    | (rw [br_f]; rotate_left; · (simp [Ses.ok, *] <;> omega))
    | skip
  all_goals try simp [Ses.next, Ses.come, erase_eq, *]
  all_goals try omega
  all_goals (show _ = _; kernel_rfl)
  all_goals trace_state
  all_goals sorry

theorem oStepC : Contract Try.prog 93 (Ent.own oStepCG).F := by
  refine contract_weak (contract_canon oStep) fun vs bs r h => ?_
  unfold Ent.F oStepCG at h
  dsimp only at h
  split at h
  · rename_i x0 x1 x2 s0 m1 s2 m3 m4 m5 n1 s1 n3 s3 n4 s4 n5 s5
    obtain ⟨hc, h⟩ := need_some h
    obtain ⟨e1, e3, e4, e5, hb, he, l1, l3, l4, l5⟩ := of_decide_eq_true hc
    exact (oStepC_fun x0 x1 x2 s0 m1 s2 m3 m4 m5 n1 s1 n3 s3 n4 s4 n5 s5 e1 e3 e4 e5 hb he l1 l3 l4 l5).trans h
  · cases h
end Go.Proofs.Ytjghbihlgfjebaa.Den
