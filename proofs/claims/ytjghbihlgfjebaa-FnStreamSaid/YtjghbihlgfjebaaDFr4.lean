/- What functions of the program do, by the machine: Fr4. -/
import Derived.Test.YtjghbihlgfjebaaDCloneI
import Derived.KernelRfl
import Derived.Test.YtjghbihlgfjebaaRows
namespace Go.Proofs.Ytjghbihlgfjebaa.Den
open Go.Proofs
set_option maxRecDepth 100000
/-- A reader that was fed. -/
def feedA (a : List UInt8) (b : Bool) (t : List UInt8) : List UInt8 := if b = true then a else (unf (a ++ t)).2.1
def feedQ (a : List UInt8) (q : List (List UInt8)) (b : Bool) (t : List UInt8) : List (List UInt8) := if b = true then q else q ++ (unf (a ++ t)).1.take (40 - q.length)
def feedB (a : List UInt8) (b : Bool) (t : List UInt8) : Bool := if b = true then true else (unf (a ++ t)).2.2
/-- What feeding answers. -/
def fdO (a : List UInt8) (q : List (List UInt8)) (b : Bool) (t : List UInt8) : Bool := goodR a q b && decide (t.length ≤ 300)
def fdA (a : List UInt8) (q : List (List UInt8)) (b : Bool) (t : List UInt8) : List UInt8 := bif fdO a q b t then feedA a b t else []
def fdQ (a : List UInt8) (q : List (List UInt8)) (b : Bool) (t : List UInt8) : List (List UInt8) := bif fdO a q b t then feedQ a q b t else []
def fdB (a : List UInt8) (q : List (List UInt8)) (b : Bool) (t : List UInt8) : Bool := bif fdO a q b t then feedB a b t else false
def feedG : List V → List Blk → Br (V × List (Option Blk))
  | [.agg [.s a, .sl .str q, .b b], .s t], [] => .need (decide (a.length ≤ 50000 ∧ t.length ≤ 50000 ∧ q.length ≤ 40)) (.leaf (.agg [.s (feedA a b t), .ref 0 0 (feedQ a q b t).length, .b (feedB a b t)], [some (.row false none .str (feedQ a q b t))]))
  | _, _ => .no
def feedRG : List V → List Blk → Br (V × List (Option Blk))
  | [.agg [.s a, .sl .str q, .b b], .s t], [] => .need (decide (a.length ≤ 50000)) (.leaf (.tup [.agg [.s (fdA a q b t), .ref 0 0 (fdQ a q b t).length, .b (fdB a q b t)], .b (fdO a q b t)], [some (.row false none .str (fdQ a q b t))]))
  | _, _ => .no
theorem goodR_len {a : List UInt8} {q : List (List UInt8)} {b : Bool} (h : goodR a q b = true) : q.length ≤ 40 := by
  unfold goodR at h
  simp only [Bool.and_eq_true, decide_eq_true_eq] at h
  exact h.1
theorem feed_fun (a : List UInt8) (q : List (List UInt8)) (b : Bool) (t : List UInt8) (hc : (decide (a.length ≤ 50000 ∧ t.length ≤ 50000 ∧ q.length ≤ 40)) = true) : (funN Try.prog (look [(102, .rd1 cloneStrG), (88, .rd1 unfG)]) (look []) Try.f137 [.agg [.s a, .sl .str q, .b b], .s t] []).map (canonR 0) = (.leaf (.agg [.s (feedA a b t), .ref 0 0 (feedQ a q b t).length, .b (feedB a b t)], [some (.row false none .str (feedQ a q b t))]) : Br (V × List (Option Blk))).run := by
  have e : funN Try.prog (look [(102, .rd1 cloneStrG), (88, .rd1 unfG)]) (look []) Try.f137 [.agg [.s a, .sl .str q, .b b], .s t] [] = ((ifT (decide (q.length ≤ (1000000000 : Nat)))
  (ifB b (some (V.agg [V.s a, V.ref (0 : Nat) (0 : Nat) q.length, V.b b], [some (Blk.row false none Cd.str q)]))
  (ifT (decide (a.length + t.length ≤ (9223372036854775807 : Nat)))
  (ifT (decide ((a ++ t).length ≤ (100000 : Nat)))
  (ifT
  (decide
  ((0 : Int) ≤
  if IntKind.i64.wrap ((40 : Int) - (↑q.length : Int)) < (↑(unf (a ++ t)).fst.length : Int) then
  IntKind.i64.wrap ((40 : Int) - (↑q.length : Int))
  else (↑(unf (a ++ t)).fst.length : Int)) &&
  decide
  ((if IntKind.i64.wrap ((40 : Int) - (↑q.length : Int)) < (↑(unf (a ++ t)).fst.length : Int) then
  IntKind.i64.wrap ((40 : Int) - (↑q.length : Int))
  else (↑(unf (a ++ t)).fst.length : Int)) ≤
  (↑((unf (a ++ t)).fst.length - (0 : Nat)) : Int)))
  (ifT
  (decide
  ((q.length +
  (List.take
  ((if
  IntKind.i64.wrap ((40 : Int) - (↑q.length : Int)) <
  (↑(unf (a ++ t)).fst.length : Int) then
  IntKind.i64.wrap ((40 : Int) - (↑q.length : Int))
  else (↑(unf (a ++ t)).fst.length : Int)).toNat -
  (0 : Nat))
  (List.drop (0 : Nat) (unf (a ++ t)).fst)).length) *
  (16 : Nat) ≤
  (140737488355328 : Nat)) &&
  decide
  (q.length +
  (List.take
  ((if IntKind.i64.wrap ((40 : Int) - (↑q.length : Int)) < (↑(unf (a ++ t)).fst.length : Int) then
  IntKind.i64.wrap ((40 : Int) - (↑q.length : Int))
  else (↑(unf (a ++ t)).fst.length : Int)).toNat -
  (0 : Nat))
  (List.drop (0 : Nat) (unf (a ++ t)).fst)).length ≤
  maxI))
  (some
  (V.agg
  [V.s (unf (a ++ t)).snd.fst,
  V.ref (0 : Nat) (0 : Nat)
  (q.length +
  (List.take
  ((if
  IntKind.i64.wrap ((40 : Int) - (↑q.length : Int)) <
  (↑(unf (a ++ t)).fst.length : Int) then
  IntKind.i64.wrap ((40 : Int) - (↑q.length : Int))
  else (↑(unf (a ++ t)).fst.length : Int)).toNat -
  (0 : Nat))
  (List.drop (0 : Nat) (unf (a ++ t)).fst)).length),
  V.b (unf (a ++ t)).snd.snd],
  [some
  (Blk.row false none Cd.str
  (List.take q.length (List.drop (0 : Nat) q) ++
  List.take
  ((if
  IntKind.i64.wrap ((40 : Int) - (↑q.length : Int)) <
  (↑(unf (a ++ t)).fst.length : Int) then
  IntKind.i64.wrap ((40 : Int) - (↑q.length : Int))
  else (↑(unf (a ++ t)).fst.length : Int)).toNat -
  (0 : Nat))
  (List.drop (0 : Nat) (unf (a ++ t)).fst)))])))))))) : _) := by kernel_rfl
  rw [e]
  clear e
  obtain ⟨h1, h2, h3⟩ := of_decide_eq_true hc
  have hM : maxI = 9223372036854775807 := rfl
  rw [ifT_true (decide_eq_true (by omega))]
  unfold feedA feedQ feedB
  cases b with
  | true => rfl
  | false =>
    have hl := (unf_left _ (a ++ t) (Nat.le_refl _)).2.2.2
    have hal : (a ++ t).length ≤ 100000 := by rw [List.length_append]; omega
    rw [ifB_false rfl, ifT_true (decide_eq_true (by omega)), ifT_true (decide_eq_true hal), wrap_id (by omega) (by omega)]
    generalize unf (a ++ t) = v at *
    have hk : ∃ k : Nat, (if (40 : Int) - q.length < v.1.length then (40 : Int) - q.length else (v.1.length : Int)) = (k : Int) ∧ k ≤ v.1.length ∧ v.1.take k = v.1.take (40 - q.length) := by
      by_cases q1 : (40 : Int) - q.length < v.1.length
      · exact ⟨40 - q.length, by rw [if_pos q1]; omega, by omega, rfl⟩
      · exact ⟨v.1.length, by rw [if_neg q1], Nat.le_refl _, by rw [List.take_length, List.take_of_length_le (by omega)]⟩
    obtain ⟨k, e1, e2, e3⟩ := hk
    simp only [e1, Int.toNat_natCast, Nat.sub_zero, List.drop_zero, e3, List.take_length]
    rw [ifT_true (by simp only [Bool.and_eq_true, decide_eq_true_eq]; omega), ifT_true (by simp only [Bool.and_eq_true, decide_eq_true_eq, List.length_take]; omega)]
    simp only [← List.length_append]
    rfl
theorem feed : Contract Try.prog 137 (Ent.rd1 feedG).F := by
  refine contract_weak (contract_canon (fun_contractN' (KnowsL.cons (enters_fn Try.func102 (by kernel_rfl) (by kernel_rfl)) cloneStr (KnowsL.cons (enters_fn Try.func88 (by kernel_rfl) (by kernel_rfl)) iunf KnowsL.nil)).knows (Λ := look []) Try.func137 (c := Try.f137.body.getD .skip) (F := fun vs bs => funN Try.prog (look [(102, .rd1 cloneStrG), (88, .rd1 unfG)]) (look []) Try.f137 vs bs) (by kernel_rfl) fun vs bs r h _ _ => ⟨loopsOk_nil _, h⟩)) fun vs bs r' hq => ?_
  unfold Ent.F feedG at hq
  dsimp only at hq
  split at hq
  · rename_i a q b t
    obtain ⟨hc, hx⟩ := need_some hq
    exact (feed_fun a q b t hc).trans hx
  · cases hq
theorem implFR_fun (a : List UInt8) (q : List (List UInt8)) (b : Bool) (t : List UInt8) (hc : (decide (a.length ≤ 50000)) = true) : (funN Try.prog (look [(20, .rd1 goodRG), (137, .rd1 feedG)]) (look []) Try.f83 [.agg [.s a, .sl .str q, .b b], .s t] []).map (canonR 0) = (.leaf (.tup [.agg [.s (fdA a q b t), .ref 0 0 (fdQ a q b t).length, .b (fdB a q b t)], .b (fdO a q b t)], [some (.row false none .str (fdQ a q b t))]) : Br (V × List (Option Blk))).run := by
  have e : funN Try.prog (look [(20, .rd1 goodRG), (137, .rd1 feedG)]) (look []) Try.f83 [.agg [.s a, .sl .str q, .b b], .s t] [] = ((ifT (decide (a.length ≤ (100000 : Nat)))
  (ifB (!goodR a q b)
  (some
  (V.tup [V.agg [V.s (nilT UInt8), V.ref (0 : Nat) (0 : Nat) (0 : Nat), V.b false], V.b false],
  [some (Blk.row false none Cd.str (nilT Cd.str.den))]))
  (ifB (decide ((↑t.length : Int) > (300 : Int)))
  (some
  (V.tup [V.agg [V.s (nilT UInt8), V.ref (0 : Nat) (0 : Nat) (0 : Nat), V.b false], V.b false],
  [some (Blk.row false none Cd.str (nilT Cd.str.den))]))
  (ifT (decide (a.length ≤ (50000 : Nat) ∧ t.length ≤ (50000 : Nat) ∧ q.length ≤ (40 : Nat)))
  (some
  (V.tup
  [V.agg [V.s (feedA a b t), V.ref (0 : Nat) (0 : Nat) (feedQ a q b t).length, V.b (feedB a b t)],
  V.b true],
  [some (Blk.row false none Cd.str (feedQ a q b t))])))))) : _) := by kernel_rfl
  rw [e]
  clear e
  have hc := of_decide_eq_true hc
  rw [ifT_true (decide_eq_true (by omega))]
  unfold fdA fdQ fdB
  cases hg : goodR a q b with
  | false =>
    have e : fdO a q b t = false := by unfold fdO; rw [hg]; rfl
    rw [e]
    rfl
  | true =>
    have hq := goodR_len hg
    rw [ifB_false (by rfl : (!true) = false)]
    by_cases h : t.length ≤ 300
    · have e : fdO a q b t = true := by unfold fdO; rw [hg]; simpa using h
      rw [ifB_false (decide_eq_false (by omega)), ifT_true (decide_eq_true ⟨hc, by omega, hq⟩), e]
      rfl
    · have e : fdO a q b t = false := by unfold fdO; rw [hg]; simpa using h
      rw [ifB_true (decide_eq_true (by omega)), e]
      rfl
theorem implFR : Contract Try.prog 83 (Ent.rd1 feedRG).F := by
  refine contract_weak (contract_canon (fun_contractN' (KnowsL.cons (enters_fn Try.func20 (by kernel_rfl) (by kernel_rfl)) implGR (KnowsL.cons (enters_fn Try.func137 (by kernel_rfl) (by kernel_rfl)) feed KnowsL.nil)).knows (Λ := look []) Try.func83 (c := Try.f83.body.getD .skip) (F := fun vs bs => funN Try.prog (look [(20, .rd1 goodRG), (137, .rd1 feedG)]) (look []) Try.f83 vs bs) (by kernel_rfl) fun vs bs r h _ _ => ⟨loopsOk_nil _, h⟩)) fun vs bs r' hq => ?_
  unfold Ent.F feedRG at hq
  dsimp only at hq
  split at hq
  · rename_i a q b t
    obtain ⟨hc, hx⟩ := need_some hq
    exact (implFR_fun a q b t hc).trans hx
  · cases hq
end Go.Proofs.Ytjghbihlgfjebaa.Den
