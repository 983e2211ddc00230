/- What functions of the program do, by the machine: Fr5. -/
import Derived.Test.YtjghbihlgfjebaaDFr4
import Derived.KernelRfl
import Derived.Test.YtjghbihlgfjebaaRows
namespace Go.Proofs.Ytjghbihlgfjebaa.Den
open Go.Proofs
set_option maxRecDepth 100000
def sfrE : LoopEnt := ⟨64, [4,6,8,9,42,43,44], [4,6,8,9], [], fun
  | ([.ptr 0 0, .ptr 1 0, .s r, .b d, .ref 2 0 k, .i .i64 m, .i .i64 i], [some (.box [.s [], .ref 3 0 0, .b false]), some (.box [.s a, .ref 4 0 n, .b b]), some (.row false none .str fr), some (.row false none .str []), some (.row false none .str g)]) =>
    .need (decide (0 ≤ i ∧ k = fr.length ∧ m = fr.length ∧ i.toNat ≤ fr.length ∧ n = g.length ∧ fr.length ≤ 1000000 ∧ g.length ≤ 1000000)) (.leaf (.exit 0, ([.ptr 0 0, .ptr 1 0, .s r, .b d], [some (.box [.s [], .ref 2 0 0, .b false]), some (.box [.s a, .ref 3 0 (g ++ (fr.drop i.toNat).take (40 - g.length)).length, .b b]), some (.row false none .str []), some (.row false none .str (g ++ (fr.drop i.toNat).take (40 - g.length)))])))
  | _ => .no⟩
theorem sfr_round (r : List UInt8) (d : Bool) (k : Nat) (m i : Int) (a : List UInt8) (n : Nat) (b : Bool) (fr g : List (List UInt8)) : roundK Try.prog (look [(138, .rd1 goodRG), (90, .rd1 unfG)]) (look [(8, sfrE)]) 0 (body Try.f85 0) sfrE ([.ptr 0 0, .ptr 1 0, .s r, .b d, .ref 2 0 k, .i .i64 m, .i .i64 i], [some (.box [.s [], .ref 3 0 0, .b false]), some (.box [.s a, .ref 4 0 n, .b b]), some (.row false none .str fr), some (.row false none .str []), some (.row false none .str g)]) =
  ((ifB (decide (i < m))
  (ifT (decide ((0 : Int) ≤ i) && decide (i < (↑k : Int)))
  (ifSome fr[(0 : Nat) + i.toNat]? fun z =>
  ifB (decide ((↑n : Int) < (40 : Int)))
  (ifT (decide ((n + (1 : Nat)) * (16 : Nat) ≤ (140737488355328 : Nat)) && decide (n + (1 : Nat) ≤ maxI))
  (some
  (Ex.normal,
  [V.ptr (0 : Nat) (0 : Nat), V.ptr (1 : Nat) (0 : Nat), V.s r, V.b d, V.ref (2 : Nat) (0 : Nat) k,
  V.i IntKind.i64 m, V.i IntKind.i64 (IntKind.i64.wrap (i + (1 : Int)))],
  [some (Blk.box [V.s (nilT UInt8), V.ref (3 : Nat) (0 : Nat) (0 : Nat), V.b false]),
  some (Blk.box [V.s a, V.ref (4 : Nat) (0 : Nat) (n + (1 : Nat)), V.b b]),
  some (Blk.row false none Cd.str fr), some (Blk.row false none Cd.str (nilT Cd.str.den)),
  some (Blk.row false none Cd.str (List.take n (List.drop (0 : Nat) g) ++ z :: nilT Cd.str.den))])))
  (some
  (Ex.normal,
  [V.ptr (0 : Nat) (0 : Nat), V.ptr (1 : Nat) (0 : Nat), V.s r, V.b d, V.ref (2 : Nat) (0 : Nat) k,
  V.i IntKind.i64 m, V.i IntKind.i64 (IntKind.i64.wrap (i + (1 : Int)))],
  [some (Blk.box [V.s (nilT UInt8), V.ref (3 : Nat) (0 : Nat) (0 : Nat), V.b false]),
  some (Blk.box [V.s a, V.ref (4 : Nat) (0 : Nat) n, V.b b]), some (Blk.row false none Cd.str fr),
  some (Blk.row false none Cd.str (nilT Cd.str.den)), some (Blk.row false none Cd.str g)]))))
  (some
  (Ex.exit (0 : Nat), [V.ptr (0 : Nat) (0 : Nat), V.ptr (1 : Nat) (0 : Nat), V.s r, V.b d],
  [some (Blk.box [V.s (nilT UInt8), V.ref (2 : Nat) (0 : Nat) (0 : Nat), V.b false]),
  some (Blk.box [V.s a, V.ref (3 : Nat) (0 : Nat) n, V.b b]), some (Blk.row false none Cd.str (nilT Cd.str.den)),
  some (Blk.row false none Cd.str g)]))) : _) := by kernel_rfl
theorem sfr_loop (r : List UInt8) (d : Bool) (a : List UInt8) (b : Bool) (fr : List (List UInt8)) (hf : fr.length ≤ 1000000) : ∀ (j i : Nat) (g : List (List UInt8)), i + j = fr.length → g.length ≤ 1000000 + i →
    Runs Try.prog (look [(138, .rd1 goodRG), (90, .rd1 unfG)]) (look [(8, sfrE)]) 0 (body Try.f85 0) sfrE ([.ptr 0 0, .ptr 1 0, .s r, .b d, .ref 2 0 fr.length, .i .i64 (↑fr.length : Int), .i .i64 (i : Int)], [some (.box [.s [], .ref 3 0 0, .b false]), some (.box [.s a, .ref 4 0 g.length, .b b]), some (.row false none .str fr), some (.row false none .str []), some (.row false none .str g)]) (.exit 0) ([.ptr 0 0, .ptr 1 0, .s r, .b d], [some (.box [.s [], .ref 2 0 0, .b false]), some (.box [.s a, .ref 3 0 (g ++ (fr.drop i).take (40 - g.length)).length, .b b]), some (.row false none .str []), some (.row false none .str (g ++ (fr.drop i).take (40 - g.length)))])
  | 0, i, g, hi, hg => by
    have hr := sfr_round r d fr.length fr.length i a g.length b fr g
    rw [ifB_false (decide_eq_false (by omega))] at hr
    rw [List.drop_eq_nil_of_le (by omega), List.take_nil, List.append_nil]
    exact .stop _ _ _ hr (by simp)
  | j + 1, i, g, hi, hg => by
    have hil : i < fr.length := by omega
    have hM : maxI = 9223372036854775807 := rfl
    have hr := sfr_round r d fr.length fr.length i a g.length b fr g
    rw [ifB_true (decide_eq_true (by omega)), ifT_true (by simp only [Bool.and_eq_true, decide_eq_true_eq]; omega)] at hr
    simp only [Int.toNat_natCast, Nat.zero_add, List.drop_zero, List.take_length, List.getElem?_eq_getElem hil, ifSome_s, wrap_succ (n := i) (by omega)] at hr
    by_cases h40 : g.length < 40
    · rw [ifB_true (decide_eq_true (by omega)), ifT_true (by simp only [Bool.and_eq_true, decide_eq_true_eq]; omega)] at hr
      have e1 : g ++ (fr.drop i).take (40 - g.length) = (g ++ [fr[i]]) ++ (fr.drop (i + 1)).take (40 - (g ++ [fr[i]]).length) := by
        obtain ⟨c, hc⟩ : ∃ c, 40 - g.length = c + 1 := ⟨39 - g.length, by omega⟩
        rw [List.drop_eq_getElem_cons hil, hc, List.take_succ_cons, List.length_append, List.length_singleton, show 40 - (g.length + 1) = c by omega, List.append_assoc, List.singleton_append]
      rw [e1]
      have ih := sfr_loop r d a b fr hf j (i + 1) (g ++ [fr[i]]) (by omega) (by simp; omega)
      exact .step _ _ _ _ (hr.trans (by simp)) ih
    · rw [ifB_false (decide_eq_false (by omega))] at hr
      have e1 : g ++ (fr.drop i).take (40 - g.length) = g ++ (fr.drop (i + 1)).take (40 - g.length) := by
        rw [show 40 - g.length = 0 by omega]; rfl
      rw [e1]
      exact .step _ _ _ _ hr (sfr_loop r d a b fr hf j (i + 1) g (by omega) (by omega))
theorem sfr_ok : LoopsOk Try.prog (look [(138, .rd1 goodRG), (90, .rd1 unfG)]) (look [(8, sfrE)]) 0 (Try.f85.body.getD .skip) := by
  refine loopsOk_one (a := body Try.f85 0) (by kernel_rfl) fun x e y hq => ?_
  unfold sfrE at hq
  dsimp only at hq
  split at hq
  · rename_i r d k m i a n b fr g
    obtain ⟨hc, hx⟩ := need_some hq
    clear hq
    obtain ⟨h0, rfl, rfl, h1, rfl, h2, h3⟩ := of_decide_eq_true hc
    obtain ⟨i, rfl⟩ := Int.eq_ofNat_of_zero_le h0
    rw [Int.toNat_natCast] at h1 hx
    cases leaf_some hx
    exact sfr_loop r d a b fr h2 (fr.length - i) i g (by omega) (by omega)
  · cases hq
theorem specFR_fun (a : List UInt8) (q : List (List UInt8)) (b : Bool) (t : List UInt8) (hc : decide (a.length ≤ 50000) = true) : funN Try.prog (look [(138, .rd1 goodRG), (90, .rd1 unfG)]) (look [(8, sfrE)]) Try.f85 [.agg [.s a, .sl .str q, .b b], .s t] [] = (.leaf (.tup [.agg [.s (fdA a q b t), .ref 0 0 (fdQ a q b t).length, .b (fdB a q b t)], .b (fdO a q b t)], [some (.row false none .str (fdQ a q b t))]) : Br (V × List (Option Blk))).run := by
  have e : funN Try.prog (look [(138, .rd1 goodRG), (90, .rd1 unfG)]) (look [(8, sfrE)]) Try.f85 [.agg [.s a, .sl .str q, .b b], .s t] [] = ((ifT (decide (a.length ≤ (100000 : Nat)))
  (ifB (!goodR a q b)
  (some
  (V.tup [V.agg [V.s (nilT UInt8), V.ref (0 : Nat) (0 : Nat) (0 : Nat), V.b false], V.b false],
  [some (Blk.row false none Cd.str (nilT Cd.str.den))]))
  (ifB (decide ((↑t.length : Int) > (300 : Int)))
  (some
  (V.tup [V.agg [V.s (nilT UInt8), V.ref (0 : Nat) (0 : Nat) (0 : Nat), V.b false], V.b false],
  [some (Blk.row false none Cd.str (nilT Cd.str.den))]))
  (ifT
  (decide (((0 : Nat) + q.length) * (16 : Nat) ≤ (140737488355328 : Nat)) && decide ((0 : Nat) + q.length ≤ maxI))
  (ifB b
  (some
  (V.tup [V.agg [V.s a, V.ref (0 : Nat) (0 : Nat) ((0 : Nat) + q.length), V.b b], V.b true],
  [some (Blk.row false none Cd.str (nilT Cd.str.den ++ q))]))
  (ifT (decide (a.length + t.length ≤ (9223372036854775807 : Nat)))
  (ifT (decide ((a ++ t).length ≤ (100000 : Nat)))
  (ifT
  (decide
  ((0 : Int) ≤ (0 : Int) ∧
  (unf (a ++ t)).fst.length = (unf (a ++ t)).fst.length ∧
  (↑(unf (a ++ t)).fst.length : Int) = (↑(unf (a ++ t)).fst.length : Int) ∧
  (0 : Nat) ≤ (unf (a ++ t)).fst.length ∧
  (0 : Nat) + q.length = (nilT Cd.str.den ++ q).length ∧
  (unf (a ++ t)).fst.length ≤ (1000000 : Nat) ∧
  (nilT Cd.str.den ++ q).length ≤ (1000000 : Nat)))
  (some
  (V.tup
  [V.agg
  [V.s (unf (a ++ t)).snd.fst,
  V.ref (0 : Nat) (0 : Nat)
  (nilT Cd.str.den ++ q ++
  List.take ((40 : Nat) - (nilT Cd.str.den ++ q).length)
  (List.drop (0 : Nat) (unf (a ++ t)).fst)).length,
  V.b (unf (a ++ t)).snd.snd],
  V.b true],
  [some
  (Blk.row false none Cd.str
  (nilT Cd.str.den ++ q ++
  List.take ((40 : Nat) - (nilT Cd.str.den ++ q).length)
  (List.drop (0 : Nat) (unf (a ++ t)).fst)))])))))))))) : _) := by kernel_rfl
  rw [e]
  clear e
  have hc := of_decide_eq_true hc
  have hM : maxI = 9223372036854775807 := rfl
  rw [ifT_true (decide_eq_true (by omega))]
  unfold fdA fdQ fdB
  cases hg : goodR a q b with
  | false =>
    have e : fdO a q b t = false := by unfold fdO; rw [hg]; rfl
    rw [e]
    rfl
  | true =>
    have hq := goodR_len hg
    rw [ifB_false (by rfl : (!true) = false)]
    by_cases h : t.length ≤ 300
    · have e : fdO a q b t = true := by unfold fdO; rw [hg]; simpa using h
      rw [ifB_false (decide_eq_false (by omega)), ifT_true (by simp only [Bool.and_eq_true, decide_eq_true_eq]; omega), e]
      unfold feedA feedQ feedB
      simp only [Nat.zero_add, nilT_eq, List.nil_append, cond_true, List.drop_zero]
      cases b with
      | true => rfl
      | false =>
        have hl := (unf_left _ (a ++ t) (Nat.le_refl _)).2.2.2
        have hal : (a ++ t).length ≤ 100000 := by rw [List.length_append]; omega
        have hal2 : (a ++ t).length = a.length + t.length := List.length_append
        rw [ifB_false rfl, ifT_true (decide_eq_true (by omega)), ifT_true (decide_eq_true hal)]
        generalize unf (a ++ t) = v at *
        rw [ifT_true (decide_eq_true ⟨by omega, by trivial, by trivial, by omega, by trivial, by omega, by omega⟩)]
        rfl
    · have e : fdO a q b t = false := by unfold fdO; rw [hg]; simpa using h
      rw [ifB_true (decide_eq_true (by omega)), e]
      rfl
theorem specFR : Contract Try.prog 85 (Ent.rd1 feedRG).F := by
  refine fun_contractN' (KnowsL.cons (enters_fn Try.func138 (by kernel_rfl) (by kernel_rfl)) specGR (KnowsL.cons (enters_fn Try.func90 (by kernel_rfl) (by kernel_rfl)) sunf KnowsL.nil)).knows (Λ := (look [(8, sfrE)])) Try.func85 (c := Try.f85.body.getD .skip) (by kernel_rfl) fun vs bs r hq hv hb => ?_
  unfold Ent.F feedRG at hq
  dsimp only at hq
  split at hq
  · rename_i a q b t
    obtain ⟨hc, hq⟩ := need_some hq
    exact ⟨sfr_ok, (specFR_fun a q b t hc).trans hq⟩
  · cases hq
end Go.Proofs.Ytjghbihlgfjebaa.Den
