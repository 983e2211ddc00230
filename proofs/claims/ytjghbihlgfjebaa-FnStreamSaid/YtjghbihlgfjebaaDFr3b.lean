/- What functions of the program do, by the machine: Fr3b. -/
import Derived.Test.YtjghbihlgfjebaaDFr3
import Derived.KernelRfl
import Derived.Test.YtjghbihlgfjebaaRows
namespace Go.Proofs.Ytjghbihlgfjebaa.Den
open Go.Proofs
set_option maxRecDepth 100000
def sgrE : LoopEnt := ⟨55, [1,9,10,11], [1], [2], fun
  | ([.ptr 0 0, .sl .str q, .i .i64 m, .i .i64 i], [some (.box [.s a, .sl .str p, .b b])]) => .need (decide (0 ≤ i ∧ m = q.length ∧ i.toNat ≤ q.length ∧ q.length ≤ maxI)) (.br ((q.drop i.toNat).all fun z => !decide (60 < z.length)) (.leaf (.exit 0, ([.ptr 0 0], [some (.box [.s a, .sl .str p, .b b])]))) (.leaf (.ret, ([.b false], []))))
  | _ => .no⟩
theorem implNewR_fun  : funN Try.prog (look []) (look []) Try.f82 [] [] = (.leaf (.agg [.s [], .ref 0 0 1, .b false], [some (.row false none .str [[]])]) : Br (V × List (Option Blk))).run := by
  have e : funN Try.prog (look []) (look []) Try.f82 [] [] = ((some
  (V.agg [V.s (nilT UInt8), V.ref (0 : Nat) (0 : Nat) (1 : Nat), V.b false],
  [some (Blk.row false none Cd.str (nilT UInt8 :: nilT Cd.str.den))])) : _) := by kernel_rfl
  rw [e]
  clear e
  rfl
theorem implNewR : Contract Try.prog 82 (Ent.rd1 newRG).F := by
  refine fun_contractN' KnowsL.nil.knows (Λ := look []) Try.func82 (c := Try.f82.body.getD .skip) (by kernel_rfl) fun vs bs r hq hv hb => ?_
  unfold Ent.F newRG at hq
  dsimp only at hq
  split at hq
  · exact ⟨loopsOk_nil _, (implNewR_fun ).trans hq⟩
  · cases hq
theorem specNewR_fun  : funN Try.prog (look []) (look []) Try.f84 [] [] = (.leaf (.agg [.s [], .ref 0 0 1, .b false], [some (.row false none .str [[]])]) : Br (V × List (Option Blk))).run := by
  have e : funN Try.prog (look []) (look []) Try.f84 [] [] = ((some
  (V.agg [V.s (nilT UInt8), V.ref (0 : Nat) (0 : Nat) (1 : Nat), V.b false],
  [some (Blk.row false none Cd.str (nilT UInt8 :: nilT Cd.str.den))])) : _) := by kernel_rfl
  rw [e]
  clear e
  rfl
theorem specNewR : Contract Try.prog 84 (Ent.rd1 newRG).F := by
  refine fun_contractN' KnowsL.nil.knows (Λ := look []) Try.func84 (c := Try.f84.body.getD .skip) (by kernel_rfl) fun vs bs r hq hv hb => ?_
  unfold Ent.F newRG at hq
  dsimp only at hq
  split at hq
  · exact ⟨loopsOk_nil _, (specNewR_fun ).trans hq⟩
  · cases hq
theorem implGR_fun (a : List UInt8) (q : List (List UInt8)) (b : Bool) (hc : a.length ≤ 100000) : funN Try.prog (look [(86, .rd1 has_rdr1G), (88, .rd1 unfG)]) (look []) Try.f20 [.agg [.s a, .sl .str q, .b b]] [] = (.leaf (.b (goodR a q b), []) : Br (V × List (Option Blk))).run := by
  have e : funN Try.prog (look [(86, .rd1 has_rdr1G), (88, .rd1 unfG)]) (look []) Try.f20 [.agg [.s a, .sl .str q, .b b]] [] = ((ifB (decide ((↑q.length : Int) > (40 : Int))) (some (V.b false, []))
  (ifB (q.any fun z => decide ((60 : Nat) < z.length)) (some (V.b false, []))
  (ifB b
  (ifB (!a == nilT UInt8) (some (V.b false, []))
  (ifT (decide (a.length ≤ (100000 : Nat)))
  (ifB (!(unf a).snd.snd) (some (V.b ((unf a).snd.fst == a), [])) (some (V.b false, [])))))
  (ifT (decide (a.length ≤ (100000 : Nat)))
  (ifB (!(unf a).snd.snd) (some (V.b ((unf a).snd.fst == a), [])) (some (V.b false, []))))))) : _) := by kernel_rfl
  rw [e]
  clear e
  simp only [nilT_eq]
  rw [ifT_true (decide_eq_true hc)]
  unfold goodR
  by_cases q1 : q.length ≤ 40
  · rw [ifB_false (decide_eq_false (by omega)), decide_eq_true q1]
    cases (q.any fun z => decide (60 < z.length)) <;> cases b <;> cases (a == []) <;> cases (unf a).2.2 <;> cases (unf a).2.1 == a <;> rfl
  · rw [ifB_true (decide_eq_true (by omega)), decide_eq_false q1]
    rfl
theorem implGR : Contract Try.prog 20 (Ent.rd1 goodRG).F := by
  refine fun_contractN' (KnowsL.cons (enters_fn Try.func86 (by kernel_rfl) (by kernel_rfl)) rdr1_has (KnowsL.cons (enters_fn Try.func88 (by kernel_rfl) (by kernel_rfl)) iunf KnowsL.nil)).knows (Λ := look []) Try.func20 (c := Try.f20.body.getD .skip) (by kernel_rfl) fun vs bs r hq hv hb => ?_
  unfold Ent.F goodRG at hq
  dsimp only at hq
  split at hq
  · rename_i a q b
    obtain ⟨hc, hq⟩ := need_some hq
    exact ⟨loopsOk_nil _, (implGR_fun a q b (of_decide_eq_true hc)).trans hq⟩
  · cases hq
theorem sgr_round (a : List UInt8) (p q : List (List UInt8)) (b : Bool) (m i : Int) : roundK Try.prog (look [(90, .rd1 unfG)]) (look [(2, sgrE)]) 0 (body Try.f138 0) sgrE ([.ptr 0 0, .sl .str q, .i .i64 m, .i .i64 i], [some (.box [.s a, .sl .str p, .b b])]) =
  ((ifB (decide (i < m))
  (ifT (decide ((0 : Int) ≤ i) && decide (i < (↑q.length : Int)))
  (ifSome q[i.toNat]? fun z =>
  ifB (decide ((↑(List.length z) : Int) > (60 : Int))) (some (Ex.ret, [V.b false], []))
  (some
  (Ex.normal,
  [V.ptr (0 : Nat) (0 : Nat), V.sl Cd.str q, V.i IntKind.i64 m,
  V.i IntKind.i64 (IntKind.i64.wrap (i + (1 : Int)))],
  [some (Blk.box [V.s a, V.sl Cd.str p, V.b b])]))))
  (some (Ex.exit (0 : Nat), [V.ptr (0 : Nat) (0 : Nat)], [some (Blk.box [V.s a, V.sl Cd.str p, V.b b])]))) : _) := by kernel_rfl
theorem sgr_ok : LoopsOk Try.prog (look [(90, .rd1 unfG)]) (look [(2, sgrE)]) 0 (Try.f138.body.getD .skip) := by
  refine loopsOk_one (a := body Try.f138 0) (by kernel_rfl) fun d e d' h => ?_
  unfold sgrE at h
  dsimp only at h
  split at h
  · rename_i q m i a p b
    obtain ⟨hc, hx⟩ := need_some h
    clear h
    obtain ⟨h0, rfl, h2, h3⟩ := of_decide_eq_true hc
    obtain ⟨i, rfl⟩ := Int.eq_ofNat_of_zero_le h0
    rw [Int.toNat_natCast] at h2 hx
    refine runs_all (l := q) (fun z => !decide (60 < z.length)) (fun i => ([.ptr 0 0, .sl .str q, .i .i64 (↑q.length : Int), .i .i64 (i : Int)], [some (.box [.s a, .sl .str p, .b b])])) (ex := (.exit 0, ([.ptr 0 0], [some (.box [.s a, .sl .str p, .b b])]))) (rt := (.ret, ([.b false], []))) (by simp) (by simp) (fun i hi => ?_) ?_ (q.length - i) i (by omega) e d' hx
    · have hr := sgr_round a p q b q.length i
      rw [ifB_true (decide_eq_true (by omega)), ifT_true (by simp only [Bool.and_eq_true, decide_eq_true_eq]; omega), Int.toNat_natCast, List.getElem?_eq_getElem hi, ifSome_s] at hr
      refine hr.trans ?_
      by_cases hz : 60 < q[i].length
      · rw [ifB_true (decide_eq_true (by omega))]; simp [hz]
      · rw [ifB_false (decide_eq_false (by omega)), wrap_succ (by omega)]; simp [hz]
    · have hr := sgr_round a p q b q.length q.length
      rw [ifB_false (decide_eq_false (by omega))] at hr
      exact hr
  · cases h
theorem specGR_fun (a : List UInt8) (q : List (List UInt8)) (b : Bool) (hm : q.length ≤ maxI) (hc : a.length ≤ 100000) : funN Try.prog (look [(90, .rd1 unfG)]) (look [(2, sgrE)]) Try.f138 [.agg [.s a, .sl .str q, .b b]] [] = some (.b (goodR a q b), []) := by
  have e : funN Try.prog (look [(90, .rd1 unfG)]) (look [(2, sgrE)]) Try.f138 [.agg [.s a, .sl .str q, .b b]] [] = ((ifT (decide ((0 : Int) ≤ (0 : Int) ∧ (↑q.length : Int) = (↑q.length : Int) ∧ (0 : Nat) ≤ q.length ∧ q.length ≤ maxI))
  (ifB ((List.drop (0 : Nat) q).all fun z => !decide ((60 : Nat) < List.length z))
  (ifT (decide (a.length ≤ (100000 : Nat)))
  (ifB (decide ((↑q.length : Int) ≤ (40 : Int)))
  (ifB ((↑(unf a).fst.length : Int) == (0 : Int))
  (ifB ((unf a).snd.fst == a)
  (ifB (!(unf a).snd.snd) (ifB (!b) (some (V.b true, [])) (some (V.b (a == nilT UInt8), [])))
  (some (V.b false, [])))
  (some (V.b false, [])))
  (some (V.b false, [])))
  (some (V.b false, []))))
  (some (V.b false, [])))) : _) := by kernel_rfl
  rw [e]
  clear e
  rw [ifT_true (decide_eq_true ⟨by omega, by trivial, by omega, hm⟩)]
  simp only [List.drop_zero, nilT_eq]
  have hL := unf_left a.length a (Nat.le_refl _)
  have e1 : (((unf a).1.length : Int) == 0) = decide ((unf a).1 = []) := by
    cases (unf a).1 with
    | nil => rfl
    | cons x l => simp only [List.length_cons, reduceCtorEq, decide_false, beq_eq_false_iff_ne]; omega
  have e2 : (q.all fun z => !decide (60 < z.length)) = !(q.any fun z => decide (60 < z.length)) := by
    induction q with
    | nil => rfl
    | cons z l ih => simp only [List.all_cons, List.any_cons, Bool.not_or]; rw [ih (by simp at hm; omega)]
  have e3 : (unf a).2.1 = a → (unf a).1 = [] := fun h => by
    by_cases hn : (unf a).1 = []
    · exact hn
    · have := hL.2.1 hn
      rw [h] at this; omega
  rw [e2, ifT_true (decide_eq_true hc), e1]
  unfold goodR
  by_cases q4 : (unf a).2.1 = a
  · rw [decide_eq_true (e3 q4), q4]
    by_cases q1 : q.length ≤ 40
    · rw [decide_eq_true q1, decide_eq_true (by omega : (q.length : Int) ≤ 40)]
      cases (q.any fun z => decide (60 < z.length)) <;> cases b <;> cases (a == []) <;> cases (unf a).2.2 <;> simp
    · rw [decide_eq_false q1, decide_eq_false (by omega : ¬ (q.length : Int) ≤ 40)]
      cases (q.any fun z => decide (60 < z.length)) <;> simp
  · rw [beq_false_of_ne q4]
    generalize decide ((unf a).1 = []) = x
    generalize decide ((q.length : Int) ≤ 40) = y
    cases (q.any fun z => decide (60 < z.length)) <;> cases x <;> cases y <;> simp
theorem specGR : Contract Try.prog 138 (Ent.rd1 goodRG).F := by
  refine fun_contractN' (KnowsL.cons (enters_fn Try.func90 (by kernel_rfl) (by kernel_rfl)) sunf KnowsL.nil).knows (Λ := (look [(2, sgrE)])) Try.func138 (c := Try.f138.body.getD .skip) (by kernel_rfl) fun vs bs r hq hv hb => ?_
  unfold Ent.F goodRG at hq
  dsimp only at hq
  split at hq
  · rename_i a q b
    obtain ⟨hc, hq⟩ := need_some hq
    exact ⟨sgr_ok, (specGR_fun a q b (hv (.agg [.s a, .sl .str q, .b b]) (by simp) (.sl .str q) (by simp)).1 (of_decide_eq_true hc)).trans hq⟩
  · cases hq
end Go.Proofs.Ytjghbihlgfjebaa.Den
