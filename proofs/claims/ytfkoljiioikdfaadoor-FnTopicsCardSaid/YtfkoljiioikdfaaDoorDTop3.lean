/- What functions of the program do, by the machine: Top3. -/
import Derived.Test.YtfkoljiioikdfaaDoorDTop2
import Derived.KernelRfl
import Derived.Test.YtfkoljiioikdfaaDoorRows
namespace Go.Proofs.YtfkoljiioikdfaaDoor.Den
open Go.Proofs
set_option maxRecDepth 100000
/-- Whether levels of two patterns can be alike. -/
def mt : List (List UInt8) → List (List UInt8) → Bool
  | [], [] => true
  | [], y :: _ => y == [35]
  | x :: _, [] => x == [35]
  | x :: p, y :: q => if x = [35] ∨ y = [35] then true else if x ≠ [43] ∧ y ≠ [43] ∧ x ≠ y then false else mt p q
def mtG : List V → List Blk → Br (V × List (Option Blk))
  | [.sl .str p, .sl .str q], [] => .need (decide (p.length ≤ 1000000000 ∧ q.length ≤ 1000000000)) (.leaf (.b (mt p q), []))
  | _, _ => .no
def imtE : LoopEnt := ⟨71, [0,1,5], [], [4], fun
  | ([.sl .str p, .sl .str q, .i .i64 i], []) => .need (decide (0 ≤ i ∧ i.toNat ≤ p.length ∧ i.toNat ≤ q.length ∧ p.length ≤ 1000000000 ∧ q.length ≤ 1000000000)) (.leaf (.ret, ([.b (mt (p.drop i.toNat) (q.drop i.toNat))], [])))
  | _ => .no⟩
def smtE : LoopEnt := ⟨73, [0,1,5], [], [4], fun
  | ([.sl .str p, .sl .str q, .i .i64 i], []) => .need (decide (0 ≤ i ∧ i.toNat ≤ p.length ∧ i.toNat ≤ q.length ∧ p.length ≤ 1000000000 ∧ q.length ≤ 1000000000)) (.leaf (.ret, ([.b (mt (p.drop i.toNat) (q.drop i.toNat))], [])))
  | _ => .no⟩
theorem imt_round (p q : List (List UInt8)) (i : Int) : roundK Tryd.prog (look []) (look [(3, imtE)]) 0 (body Tryd.f42 0) imtE ([.sl .str p, .sl .str q, .i .i64 i], []) =
  ((ifB (decide (i < (↑p.length : Int)))
  (ifT (decide ((0 : Int) ≤ i) && decide (i < (↑p.length : Int)))
  (ifSome p[i.toNat]? fun z =>
  ifB (z == [(35 : UInt8)])
  (ifB (z == [(35 : UInt8)]) (some (Ex.ret, [V.b true], []))
  (ifB (i == (↑p.length : Int)) (some (Ex.ret, [V.b ((↑p.length : Int) == (↑q.length : Int))], []))
  (ifB (i == (↑q.length : Int)) (some (Ex.ret, [V.b ((↑p.length : Int) == (↑q.length : Int))], []))
  (ifT (decide ((0 : Int) ≤ i) && decide (i < (↑p.length : Int)))
  (ifSome p[i.toNat]? fun z =>
  ifT (decide ((0 : Int) ≤ i) && decide (i < (↑q.length : Int)))
  (ifSome q[i.toNat]? fun z_1 =>
  ifB (!z == z_1)
  (ifT (decide ((0 : Int) ≤ i) && decide (i < (↑p.length : Int)))
  (ifSome p[i.toNat]? fun z =>
  ifB (!z == [(43 : UInt8)])
  (ifT (decide ((0 : Int) ≤ i) && decide (i < (↑q.length : Int)))
  (ifSome q[i.toNat]? fun z =>
  ifB (!z == [(43 : UInt8)]) (some (Ex.ret, [V.b false], []))
  (some
  (Ex.normal,
  [V.sl Cd.str p, V.sl Cd.str q,
  V.i IntKind.i64 (IntKind.i64.wrap (i + (1 : Int)))],
  []))))
  (some
  (Ex.normal,
  [V.sl Cd.str p, V.sl Cd.str q, V.i IntKind.i64 (IntKind.i64.wrap (i + (1 : Int)))],
  []))))
  (some
  (Ex.normal,
  [V.sl Cd.str p, V.sl Cd.str q, V.i IntKind.i64 (IntKind.i64.wrap (i + (1 : Int)))],
  []))))))))
  (ifB (decide (i < (↑q.length : Int)))
  (ifT (decide ((0 : Int) ≤ i) && decide (i < (↑q.length : Int)))
  (ifSome q[i.toNat]? fun z =>
  ifB (z == [(35 : UInt8)]) (some (Ex.ret, [V.b true], []))
  (ifB (i == (↑p.length : Int)) (some (Ex.ret, [V.b ((↑p.length : Int) == (↑q.length : Int))], []))
  (ifB (i == (↑q.length : Int)) (some (Ex.ret, [V.b ((↑p.length : Int) == (↑q.length : Int))], []))
  (ifT (decide ((0 : Int) ≤ i) && decide (i < (↑p.length : Int)))
  (ifSome p[i.toNat]? fun z =>
  ifT (decide ((0 : Int) ≤ i) && decide (i < (↑q.length : Int)))
  (ifSome q[i.toNat]? fun z_1 =>
  ifB (!z == z_1)
  (ifT (decide ((0 : Int) ≤ i) && decide (i < (↑p.length : Int)))
  (ifSome p[i.toNat]? fun z =>
  ifB (!z == [(43 : UInt8)])
  (ifT (decide ((0 : Int) ≤ i) && decide (i < (↑q.length : Int)))
  (ifSome q[i.toNat]? fun z =>
  ifB (!z == [(43 : UInt8)]) (some (Ex.ret, [V.b false], []))
  (some
  (Ex.normal,
  [V.sl Cd.str p, V.sl Cd.str q,
  V.i IntKind.i64 (IntKind.i64.wrap (i + (1 : Int)))],
  []))))
  (some
  (Ex.normal,
  [V.sl Cd.str p, V.sl Cd.str q,
  V.i IntKind.i64 (IntKind.i64.wrap (i + (1 : Int)))],
  []))))
  (some
  (Ex.normal,
  [V.sl Cd.str p, V.sl Cd.str q, V.i IntKind.i64 (IntKind.i64.wrap (i + (1 : Int)))],
  [])))))))))
  (ifB (i == (↑p.length : Int)) (some (Ex.ret, [V.b ((↑p.length : Int) == (↑q.length : Int))], []))
  (ifB (i == (↑q.length : Int)) (some (Ex.ret, [V.b ((↑p.length : Int) == (↑q.length : Int))], []))
  (ifT (decide ((0 : Int) ≤ i) && decide (i < (↑p.length : Int)))
  (ifSome p[i.toNat]? fun z =>
  ifT (decide ((0 : Int) ≤ i) && decide (i < (↑q.length : Int)))
  (ifSome q[i.toNat]? fun z_1 =>
  ifB (!z == z_1)
  (ifT (decide ((0 : Int) ≤ i) && decide (i < (↑p.length : Int)))
  (ifSome p[i.toNat]? fun z =>
  ifB (!z == [(43 : UInt8)])
  (ifT (decide ((0 : Int) ≤ i) && decide (i < (↑q.length : Int)))
  (ifSome q[i.toNat]? fun z =>
  ifB (!z == [(43 : UInt8)]) (some (Ex.ret, [V.b false], []))
  (some
  (Ex.normal,
  [V.sl Cd.str p, V.sl Cd.str q,
  V.i IntKind.i64 (IntKind.i64.wrap (i + (1 : Int)))],
  []))))
  (some
  (Ex.normal,
  [V.sl Cd.str p, V.sl Cd.str q, V.i IntKind.i64 (IntKind.i64.wrap (i + (1 : Int)))],
  []))))
  (some
  (Ex.normal,
  [V.sl Cd.str p, V.sl Cd.str q, V.i IntKind.i64 (IntKind.i64.wrap (i + (1 : Int)))],
  []))))))))))
  (ifB (decide (i < (↑q.length : Int)))
  (ifT (decide ((0 : Int) ≤ i) && decide (i < (↑q.length : Int)))
  (ifSome q[i.toNat]? fun z =>
  ifB (z == [(35 : UInt8)]) (some (Ex.ret, [V.b true], []))
  (ifB (i == (↑p.length : Int)) (some (Ex.ret, [V.b ((↑p.length : Int) == (↑q.length : Int))], []))
  (ifB (i == (↑q.length : Int)) (some (Ex.ret, [V.b ((↑p.length : Int) == (↑q.length : Int))], []))
  (ifT (decide ((0 : Int) ≤ i) && decide (i < (↑p.length : Int)))
  (ifSome p[i.toNat]? fun z =>
  ifT (decide ((0 : Int) ≤ i) && decide (i < (↑q.length : Int)))
  (ifSome q[i.toNat]? fun z_1 =>
  ifB (!z == z_1)
  (ifT (decide ((0 : Int) ≤ i) && decide (i < (↑p.length : Int)))
  (ifSome p[i.toNat]? fun z =>
  ifB (!z == [(43 : UInt8)])
  (ifT (decide ((0 : Int) ≤ i) && decide (i < (↑q.length : Int)))
  (ifSome q[i.toNat]? fun z =>
  ifB (!z == [(43 : UInt8)]) (some (Ex.ret, [V.b false], []))
  (some
  (Ex.normal,
  [V.sl Cd.str p, V.sl Cd.str q,
  V.i IntKind.i64 (IntKind.i64.wrap (i + (1 : Int)))],
  []))))
  (some
  (Ex.normal,
  [V.sl Cd.str p, V.sl Cd.str q, V.i IntKind.i64 (IntKind.i64.wrap (i + (1 : Int)))],
  []))))
  (some
  (Ex.normal,
  [V.sl Cd.str p, V.sl Cd.str q, V.i IntKind.i64 (IntKind.i64.wrap (i + (1 : Int)))],
  [])))))))))
  (ifB (i == (↑p.length : Int)) (some (Ex.ret, [V.b ((↑p.length : Int) == (↑q.length : Int))], []))
  (ifB (i == (↑q.length : Int)) (some (Ex.ret, [V.b ((↑p.length : Int) == (↑q.length : Int))], []))
  (ifT (decide ((0 : Int) ≤ i) && decide (i < (↑p.length : Int)))
  (ifSome p[i.toNat]? fun z =>
  ifT (decide ((0 : Int) ≤ i) && decide (i < (↑q.length : Int)))
  (ifSome q[i.toNat]? fun z_1 =>
  ifB (!z == z_1)
  (ifT (decide ((0 : Int) ≤ i) && decide (i < (↑p.length : Int)))
  (ifSome p[i.toNat]? fun z =>
  ifB (!z == [(43 : UInt8)])
  (ifT (decide ((0 : Int) ≤ i) && decide (i < (↑q.length : Int)))
  (ifSome q[i.toNat]? fun z =>
  ifB (!z == [(43 : UInt8)]) (some (Ex.ret, [V.b false], []))
  (some
  (Ex.normal,
  [V.sl Cd.str p, V.sl Cd.str q, V.i IntKind.i64 (IntKind.i64.wrap (i + (1 : Int)))],
  []))))
  (some
  (Ex.normal,
  [V.sl Cd.str p, V.sl Cd.str q, V.i IntKind.i64 (IntKind.i64.wrap (i + (1 : Int)))], []))))
  (some
  (Ex.normal, [V.sl Cd.str p, V.sl Cd.str q, V.i IntKind.i64 (IntKind.i64.wrap (i + (1 : Int)))],
  []))))))))) : _) := by kernel_rfl
theorem imt_loop (p q : List (List UInt8)) (hp : p.length ≤ 1000000000) (hq : q.length ≤ 1000000000) : ∀ (j i : Nat), i + j = p.length → i ≤ q.length → Runs Tryd.prog (look []) (look [(3, imtE)]) 0 (body Tryd.f42 0) imtE ([.sl .str p, .sl .str q, .i .i64 (i : Int)], []) .ret ([.b (mt (p.drop i) (q.drop i))], []) := by
  intro j
  induction j with
  | zero =>
    intro i hi hiq
    have hr := imt_round p q i
    have hM : maxI = 9223372036854775807 := rfl
    simp only [Int.toNat_natCast, wrap_succ (n := i) (by omega)] at hr
    rw [ifB_false (decide_eq_false (by omega))] at hr
    rw [List.drop_eq_nil_of_le (show p.length ≤ i by omega)]
    by_cases h2 : i < q.length
    · have hb : (decide (0 ≤ (i : Int)) && decide ((i : Int) < (q.length : Int))) = true := by simp only [Bool.and_eq_true, decide_eq_true_eq]; omega
      rw [ifB_true (decide_eq_true (by omega))] at hr
      simp only [hb, ifT_t, List.getElem?_eq_getElem h2, ifSome_s] at hr
      rw [List.drop_eq_getElem_cons h2]
      by_cases h3 : q[i] = [35]
      · rw [ifB_true (by rw [h3]; rfl)] at hr
        exact .stop _ _ _ (hr.trans (by simp [mt, h3])) (by simp)
      · rw [ifB_false (beq_false_of_ne h3), ifB_true (by rw [show i = p.length by omega]; simp)] at hr
        exact .stop _ _ _ (hr.trans (by
          have : ((p.length : Int) == (q.length : Int)) = false := beq_false_of_ne (by omega)
          simp [mt, h3, this]; try omega)) (by simp)
    · rw [ifB_false (decide_eq_false (by omega)), ifB_true (by rw [show i = p.length by omega]; simp)] at hr
      rw [List.drop_eq_nil_of_le (show q.length ≤ i by omega)]
      exact .stop _ _ _ (hr.trans (by
        have : ((p.length : Int) == (q.length : Int)) = true := by rw [beq_iff_eq]; omega
        simp [mt, this]; try omega)) (by simp)
  | succ j ih =>
    intro i hi hiq
    have hr := imt_round p q i
    have hM : maxI = 9223372036854775807 := rfl
    have hil : i < p.length := by omega
    have ha : (decide (0 ≤ (i : Int)) && decide ((i : Int) < (p.length : Int))) = true := by simp only [Bool.and_eq_true, decide_eq_true_eq]; omega
    simp only [Int.toNat_natCast, wrap_succ (n := i) (by omega), ha, ifT_t, List.getElem?_eq_getElem hil, ifSome_s] at hr
    rw [ifB_true (decide_eq_true (by omega))] at hr
    have hdp := List.drop_eq_getElem_cons hil
    have ih := ih (i + 1) (by omega)
    rw [hdp]
    by_cases h2 : i < q.length
    · have hb : (decide (0 ≤ (i : Int)) && decide ((i : Int) < (q.length : Int))) = true := by simp only [Bool.and_eq_true, decide_eq_true_eq]; omega
      simp only [hb, ifT_t, List.getElem?_eq_getElem h2, ifSome_s] at hr
      rw [List.drop_eq_getElem_cons h2, mt]
      have ih := ih (by omega)
      generalize p[i] = x at *
      generalize q[i] = y at *
      by_cases h3 : x = [35]
      · simp only [show (x == [35]) = true from by rw [h3]; rfl, ifB_t] at hr
        rw [if_pos (.inl h3)]
        exact .stop _ _ _ hr (by simp)
      rw [ifB_false (beq_false_of_ne h3), ifB_true (decide_eq_true (by omega))] at hr
      by_cases h4 : y = [35]
      · rw [ifB_true (by rw [h4]; rfl)] at hr
        rw [if_pos (.inr h4)]
        exact .stop _ _ _ hr (by simp)
      rw [ifB_false (beq_false_of_ne h4), ifB_false (beq_false_of_ne (by omega)), ifB_false (beq_false_of_ne (by omega))] at hr
      rw [if_neg (by simp [h3, h4])]
      by_cases h5 : x ≠ [43] ∧ y ≠ [43] ∧ x ≠ y
      · rw [if_pos h5]
        refine .stop _ _ _ (hr.trans ?_) (by simp)
        simp [h5.1, h5.2.1, h5.2.2]
      · rw [if_neg h5]
        refine .step _ _ _ _ (hr.trans ?_) ih
        by_cases z1 : x = y
        · subst z1; simp
        · by_cases z2 : x = [43]
          · subst z2; simp
          · by_cases z3 : y = [43]
            · subst z3; simp
            · exact absurd ⟨z2, z3, z1⟩ h5
    · rw [List.drop_eq_nil_of_le (show q.length ≤ i by omega), mt]
      by_cases h3 : p[i] = [35]
      · simp only [show (p[i] == [35]) = true from by rw [h3]; rfl, ifB_t] at hr
        exact .stop _ _ _ (hr.trans (by simp [h3])) (by simp)
      · rw [ifB_false (beq_false_of_ne h3), ifB_false (decide_eq_false (by omega)), ifB_false (beq_false_of_ne (by omega)), ifB_true (by rw [show i = q.length by omega]; simp)] at hr
        exact .stop _ _ _ (hr.trans (by
          have : ((p.length : Int) == (q.length : Int)) = false := beq_false_of_ne (by omega)
          simp [h3, this]; try omega)) (by simp)
theorem imt_ok : LoopsOk Tryd.prog (look []) (look [(3, imtE)]) 0 (Tryd.f42.body.getD .skip) := by
  refine loopsOk_one (a := body Tryd.f42 0) (by kernel_rfl) fun d e d' h => ?_
  unfold imtE at h
  dsimp only at h
  split at h
  · rename_i p q i
    obtain ⟨hc, hx⟩ := need_some h
    clear h
    obtain ⟨h0, h1, h2, h3, h4⟩ := of_decide_eq_true hc
    obtain ⟨i, rfl⟩ := Int.eq_ofNat_of_zero_le h0
    rw [Int.toNat_natCast] at h1 h2 hx
    have h6 := leaf_some hx
    obtain ⟨rfl, rfl⟩ := Prod.mk.inj h6
    exact imt_loop p q h3 h4 (p.length - i) i (by omega) h2
  · cases h
theorem imt_fun (p q : List (List UInt8)) (hc : p.length ≤ 1000000000 ∧ q.length ≤ 1000000000) : funK Tryd.prog (look []) (look [(3, imtE)]) Tryd.f42 [.sl .str p, .sl .str q] [] = some (.b (mt p q), []) := by
  have e : funK Tryd.prog (look []) (look [(3, imtE)]) Tryd.f42 [.sl .str p, .sl .str q] [] = ((ifT
  (decide
  ((0 : Int) ≤ (0 : Int) ∧
  (0 : Nat) ≤ p.length ∧ (0 : Nat) ≤ q.length ∧ p.length ≤ (1000000000 : Nat) ∧ q.length ≤ (1000000000 : Nat)))
  (some (V.b (Den.mt (List.drop (0 : Nat) p) (List.drop (0 : Nat) q)), []))) : _) := by kernel_rfl
  rw [e]
  clear e
  rw [ifT_true (decide_eq_true ⟨by omega, by omega, by omega, hc.1, hc.2⟩)]
  rfl
theorem imt : Contract Tryd.prog 42 (Ent.rd1 mtG).F := by
  refine fun_contract' KnowsL.nil.knows (Λ := look [(3, imtE)]) Tryd.func42 (c := Tryd.f42.body.getD .skip) (by kernel_rfl) fun vs bs r' hq hv hb => ?_
  unfold Ent.F mtG at hq
  dsimp only at hq
  split at hq
  · rename_i p q
    obtain ⟨hc, hx⟩ := need_some hq
    exact ⟨imt_ok, (imt_fun p q (of_decide_eq_true hc)).trans hx⟩
  · cases hq
theorem smt_round (p q : List (List UInt8)) (i : Int) : roundK Tryd.prog (look []) (look [(3, smtE)]) 0 (body Tryd.f43 0) smtE ([.sl .str p, .sl .str q, .i .i64 i], []) =
  ((ifB (decide (i < (↑p.length : Int)))
  (ifT (decide ((0 : Int) ≤ i) && decide (i < (↑p.length : Int)))
  (ifSome p[i.toNat]? fun z =>
  ifB (z == [(35 : UInt8)]) (some (Ex.ret, [V.b true], []))
  (ifB (decide (i < (↑q.length : Int)))
  (ifT (decide ((0 : Int) ≤ i) && decide (i < (↑q.length : Int)))
  (ifSome q[i.toNat]? fun z =>
  ifB (z == [(35 : UInt8)]) (some (Ex.ret, [V.b true], []))
  (ifB (i == (↑p.length : Int)) (some (Ex.ret, [V.b ((↑p.length : Int) == (↑q.length : Int))], []))
  (ifB (i == (↑q.length : Int)) (some (Ex.ret, [V.b ((↑p.length : Int) == (↑q.length : Int))], []))
  (ifT (decide ((0 : Int) ≤ i) && decide (i < (↑p.length : Int)))
  (ifSome p[i.toNat]? fun z =>
  ifB (!z == [(43 : UInt8)])
  (ifT (decide ((0 : Int) ≤ i) && decide (i < (↑q.length : Int)))
  (ifSome q[i.toNat]? fun z =>
  ifB (!z == [(43 : UInt8)])
  (ifT (decide ((0 : Int) ≤ i) && decide (i < (↑p.length : Int)))
  (ifSome p[i.toNat]? fun z =>
  ifT (decide ((0 : Int) ≤ i) && decide (i < (↑q.length : Int)))
  (ifSome q[i.toNat]? fun z_1 =>
  ifB (!z == z_1) (some (Ex.ret, [V.b false], []))
  (some
  (Ex.normal,
  [V.sl Cd.str p, V.sl Cd.str q,
  V.i IntKind.i64 (IntKind.i64.wrap (i + (1 : Int)))],
  [])))))
  (some
  (Ex.normal,
  [V.sl Cd.str p, V.sl Cd.str q, V.i IntKind.i64 (IntKind.i64.wrap (i + (1 : Int)))],
  []))))
  (some
  (Ex.normal,
  [V.sl Cd.str p, V.sl Cd.str q, V.i IntKind.i64 (IntKind.i64.wrap (i + (1 : Int)))],
  []))))))))
  (ifB (i == (↑p.length : Int)) (some (Ex.ret, [V.b ((↑p.length : Int) == (↑q.length : Int))], []))
  (ifB (i == (↑q.length : Int)) (some (Ex.ret, [V.b ((↑p.length : Int) == (↑q.length : Int))], []))
  (ifT (decide ((0 : Int) ≤ i) && decide (i < (↑p.length : Int)))
  (ifSome p[i.toNat]? fun z =>
  ifB (!z == [(43 : UInt8)])
  (ifT (decide ((0 : Int) ≤ i) && decide (i < (↑q.length : Int)))
  (ifSome q[i.toNat]? fun z =>
  ifB (!z == [(43 : UInt8)])
  (ifT (decide ((0 : Int) ≤ i) && decide (i < (↑p.length : Int)))
  (ifSome p[i.toNat]? fun z =>
  ifT (decide ((0 : Int) ≤ i) && decide (i < (↑q.length : Int)))
  (ifSome q[i.toNat]? fun z_1 =>
  ifB (!z == z_1) (some (Ex.ret, [V.b false], []))
  (some
  (Ex.normal,
  [V.sl Cd.str p, V.sl Cd.str q,
  V.i IntKind.i64 (IntKind.i64.wrap (i + (1 : Int)))],
  [])))))
  (some
  (Ex.normal,
  [V.sl Cd.str p, V.sl Cd.str q, V.i IntKind.i64 (IntKind.i64.wrap (i + (1 : Int)))], []))))
  (some
  (Ex.normal, [V.sl Cd.str p, V.sl Cd.str q, V.i IntKind.i64 (IntKind.i64.wrap (i + (1 : Int)))],
  [])))))))))
  (ifB (decide (i < (↑q.length : Int)))
  (ifT (decide ((0 : Int) ≤ i) && decide (i < (↑q.length : Int)))
  (ifSome q[i.toNat]? fun z =>
  ifB (z == [(35 : UInt8)]) (some (Ex.ret, [V.b true], []))
  (ifB (i == (↑p.length : Int)) (some (Ex.ret, [V.b ((↑p.length : Int) == (↑q.length : Int))], []))
  (ifB (i == (↑q.length : Int)) (some (Ex.ret, [V.b ((↑p.length : Int) == (↑q.length : Int))], []))
  (ifT (decide ((0 : Int) ≤ i) && decide (i < (↑p.length : Int)))
  (ifSome p[i.toNat]? fun z =>
  ifB (!z == [(43 : UInt8)])
  (ifT (decide ((0 : Int) ≤ i) && decide (i < (↑q.length : Int)))
  (ifSome q[i.toNat]? fun z =>
  ifB (!z == [(43 : UInt8)])
  (ifT (decide ((0 : Int) ≤ i) && decide (i < (↑p.length : Int)))
  (ifSome p[i.toNat]? fun z =>
  ifT (decide ((0 : Int) ≤ i) && decide (i < (↑q.length : Int)))
  (ifSome q[i.toNat]? fun z_1 =>
  ifB (!z == z_1) (some (Ex.ret, [V.b false], []))
  (some
  (Ex.normal,
  [V.sl Cd.str p, V.sl Cd.str q,
  V.i IntKind.i64 (IntKind.i64.wrap (i + (1 : Int)))],
  [])))))
  (some
  (Ex.normal,
  [V.sl Cd.str p, V.sl Cd.str q, V.i IntKind.i64 (IntKind.i64.wrap (i + (1 : Int)))], []))))
  (some
  (Ex.normal, [V.sl Cd.str p, V.sl Cd.str q, V.i IntKind.i64 (IntKind.i64.wrap (i + (1 : Int)))],
  []))))))))
  (ifB (i == (↑p.length : Int)) (some (Ex.ret, [V.b ((↑p.length : Int) == (↑q.length : Int))], []))
  (ifB (i == (↑q.length : Int)) (some (Ex.ret, [V.b ((↑p.length : Int) == (↑q.length : Int))], []))
  (ifT (decide ((0 : Int) ≤ i) && decide (i < (↑p.length : Int)))
  (ifSome p[i.toNat]? fun z =>
  ifB (!z == [(43 : UInt8)])
  (ifT (decide ((0 : Int) ≤ i) && decide (i < (↑q.length : Int)))
  (ifSome q[i.toNat]? fun z =>
  ifB (!z == [(43 : UInt8)])
  (ifT (decide ((0 : Int) ≤ i) && decide (i < (↑p.length : Int)))
  (ifSome p[i.toNat]? fun z =>
  ifT (decide ((0 : Int) ≤ i) && decide (i < (↑q.length : Int)))
  (ifSome q[i.toNat]? fun z_1 =>
  ifB (!z == z_1) (some (Ex.ret, [V.b false], []))
  (some
  (Ex.normal,
  [V.sl Cd.str p, V.sl Cd.str q, V.i IntKind.i64 (IntKind.i64.wrap (i + (1 : Int)))],
  [])))))
  (some
  (Ex.normal, [V.sl Cd.str p, V.sl Cd.str q, V.i IntKind.i64 (IntKind.i64.wrap (i + (1 : Int)))],
  []))))
  (some
  (Ex.normal, [V.sl Cd.str p, V.sl Cd.str q, V.i IntKind.i64 (IntKind.i64.wrap (i + (1 : Int)))],
  [])))))))) : _) := by kernel_rfl
theorem smt_loop (p q : List (List UInt8)) (hp : p.length ≤ 1000000000) (hq : q.length ≤ 1000000000) : ∀ (j i : Nat), i + j = p.length → i ≤ q.length → Runs Tryd.prog (look []) (look [(3, smtE)]) 0 (body Tryd.f43 0) smtE ([.sl .str p, .sl .str q, .i .i64 (i : Int)], []) .ret ([.b (mt (p.drop i) (q.drop i))], []) := by
  intro j
  induction j with
  | zero =>
    intro i hi hiq
    have hr := smt_round p q i
    have hM : maxI = 9223372036854775807 := rfl
    simp only [Int.toNat_natCast, wrap_succ (n := i) (by omega)] at hr
    rw [ifB_false (decide_eq_false (by omega))] at hr
    rw [List.drop_eq_nil_of_le (show p.length ≤ i by omega)]
    by_cases h2 : i < q.length
    · have hb : (decide (0 ≤ (i : Int)) && decide ((i : Int) < (q.length : Int))) = true := by simp only [Bool.and_eq_true, decide_eq_true_eq]; omega
      rw [ifB_true (decide_eq_true (by omega))] at hr
      simp only [hb, ifT_t, List.getElem?_eq_getElem h2, ifSome_s] at hr
      rw [List.drop_eq_getElem_cons h2]
      by_cases h3 : q[i] = [35]
      · rw [ifB_true (by rw [h3]; rfl)] at hr
        exact .stop _ _ _ (hr.trans (by simp [mt, h3])) (by simp)
      · rw [ifB_false (beq_false_of_ne h3), ifB_true (by rw [show i = p.length by omega]; simp)] at hr
        exact .stop _ _ _ (hr.trans (by
          have : ((p.length : Int) == (q.length : Int)) = false := beq_false_of_ne (by omega)
          simp [mt, h3, this]; try omega)) (by simp)
    · rw [ifB_false (decide_eq_false (by omega)), ifB_true (by rw [show i = p.length by omega]; simp)] at hr
      rw [List.drop_eq_nil_of_le (show q.length ≤ i by omega)]
      exact .stop _ _ _ (hr.trans (by
        have : ((p.length : Int) == (q.length : Int)) = true := by rw [beq_iff_eq]; omega
        simp [mt, this]; try omega)) (by simp)
  | succ j ih =>
    intro i hi hiq
    have hr := smt_round p q i
    have hM : maxI = 9223372036854775807 := rfl
    have hil : i < p.length := by omega
    have ha : (decide (0 ≤ (i : Int)) && decide ((i : Int) < (p.length : Int))) = true := by simp only [Bool.and_eq_true, decide_eq_true_eq]; omega
    simp only [Int.toNat_natCast, wrap_succ (n := i) (by omega), ha, ifT_t, List.getElem?_eq_getElem hil, ifSome_s] at hr
    rw [ifB_true (decide_eq_true (by omega))] at hr
    have hdp := List.drop_eq_getElem_cons hil
    have ih := ih (i + 1) (by omega)
    rw [hdp]
    by_cases h2 : i < q.length
    · have hb : (decide (0 ≤ (i : Int)) && decide ((i : Int) < (q.length : Int))) = true := by simp only [Bool.and_eq_true, decide_eq_true_eq]; omega
      simp only [hb, ifT_t, List.getElem?_eq_getElem h2, ifSome_s] at hr
      rw [List.drop_eq_getElem_cons h2, mt]
      have ih := ih (by omega)
      generalize p[i] = x at *
      generalize q[i] = y at *
      by_cases h3 : x = [35]
      · simp only [show (x == [35]) = true from by rw [h3]; rfl, ifB_t] at hr
        rw [if_pos (.inl h3)]
        exact .stop _ _ _ hr (by simp)
      rw [ifB_false (beq_false_of_ne h3), ifB_true (decide_eq_true (by omega))] at hr
      by_cases h4 : y = [35]
      · rw [ifB_true (by rw [h4]; rfl)] at hr
        rw [if_pos (.inr h4)]
        exact .stop _ _ _ hr (by simp)
      rw [ifB_false (beq_false_of_ne h4), ifB_false (beq_false_of_ne (by omega)), ifB_false (beq_false_of_ne (by omega))] at hr
      rw [if_neg (by simp [h3, h4])]
      by_cases h5 : x ≠ [43] ∧ y ≠ [43] ∧ x ≠ y
      · rw [if_pos h5]
        refine .stop _ _ _ (hr.trans ?_) (by simp)
        simp [h5.1, h5.2.1, h5.2.2]
      · rw [if_neg h5]
        refine .step _ _ _ _ (hr.trans ?_) ih
        by_cases z1 : x = y
        · subst z1; simp
        · by_cases z2 : x = [43]
          · subst z2; simp
          · by_cases z3 : y = [43]
            · subst z3; simp
            · exact absurd ⟨z2, z3, z1⟩ h5
    · rw [List.drop_eq_nil_of_le (show q.length ≤ i by omega), mt]
      by_cases h3 : p[i] = [35]
      · simp only [show (p[i] == [35]) = true from by rw [h3]; rfl, ifB_t] at hr
        exact .stop _ _ _ (hr.trans (by simp [h3])) (by simp)
      · rw [ifB_false (beq_false_of_ne h3), ifB_false (decide_eq_false (by omega)), ifB_false (beq_false_of_ne (by omega)), ifB_true (by rw [show i = q.length by omega]; simp)] at hr
        exact .stop _ _ _ (hr.trans (by
          have : ((p.length : Int) == (q.length : Int)) = false := beq_false_of_ne (by omega)
          simp [h3, this]; try omega)) (by simp)
theorem smt_ok : LoopsOk Tryd.prog (look []) (look [(3, smtE)]) 0 (Tryd.f43.body.getD .skip) := by
  refine loopsOk_one (a := body Tryd.f43 0) (by kernel_rfl) fun d e d' h => ?_
  unfold smtE at h
  dsimp only at h
  split at h
  · rename_i p q i
    obtain ⟨hc, hx⟩ := need_some h
    clear h
    obtain ⟨h0, h1, h2, h3, h4⟩ := of_decide_eq_true hc
    obtain ⟨i, rfl⟩ := Int.eq_ofNat_of_zero_le h0
    rw [Int.toNat_natCast] at h1 h2 hx
    have h6 := leaf_some hx
    obtain ⟨rfl, rfl⟩ := Prod.mk.inj h6
    exact smt_loop p q h3 h4 (p.length - i) i (by omega) h2
  · cases h
theorem smt_fun (p q : List (List UInt8)) (hc : p.length ≤ 1000000000 ∧ q.length ≤ 1000000000) : funK Tryd.prog (look []) (look [(3, smtE)]) Tryd.f43 [.sl .str p, .sl .str q] [] = some (.b (mt p q), []) := by
  have e : funK Tryd.prog (look []) (look [(3, smtE)]) Tryd.f43 [.sl .str p, .sl .str q] [] = ((ifT
  (decide
  ((0 : Int) ≤ (0 : Int) ∧
  (0 : Nat) ≤ p.length ∧ (0 : Nat) ≤ q.length ∧ p.length ≤ (1000000000 : Nat) ∧ q.length ≤ (1000000000 : Nat)))
  (some (V.b (Den.mt (List.drop (0 : Nat) p) (List.drop (0 : Nat) q)), []))) : _) := by kernel_rfl
  rw [e]
  clear e
  rw [ifT_true (decide_eq_true ⟨by omega, by omega, by omega, hc.1, hc.2⟩)]
  rfl
theorem smt : Contract Tryd.prog 43 (Ent.rd1 mtG).F := by
  refine fun_contract' KnowsL.nil.knows (Λ := look [(3, smtE)]) Tryd.func43 (c := Tryd.f43.body.getD .skip) (by kernel_rfl) fun vs bs r' hq hv hb => ?_
  unfold Ent.F mtG at hq
  dsimp only at hq
  split at hq
  · rename_i p q
    obtain ⟨hc, hx⟩ := need_some hq
    exact ⟨smt_ok, (smt_fun p q (of_decide_eq_true hc)).trans hx⟩
  · cases hq
end Go.Proofs.YtfkoljiioikdfaaDoor.Den
