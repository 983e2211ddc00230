/- What functions of the program do, by the machine: Top2. -/
import Derived.Test.YtfkoljiioikdfaaDoorDTop1
import Derived.KernelRfl
import Derived.Test.YtfkoljiioikdfaaDoorRows
namespace Go.Proofs.YtfkoljiioikdfaaDoor.Den
open Go.Proofs
set_option maxRecDepth 100000
/-- Whether levels take in others: told ahead of the end, or not. -/
def tkS (f : List UInt8 → List UInt8 → Bool) : List (List UInt8) → List (List UInt8) → Option Bool
  | [], _ => none
  | x :: p, q => if x = [35] then some true else match q with
    | [] => some false
    | y :: q => if f x y = true then tkS f p q else some false
def tk (f : List UInt8 → List UInt8 → Bool) (p q : List (List UInt8)) : Bool := (tkS f p q).getD (decide (p.length = q.length))
/-- A level takes in another one; it fits one of a topic. -/
def inL (x y : List UInt8) : Bool := x == y || (x == [43] && !(y == [35]))
def fitL (x y : List UInt8) : Bool := x == [43] || x == y
def inG : List V → List Blk → Br (V × List (Option Blk))
  | [.sl .str p, .sl .str q], [] => .leaf (.b (tk inL p q), [])
  | _, _ => .no
def fitG : List V → List Blk → Br (V × List (Option Blk))
  | [.sl .str p, .sl .str q], [] => .leaf (.b (tk fitL p q), [])
  | _, _ => .no
def tinE : LoopEnt := ⟨47, [0,1,7,8,9], [0,1], [4], fun
  | ([.sl .str p, .sl .str q, .sl .str p2, .i .i64 m, .i .i64 i], []) => .need (decide (0 ≤ i ∧ p2 = p ∧ m = p.length ∧ i.toNat ≤ p.length ∧ i.toNat ≤ q.length ∧ p.length ≤ maxI ∧ q.length ≤ maxI)) (.br (tkS inL (p.drop i.toNat) (q.drop i.toNat)).isNone (.leaf (.exit 0, ([.sl .str p, .sl .str q], []))) (.leaf (.ret, ([.b ((tkS inL (p.drop i.toNat) (q.drop i.toNat)).getD false)], []))))
  | _ => .no⟩
def covE : LoopEnt := ⟨45, [0,1,7,8,9], [0,1], [4], fun
  | ([.sl .str p, .sl .str q, .sl .str p2, .i .i64 m, .i .i64 i], []) => .need (decide (0 ≤ i ∧ p2 = p ∧ m = p.length ∧ i.toNat ≤ p.length ∧ i.toNat ≤ q.length ∧ p.length ≤ maxI ∧ q.length ≤ maxI)) (.br (tkS inL (p.drop i.toNat) (q.drop i.toNat)).isNone (.leaf (.exit 0, ([.sl .str p, .sl .str q], []))) (.leaf (.ret, ([.b ((tkS inL (p.drop i.toNat) (q.drop i.toNat)).getD false)], []))))
  | _ => .no⟩
def fitsE : LoopEnt := ⟨38, [0,1,7,8,9], [0,1], [4], fun
  | ([.sl .str p, .sl .str q, .sl .str p2, .i .i64 m, .i .i64 i], []) => .need (decide (0 ≤ i ∧ p2 = p ∧ m = p.length ∧ i.toNat ≤ p.length ∧ i.toNat ≤ q.length ∧ p.length ≤ maxI ∧ q.length ≤ maxI)) (.br (tkS fitL (p.drop i.toNat) (q.drop i.toNat)).isNone (.leaf (.exit 0, ([.sl .str p, .sl .str q], []))) (.leaf (.ret, ([.b ((tkS fitL (p.drop i.toNat) (q.drop i.toNat)).getD false)], []))))
  | _ => .no⟩
theorem tkS_cons (f : List UInt8 → List UInt8 → Bool) (x : List UInt8) (p q : List (List UInt8)) : tkS f (x :: p) q = if x = [35] then some true else match q with
    | [] => some false
    | y :: q => if f x y = true then tkS f p q else some false := by cases q <;> rfl
theorem tin_round (p q p2 : List (List UInt8)) (m i : Int) : roundK Tryd.prog (look []) (look [(2, tinE)]) 0 (body Tryd.f32 0) tinE ([.sl .str p, .sl .str q, .sl .str p2, .i .i64 m, .i .i64 i], []) =
  ((ifB (decide (i < m))
  (ifT (decide ((0 : Int) ≤ i) && decide (i < (↑p2.length : Int)))
  (ifSome p2[i.toNat]? fun z =>
  ifB (z == [(35 : UInt8)]) (some (Ex.ret, [V.b true], []))
  (ifB (i == (↑q.length : Int)) (some (Ex.ret, [V.b false], []))
  (ifT (decide ((0 : Int) ≤ i) && decide (i < (↑q.length : Int)))
  (ifSome q[i.toNat]? fun z_1 =>
  ifB (!z == z_1)
  (ifB (!z == [(43 : UInt8)]) (some (Ex.ret, [V.b false], []))
  (ifT (decide ((0 : Int) ≤ i) && decide (i < (↑q.length : Int)))
  (ifSome q[i.toNat]? fun z =>
  ifB (z == [(35 : UInt8)]) (some (Ex.ret, [V.b false], []))
  (some
  (Ex.normal,
  [V.sl Cd.str p, V.sl Cd.str q, V.sl Cd.str p2, V.i IntKind.i64 m,
  V.i IntKind.i64 (IntKind.i64.wrap (i + (1 : Int)))],
  [])))))
  (some
  (Ex.normal,
  [V.sl Cd.str p, V.sl Cd.str q, V.sl Cd.str p2, V.i IntKind.i64 m,
  V.i IntKind.i64 (IntKind.i64.wrap (i + (1 : Int)))],
  [])))))))
  (some (Ex.exit (0 : Nat), [V.sl Cd.str p, V.sl Cd.str q], []))) : _) := by kernel_rfl
theorem tin_loop (p q : List (List UInt8)) (hp : p.length ≤ maxI) (hq : q.length ≤ maxI) : ∀ (j i : Nat), i + j = p.length → i ≤ q.length → ∀ e d', (Br.br (tkS inL (p.drop i) (q.drop i)).isNone (.leaf (.exit 0, ([.sl .str p, .sl .str q], []))) (.leaf (.ret, ([.b ((tkS inL (p.drop i) (q.drop i)).getD false)], []))) : Br (Ex × Dt)).run = some (e, d') → Runs Tryd.prog (look []) (look [(2, tinE)]) 0 (body Tryd.f32 0) tinE ([.sl .str p, .sl .str q, .sl .str p, .i .i64 (↑p.length : Int), .i .i64 (i : Int)], []) e d'
  | 0, i, hi, hiq, e, d', hx => by
    have hr := tin_round p q p p.length i
    rw [ifB_false (decide_eq_false (by omega))] at hr
    rw [List.drop_eq_nil_of_le (by omega)] at hx
    cases hx
    exact .stop _ _ _ hr (by simp)
  | j + 1, i, hi, hiq, e, d', hx => by
    have hil : i < p.length := by omega
    have hr := tin_round p q p p.length i
    rw [ifB_true (decide_eq_true (by omega)), ifT_true (by simp only [Bool.and_eq_true, decide_eq_true_eq]; omega)] at hr
    simp only [Int.toNat_natCast, List.getElem?_eq_getElem hil, ifSome_s, wrap_succ (n := i) (by omega)] at hr
    rw [List.drop_eq_getElem_cons hil, tkS_cons] at hx
    by_cases q1 : p[i] = [35]
    · rw [if_pos q1] at hx
      cases hx
      rw [ifB_true (by rw [q1]; rfl)] at hr
      exact .stop _ _ _ hr (by simp)
    rw [if_neg q1] at hx
    rw [ifB_false (beq_false_of_ne q1)] at hr
    by_cases q2 : i = q.length
    · rw [List.drop_eq_nil_of_le (by omega)] at hx
      cases hx
      rw [ifB_true (by rw [q2]; simp)] at hr
      exact .stop _ _ _ hr (by simp)
    have hiq2 : i < q.length := by omega
    rw [ifB_false (beq_false_of_ne (by omega))] at hr
    simp only [List.getElem?_eq_getElem hiq2, ifSome_s] at hr
    have hb : (decide (0 ≤ (i : Int)) && decide ((i : Int) < (q.length : Int))) = true := by simp only [Bool.and_eq_true, decide_eq_true_eq]; omega
    simp only [hb, ifT_t] at hr
    rw [List.drop_eq_getElem_cons hiq2] at hx
    have e35 : (p[i] == [35]) = false := beq_false_of_ne q1
    by_cases q3 : inL p[i] q[i] = true
    · simp only [if_pos q3] at hx
      refine .step _ _ _ _ (hr.trans ?_) (tin_loop p q hp hq j (i + 1) (by omega) (by omega) e d' hx)
      revert q3 e35
      unfold inL
      generalize p[i] = x
      generalize q[i] = y
      intro e35 q3
      by_cases z1 : x = y
      · subst z1; simp at q3 ⊢
      · by_cases z2 : x = [43]
        · subst z2
          by_cases z3 : y = [35]
          · subst z3; simp_all
          · simp_all
        · simp_all
    · simp only [if_neg q3] at hx
      cases hx
      refine .stop _ _ _ (hr.trans ?_) (by simp)
      revert q3 e35
      unfold inL
      generalize p[i] = x
      generalize q[i] = y
      intro e35 q3
      by_cases z1 : x = y
      · subst z1; simp at q3 ⊢
      · by_cases z2 : x = [43]
        · subst z2
          by_cases z3 : y = [35]
          · subst z3; simp_all
          · simp_all
        · simp_all
theorem tin_ok : LoopsOk Tryd.prog (look []) (look [(2, tinE)]) 0 (Tryd.f32.body.getD .skip) := by
  refine loopsOk_one (a := body Tryd.f32 0) (by kernel_rfl) fun d e d' h => ?_
  unfold tinE at h
  dsimp only at h
  split at h
  · rename_i p q p2 m i
    obtain ⟨hc, hx⟩ := need_some h
    clear h
    obtain ⟨h0, rfl, rfl, h1, h2, h3, h4⟩ := of_decide_eq_true hc
    obtain ⟨i, rfl⟩ := Int.eq_ofNat_of_zero_le h0
    rw [Int.toNat_natCast] at h1 h2 hx
    exact tin_loop p2 q h3 h4 (p2.length - i) i (by omega) h2 e d' hx
  · cases h
theorem tin_fun (p q : List (List UInt8)) (hp : p.length ≤ maxI) (hq : q.length ≤ maxI) : funK Tryd.prog (look []) (look [(2, tinE)]) Tryd.f32 [.sl .str p, .sl .str q] [] = some (.b (tk inL p q), []) := by
  have e : funK Tryd.prog (look []) (look [(2, tinE)]) Tryd.f32 [.sl .str p, .sl .str q] [] = ((ifT
  (decide
  ((0 : Int) ≤ (0 : Int) ∧
  p = p ∧
  (↑p.length : Int) = (↑p.length : Int) ∧
  (0 : Nat) ≤ p.length ∧ (0 : Nat) ≤ q.length ∧ p.length ≤ maxI ∧ q.length ≤ maxI))
  (ifB (tkS inL (List.drop (0 : Nat) p) (List.drop (0 : Nat) q)).isNone
  (some (V.b ((↑p.length : Int) == (↑q.length : Int)), []))
  (some (V.b ((tkS inL (List.drop (0 : Nat) p) (List.drop (0 : Nat) q)).getD false), [])))) : _) := by kernel_rfl
  rw [e]
  clear e
  rw [ifT_true (decide_eq_true ⟨by omega, by trivial, by trivial, by omega, by omega, hp, hq⟩)]
  unfold tk
  simp only [List.drop_zero]
  cases tkS inL p q with
  | none =>
    rw [ifB_true (by rfl)]
    by_cases h : p.length = q.length
    · simp [h]
    · simp [h] <;> omega
  | some b => rfl
theorem tin : Contract Tryd.prog 32 (Ent.rd1 inG).F := by
  refine fun_contract' KnowsL.nil.knows (Λ := look [(2, tinE)]) Tryd.func32 (c := Tryd.f32.body.getD .skip) (by kernel_rfl) fun vs bs r' hq hv hb => ?_
  unfold Ent.F inG at hq
  dsimp only at hq
  split at hq
  · rename_i p q
    exact ⟨tin_ok, (tin_fun p q (hv (.sl .str p) (by simp)).1 (hv (.sl .str q) (by simp)).1).trans hq⟩
  · cases hq
theorem cov_round (p q p2 : List (List UInt8)) (m i : Int) : roundK Tryd.prog (look []) (look [(2, covE)]) 0 (body Tryd.f41 0) covE ([.sl .str p, .sl .str q, .sl .str p2, .i .i64 m, .i .i64 i], []) =
  ((ifB (decide (i < m))
  (ifT (decide ((0 : Int) ≤ i) && decide (i < (↑p2.length : Int)))
  (ifSome p2[i.toNat]? fun z =>
  ifB (z == [(35 : UInt8)]) (some (Ex.ret, [V.b true], []))
  (ifB (i == (↑q.length : Int)) (some (Ex.ret, [V.b false], []))
  (ifT (decide ((0 : Int) ≤ i) && decide (i < (↑q.length : Int)))
  (ifSome q[i.toNat]? fun z_1 =>
  ifB (z_1 == [(35 : UInt8)]) (some (Ex.ret, [V.b false], []))
  (ifB (!z == [(43 : UInt8)])
  (ifT (decide ((0 : Int) ≤ i) && decide (i < (↑q.length : Int)))
  (ifSome q[i.toNat]? fun z_2 =>
  ifB (!z == z_2) (some (Ex.ret, [V.b false], []))
  (some
  (Ex.normal,
  [V.sl Cd.str p, V.sl Cd.str q, V.sl Cd.str p2, V.i IntKind.i64 m,
  V.i IntKind.i64 (IntKind.i64.wrap (i + (1 : Int)))],
  []))))
  (some
  (Ex.normal,
  [V.sl Cd.str p, V.sl Cd.str q, V.sl Cd.str p2, V.i IntKind.i64 m,
  V.i IntKind.i64 (IntKind.i64.wrap (i + (1 : Int)))],
  []))))))))
  (some (Ex.exit (0 : Nat), [V.sl Cd.str p, V.sl Cd.str q], []))) : _) := by kernel_rfl
theorem cov_loop (p q : List (List UInt8)) (hp : p.length ≤ maxI) (hq : q.length ≤ maxI) : ∀ (j i : Nat), i + j = p.length → i ≤ q.length → ∀ e d', (Br.br (tkS inL (p.drop i) (q.drop i)).isNone (.leaf (.exit 0, ([.sl .str p, .sl .str q], []))) (.leaf (.ret, ([.b ((tkS inL (p.drop i) (q.drop i)).getD false)], []))) : Br (Ex × Dt)).run = some (e, d') → Runs Tryd.prog (look []) (look [(2, covE)]) 0 (body Tryd.f41 0) covE ([.sl .str p, .sl .str q, .sl .str p, .i .i64 (↑p.length : Int), .i .i64 (i : Int)], []) e d'
  | 0, i, hi, hiq, e, d', hx => by
    have hr := cov_round p q p p.length i
    rw [ifB_false (decide_eq_false (by omega))] at hr
    rw [List.drop_eq_nil_of_le (by omega)] at hx
    cases hx
    exact .stop _ _ _ hr (by simp)
  | j + 1, i, hi, hiq, e, d', hx => by
    have hil : i < p.length := by omega
    have hr := cov_round p q p p.length i
    rw [ifB_true (decide_eq_true (by omega)), ifT_true (by simp only [Bool.and_eq_true, decide_eq_true_eq]; omega)] at hr
    simp only [Int.toNat_natCast, List.getElem?_eq_getElem hil, ifSome_s, wrap_succ (n := i) (by omega)] at hr
    rw [List.drop_eq_getElem_cons hil, tkS_cons] at hx
    by_cases q1 : p[i] = [35]
    · rw [if_pos q1] at hx
      cases hx
      rw [ifB_true (by rw [q1]; rfl)] at hr
      exact .stop _ _ _ hr (by simp)
    rw [if_neg q1] at hx
    rw [ifB_false (beq_false_of_ne q1)] at hr
    by_cases q2 : i = q.length
    · rw [List.drop_eq_nil_of_le (by omega)] at hx
      cases hx
      rw [ifB_true (by rw [q2]; simp)] at hr
      exact .stop _ _ _ hr (by simp)
    have hiq2 : i < q.length := by omega
    rw [ifB_false (beq_false_of_ne (by omega))] at hr
    simp only [List.getElem?_eq_getElem hiq2, ifSome_s] at hr
    have hb : (decide (0 ≤ (i : Int)) && decide ((i : Int) < (q.length : Int))) = true := by simp only [Bool.and_eq_true, decide_eq_true_eq]; omega
    simp only [hb, ifT_t] at hr
    rw [List.drop_eq_getElem_cons hiq2] at hx
    have e35 : (p[i] == [35]) = false := beq_false_of_ne q1
    by_cases q3 : inL p[i] q[i] = true
    · simp only [if_pos q3] at hx
      refine .step _ _ _ _ (hr.trans ?_) (cov_loop p q hp hq j (i + 1) (by omega) (by omega) e d' hx)
      revert q3 e35
      unfold inL
      generalize p[i] = x
      generalize q[i] = y
      intro e35 q3
      by_cases z3 : y = [35]
      · subst z3; simp_all
      · by_cases z2 : x = [43]
        · subst z2; simp_all
        · by_cases z1 : x = y
          · subst z1; simp_all
          · simp_all
    · simp only [if_neg q3] at hx
      cases hx
      refine .stop _ _ _ (hr.trans ?_) (by simp)
      revert q3 e35
      unfold inL
      generalize p[i] = x
      generalize q[i] = y
      intro e35 q3
      by_cases z3 : y = [35]
      · subst z3; simp_all
      · by_cases z2 : x = [43]
        · subst z2; simp_all
        · by_cases z1 : x = y
          · subst z1; simp_all
          · simp_all
theorem cov_ok : LoopsOk Tryd.prog (look []) (look [(2, covE)]) 0 (Tryd.f41.body.getD .skip) := by
  refine loopsOk_one (a := body Tryd.f41 0) (by kernel_rfl) fun d e d' h => ?_
  unfold covE at h
  dsimp only at h
  split at h
  · rename_i p q p2 m i
    obtain ⟨hc, hx⟩ := need_some h
    clear h
    obtain ⟨h0, rfl, rfl, h1, h2, h3, h4⟩ := of_decide_eq_true hc
    obtain ⟨i, rfl⟩ := Int.eq_ofNat_of_zero_le h0
    rw [Int.toNat_natCast] at h1 h2 hx
    exact cov_loop p2 q h3 h4 (p2.length - i) i (by omega) h2 e d' hx
  · cases h
theorem cov_fun (p q : List (List UInt8)) (hp : p.length ≤ maxI) (hq : q.length ≤ maxI) : funK Tryd.prog (look []) (look [(2, covE)]) Tryd.f41 [.sl .str p, .sl .str q] [] = some (.b (tk inL p q), []) := by
  have e : funK Tryd.prog (look []) (look [(2, covE)]) Tryd.f41 [.sl .str p, .sl .str q] [] = ((ifT
  (decide
  ((0 : Int) ≤ (0 : Int) ∧
  p = p ∧
  (↑p.length : Int) = (↑p.length : Int) ∧
  (0 : Nat) ≤ p.length ∧ (0 : Nat) ≤ q.length ∧ p.length ≤ maxI ∧ q.length ≤ maxI))
  (ifB (tkS inL (List.drop (0 : Nat) p) (List.drop (0 : Nat) q)).isNone
  (some (V.b ((↑p.length : Int) == (↑q.length : Int)), []))
  (some (V.b ((tkS inL (List.drop (0 : Nat) p) (List.drop (0 : Nat) q)).getD false), [])))) : _) := by kernel_rfl
  rw [e]
  clear e
  rw [ifT_true (decide_eq_true ⟨by omega, by trivial, by trivial, by omega, by omega, hp, hq⟩)]
  unfold tk
  simp only [List.drop_zero]
  cases tkS inL p q with
  | none =>
    rw [ifB_true (by rfl)]
    by_cases h : p.length = q.length
    · simp [h]
    · simp [h] <;> omega
  | some b => rfl
theorem cov : Contract Tryd.prog 41 (Ent.rd1 inG).F := by
  refine fun_contract' KnowsL.nil.knows (Λ := look [(2, covE)]) Tryd.func41 (c := Tryd.f41.body.getD .skip) (by kernel_rfl) fun vs bs r' hq hv hb => ?_
  unfold Ent.F inG at hq
  dsimp only at hq
  split at hq
  · rename_i p q
    exact ⟨cov_ok, (cov_fun p q (hv (.sl .str p) (by simp)).1 (hv (.sl .str q) (by simp)).1).trans hq⟩
  · cases hq
theorem fits_round (p q p2 : List (List UInt8)) (m i : Int) : roundK Tryd.prog (look []) (look [(2, fitsE)]) 0 (body Tryd.f34 0) fitsE ([.sl .str p, .sl .str q, .sl .str p2, .i .i64 m, .i .i64 i], []) =
  ((ifB (decide (i < m))
  (ifT (decide ((0 : Int) ≤ i) && decide (i < (↑p2.length : Int)))
  (ifSome p2[i.toNat]? fun z =>
  ifB (z == [(35 : UInt8)]) (some (Ex.ret, [V.b true], []))
  (ifB (i == (↑q.length : Int)) (some (Ex.ret, [V.b false], []))
  (ifB (!z == [(43 : UInt8)])
  (ifT (decide ((0 : Int) ≤ i) && decide (i < (↑q.length : Int)))
  (ifSome q[i.toNat]? fun z_1 =>
  ifB (!z == z_1) (some (Ex.ret, [V.b false], []))
  (some
  (Ex.normal,
  [V.sl Cd.str p, V.sl Cd.str q, V.sl Cd.str p2, V.i IntKind.i64 m,
  V.i IntKind.i64 (IntKind.i64.wrap (i + (1 : Int)))],
  []))))
  (some
  (Ex.normal,
  [V.sl Cd.str p, V.sl Cd.str q, V.sl Cd.str p2, V.i IntKind.i64 m,
  V.i IntKind.i64 (IntKind.i64.wrap (i + (1 : Int)))],
  []))))))
  (some (Ex.exit (0 : Nat), [V.sl Cd.str p, V.sl Cd.str q], []))) : _) := by kernel_rfl
theorem fits_loop (p q : List (List UInt8)) (hp : p.length ≤ maxI) (hq : q.length ≤ maxI) : ∀ (j i : Nat), i + j = p.length → i ≤ q.length → ∀ e d', (Br.br (tkS fitL (p.drop i) (q.drop i)).isNone (.leaf (.exit 0, ([.sl .str p, .sl .str q], []))) (.leaf (.ret, ([.b ((tkS fitL (p.drop i) (q.drop i)).getD false)], []))) : Br (Ex × Dt)).run = some (e, d') → Runs Tryd.prog (look []) (look [(2, fitsE)]) 0 (body Tryd.f34 0) fitsE ([.sl .str p, .sl .str q, .sl .str p, .i .i64 (↑p.length : Int), .i .i64 (i : Int)], []) e d'
  | 0, i, hi, hiq, e, d', hx => by
    have hr := fits_round p q p p.length i
    rw [ifB_false (decide_eq_false (by omega))] at hr
    rw [List.drop_eq_nil_of_le (by omega)] at hx
    cases hx
    exact .stop _ _ _ hr (by simp)
  | j + 1, i, hi, hiq, e, d', hx => by
    have hil : i < p.length := by omega
    have hr := fits_round p q p p.length i
    rw [ifB_true (decide_eq_true (by omega)), ifT_true (by simp only [Bool.and_eq_true, decide_eq_true_eq]; omega)] at hr
    simp only [Int.toNat_natCast, List.getElem?_eq_getElem hil, ifSome_s, wrap_succ (n := i) (by omega)] at hr
    rw [List.drop_eq_getElem_cons hil, tkS_cons] at hx
    by_cases q1 : p[i] = [35]
    · rw [if_pos q1] at hx
      cases hx
      rw [ifB_true (by rw [q1]; rfl)] at hr
      exact .stop _ _ _ hr (by simp)
    rw [if_neg q1] at hx
    rw [ifB_false (beq_false_of_ne q1)] at hr
    by_cases q2 : i = q.length
    · rw [List.drop_eq_nil_of_le (by omega)] at hx
      cases hx
      rw [ifB_true (by rw [q2]; simp)] at hr
      exact .stop _ _ _ hr (by simp)
    have hiq2 : i < q.length := by omega
    rw [ifB_false (beq_false_of_ne (by omega))] at hr
    simp only [List.getElem?_eq_getElem hiq2, ifSome_s] at hr
    have hb : (decide (0 ≤ (i : Int)) && decide ((i : Int) < (q.length : Int))) = true := by simp only [Bool.and_eq_true, decide_eq_true_eq]; omega
    simp only [hb, ifT_t] at hr
    rw [List.drop_eq_getElem_cons hiq2] at hx
    have e35 : (p[i] == [35]) = false := beq_false_of_ne q1
    by_cases q3 : fitL p[i] q[i] = true
    · simp only [if_pos q3] at hx
      refine .step _ _ _ _ (hr.trans ?_) (fits_loop p q hp hq j (i + 1) (by omega) (by omega) e d' hx)
      revert q3 e35
      unfold fitL
      generalize p[i] = x
      generalize q[i] = y
      intro e35 q3
      by_cases z2 : x = [43]
      · subst z2; simp_all
      · by_cases z1 : x = y
        · subst z1; simp_all
        · simp_all
    · simp only [if_neg q3] at hx
      cases hx
      refine .stop _ _ _ (hr.trans ?_) (by simp)
      revert q3 e35
      unfold fitL
      generalize p[i] = x
      generalize q[i] = y
      intro e35 q3
      by_cases z2 : x = [43]
      · subst z2; simp_all
      · by_cases z1 : x = y
        · subst z1; simp_all
        · simp_all
theorem fits_ok : LoopsOk Tryd.prog (look []) (look [(2, fitsE)]) 0 (Tryd.f34.body.getD .skip) := by
  refine loopsOk_one (a := body Tryd.f34 0) (by kernel_rfl) fun d e d' h => ?_
  unfold fitsE at h
  dsimp only at h
  split at h
  · rename_i p q p2 m i
    obtain ⟨hc, hx⟩ := need_some h
    clear h
    obtain ⟨h0, rfl, rfl, h1, h2, h3, h4⟩ := of_decide_eq_true hc
    obtain ⟨i, rfl⟩ := Int.eq_ofNat_of_zero_le h0
    rw [Int.toNat_natCast] at h1 h2 hx
    exact fits_loop p2 q h3 h4 (p2.length - i) i (by omega) h2 e d' hx
  · cases h
theorem fits_fun (p q : List (List UInt8)) (hp : p.length ≤ maxI) (hq : q.length ≤ maxI) : funK Tryd.prog (look []) (look [(2, fitsE)]) Tryd.f34 [.sl .str p, .sl .str q] [] = some (.b (tk fitL p q), []) := by
  have e : funK Tryd.prog (look []) (look [(2, fitsE)]) Tryd.f34 [.sl .str p, .sl .str q] [] = ((ifT
  (decide
  ((0 : Int) ≤ (0 : Int) ∧
  p = p ∧
  (↑p.length : Int) = (↑p.length : Int) ∧
  (0 : Nat) ≤ p.length ∧ (0 : Nat) ≤ q.length ∧ p.length ≤ maxI ∧ q.length ≤ maxI))
  (ifB (tkS fitL (List.drop (0 : Nat) p) (List.drop (0 : Nat) q)).isNone
  (some (V.b ((↑p.length : Int) == (↑q.length : Int)), []))
  (some (V.b ((tkS fitL (List.drop (0 : Nat) p) (List.drop (0 : Nat) q)).getD false), [])))) : _) := by kernel_rfl
  rw [e]
  clear e
  rw [ifT_true (decide_eq_true ⟨by omega, by trivial, by trivial, by omega, by omega, hp, hq⟩)]
  unfold tk
  simp only [List.drop_zero]
  cases tkS fitL p q with
  | none =>
    rw [ifB_true (by rfl)]
    by_cases h : p.length = q.length
    · simp [h]
    · simp [h] <;> omega
  | some b => rfl
theorem fits : Contract Tryd.prog 34 (Ent.rd1 fitG).F := by
  refine fun_contract' KnowsL.nil.knows (Λ := look [(2, fitsE)]) Tryd.func34 (c := Tryd.f34.body.getD .skip) (by kernel_rfl) fun vs bs r' hq hv hb => ?_
  unfold Ent.F fitG at hq
  dsimp only at hq
  split at hq
  · rename_i p q
    exact ⟨fits_ok, (fits_fun p q (hv (.sl .str p) (by simp)).1 (hv (.sl .str q) (by simp)).1).trans hq⟩
  · cases hq
end Go.Proofs.YtfkoljiioikdfaaDoor.Den
