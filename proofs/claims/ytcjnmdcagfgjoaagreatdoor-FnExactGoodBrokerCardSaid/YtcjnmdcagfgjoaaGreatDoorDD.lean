/- What functions of the program do, by the machine: Top2 Top3 Top4 Top4b IdxStr Top5 Top6 Top7 Brk1 Brk2 Brk3 Brk4 Top8 Brk5 Brk6 Brk7 Brk8. -/
import Derived.Test.YtcjnmdcagfgjoaaGreatDoorDC
import Derived.KernelRfl
import Derived.Test.YtcjnmdcagfgjoaaGreatDoorRows
namespace Go.Proofs.YtcjnmdcagfgjoaaGreatDoor.Den
open Go.Proofs
set_option maxRecDepth 100000
def tkS (f : List UInt8 → List UInt8 → Bool) : List (List UInt8) → List (List UInt8) → Option Bool
 | [], _ => none
 | x :: p, q => if x = [35] then some true else match q with
  | [] => some false
  | y :: q => if f x y = true then tkS f p q else some false
def tk (f : List UInt8 → List UInt8 → Bool) (p q : List (List UInt8)) : Bool := (tkS f p q).getD (decide (p.length = q.length))
def inL (x y : List UInt8) : Bool := x == y || (x == [43] && !(y == [35]))
def fitL (x y : List UInt8) : Bool := x == [43] || x == y
def inG : List V → List Blk → Br (V × List (Option Blk))
 | [.sl .str p, .sl .str q], [] => .leaf (.b (tk inL p q), [])
 | _, _ => .no
def fitG : List V → List Blk → Br (V × List (Option Blk))
 | [.sl .str p, .sl .str q], [] => .leaf (.b (tk fitL p q), [])
 | _, _ => .no
def tinE : LoopEnt := ⟨47, [0,1,7,8,9], [0,1], [4], fun
 | ([.sl .str p, .sl .str q, .sl .str p2, .i .i64 m, .i .i64 i], []) => .need (decide (0 ≤ i ∧ p2 = p ∧ m = p.length ∧ i.toNat ≤ p.length ∧ i.toNat ≤ q.length ∧ p.length ≤ maxI ∧ q.length ≤ maxI)) (.br (tkS inL (p.drop i.toNat) (q.drop i.toNat)).isNone (.leaf (.exit 0, ([.sl .str p, .sl .str q], []))) (.leaf (.ret, ([.b ((tkS inL (p.drop i.toNat) (q.drop i.toNat)).getD false)], []))))
 | _ => .no⟩
def fitsE : LoopEnt := ⟨38, [0,1,7,8,9], [0,1], [4], fun
 | ([.sl .str p, .sl .str q, .sl .str p2, .i .i64 m, .i .i64 i], []) => .need (decide (0 ≤ i ∧ p2 = p ∧ m = p.length ∧ i.toNat ≤ p.length ∧ i.toNat ≤ q.length ∧ p.length ≤ maxI ∧ q.length ≤ maxI)) (.br (tkS fitL (p.drop i.toNat) (q.drop i.toNat)).isNone (.leaf (.exit 0, ([.sl .str p, .sl .str q], []))) (.leaf (.ret, ([.b ((tkS fitL (p.drop i.toNat) (q.drop i.toNat)).getD false)], []))))
 | _ => .no⟩

theorem tkS_cons (f : List UInt8 → List UInt8 → Bool) (x : List UInt8) (p q : List (List UInt8)) : tkS f (x :: p) q = if x = [35] then some true else match q with
  | [] => some false
  | y :: q => if f x y = true then tkS f p q else some false := by cases q <;> rfl
theorem tin_round (p q p2 : List (List UInt8)) (m i : Int) : roundK Tryz.prog (look []) (look [(2, tinE)]) 0 (body Tryz.f95 0) tinE ([.sl .str p, .sl .str q, .sl .str p2, .j m, .j i], []) =
 ((ifB (decide (i < m)) (ifT (decide ((0 : Int) ≤ i) && decide (i < (↑p2.length : Int))) (ifSome p2[i.toNat]? fun z => ifB (z == [(35 : UInt8)]) (some (Ex.ret, [V.b true],
 [])) (ifB (i == (↑q.length : Int)) (some (Ex.ret, [V.b false], [])) (ifT (decide ((0 : Int) ≤ i) && decide (i < (↑q.length : Int))) (ifSome q[i.toNat]? fun z_1 => ifB (!z
 == z_1) (ifB (!z == [(43 : UInt8)]) (some (Ex.ret, [V.b false], [])) (ifT (decide ((0 : Int) ≤ i) && decide (i < (↑q.length : Int))) (ifSome q[i.toNat]? fun z => ifB (z
 == [(35 : UInt8)]) (some (Ex.ret, [V.b false], [])) (some (Ex.normal, [V.sl Cd.str p, V.sl Cd.str q, V.sl Cd.str p2, V.j m, V.j (IntKind.i64.wrap (i + (1 :
 Int)))], []))))) (some (Ex.normal, [V.sl Cd.str p, V.sl Cd.str q, V.sl Cd.str p2, V.j m, V.j (IntKind.i64.wrap (i + (1 : Int)))], []))))))) (some (Ex.exit 0,
 [V.sl Cd.str p, V.sl Cd.str q], []))) : _) := by kernel_rfl
theorem tin_loop (p q : List (List UInt8)) (hp : p.length ≤ maxI) (hq : q.length ≤ maxI) : ∀ (j i : Nat), i + j = p.length → i ≤ q.length → ∀ e d', (Br.br (tkS inL (p.drop i) (q.drop i)).isNone (.leaf (.exit 0, ([.sl .str p, .sl .str q], []))) (.leaf (.ret, ([.b ((tkS inL (p.drop i) (q.drop i)).getD false)], []))) : Br (Ex × Dt)).run = some (e, d') → Runs Tryz.prog (look []) (look [(2, tinE)]) 0 (body Tryz.f95 0) tinE ([.sl .str p, .sl .str q, .sl .str p, .j (↑p.length : Int), .j (i : Int)], []) e d'
 | 0, i, hi, hiq, e, d', hx => by
  have hr := tin_round p q p p.length i
  rw [ifB_false (dcF (by omega))] at hr
  rw [List.drop_eq_nil_of_le (by omega)] at hx
  cases hx
  exact .stop _ _ _ hr (by simp)
 | j + 1, i, hi, hiq, e, d', hx => by
  have hil : i < p.length := by omega
  have hr := tin_round p q p p.length i
  rw [ifB_true (dcT (by omega)), ifT_true (by simp only [anE, dcE]; omega)] at hr
  simp only [ntN, gtE hil, ifSome_s, wrap_succ (n := i) (by omega)] at hr
  rw [List.drop_eq_getElem_cons hil, tkS_cons] at hx
  by_cases q1 : p[i] = [35]
  ·rw [if_pos q1] at hx
   cases hx
   rw [ifB_true (by rw [q1]; rfl)] at hr
   exact .stop _ _ _ hr (by simp)
  rw [if_neg q1] at hx
  rw [ifB_false (beq_false_of_ne q1)] at hr
  by_cases q2 : i = q.length
  ·rw [List.drop_eq_nil_of_le (by omega)] at hx
   cases hx
   rw [ifB_true (by rw [q2]; simp)] at hr
   exact .stop _ _ _ hr (by simp)
  have hiq2 : i < q.length := by omega
  rw [ifB_false (beq_false_of_ne (by omega))] at hr
  simp only [gtE hiq2, ifSome_s] at hr
  have hb : (decide (0 ≤ (i : Int)) && decide ((i : Int) < (q.length : Int))) = true := by simp only [anE, dcE]; omega
  simp only [hb, ifT_t] at hr
  rw [List.drop_eq_getElem_cons hiq2] at hx
  have e35 : (p[i] == [35]) = false := beq_false_of_ne q1
  by_cases q3 : inL p[i] q[i] = true
  ·simp only [if_pos q3] at hx
   refine .step _ _ _ _ (hr.trans ?_) (tin_loop p q hp hq j (i + 1) (by omega) (by omega) e d' hx)
   revert q3 e35
   unfold inL
   generalize p[i] = x
   generalize q[i] = y
   intro e35 q3
   by_cases z1 : x = y
   ·subst z1; simp at q3 ⊢
   ·by_cases z2 : x = [43]
    ·subst z2
     by_cases z3 : y = [35]
     ·subst z3; simp_all
     ·simp_all
    ·simp_all
  ·simp only [if_neg q3] at hx
   cases hx
   refine .stop _ _ _ (hr.trans ?_) (by simp)
   revert q3 e35
   unfold inL
   generalize p[i] = x
   generalize q[i] = y
   intro e35 q3
   by_cases z1 : x = y
   ·subst z1; simp at q3 ⊢
   ·by_cases z2 : x = [43]
    ·subst z2
     by_cases z3 : y = [35]
     ·subst z3; simp_all
     ·simp_all
    ·simp_all
theorem tin_ok : LoopsOk Tryz.prog (look []) (look [(2, tinE)]) 0 (Tryz.f95.body.getD .skip) := by
 refine loopsOk_one (a := body Tryz.f95 0) (by kernel_rfl) fun d e d' h => ?_
 unfold tinE at h
 dsimp only at h
 split at h
 ·rename_i p q p2 m i
  obtain ⟨hc, hx⟩ := need_some h
  clear h
  obtain ⟨h0, rfl, rfl, h1, h2, h3, h4⟩ := of_decide_eq_true hc
  obtain ⟨i, rfl⟩ := Int.eq_ofNat_of_zero_le h0
  rw [ntN] at h1 h2 hx
  exact tin_loop p2 q h3 h4 (p2.length - i) i (by omega) h2 e d' hx
 ·cases h
theorem tin_fun (p q : List (List UInt8)) (hp : p.length ≤ maxI) (hq : q.length ≤ maxI) : funK Tryz.prog (look []) (look [(2, tinE)]) Tryz.f95 [.sl .str p, .sl .str q] [] = some (.b (tk inL p q), []) := by
 have e : funK Tryz.prog (look []) (look [(2, tinE)]) Tryz.f95 [.sl .str p, .sl .str q] [] = ((ifT (decide ((0 : Int) ≤ (0 : Int) ∧ p = p ∧ (↑p.length : Int) = (↑p.length : Int) ∧ (0 : Nat) ≤ p.length ∧ (0 : Nat) ≤ q.length ∧ p.length ≤ maxI ∧ q.length ≤ maxI)) (ifB
 (tkS inL (List.drop (0 : Nat) p) (List.drop (0 : Nat) q)).isNone (some (V.b ((↑p.length : Int) == (↑q.length : Int)), [])) (some (V.b ((tkS inL (List.drop (0 : Nat) p)
 (List.drop (0 : Nat) q)).getD false), [])))) : _) := by kernel_rfl
 rw [e]
 clear e
 rw [ifT_true (dcT ⟨by omega, by trivial, by trivial, by omega, by omega, hp, hq⟩)]
 unfold tk
 simp only [List.drop_zero]
 cases tkS inL p q with
 | none =>
  rw [ifB_true (by rfl)]
  by_cases h : p.length = q.length
  ·simp [h]
  ·simp [h] <;> omega
 | some b => rfl
theorem tin : Contract Tryz.prog 95 (Ent.rd1 inG).F := by
 refine fun_contract' KnowsL.nil.knows (Λ := look [(2, tinE)]) Tryz.func95 (c := Tryz.f95.body.getD .skip) (by kernel_rfl) fun vs bs r' hq hv hb => ?_
 unfold Ent.F inG at hq
 dsimp only at hq
 split at hq
 ·rename_i p q
  exact ⟨tin_ok, (tin_fun p q (hv (.sl .str p) (by simp)).1 (hv (.sl .str q) (by simp)).1).trans hq⟩
 ·cases hq
theorem fits_round (p q p2 : List (List UInt8)) (m i : Int) : roundK Tryz.prog (look []) (look [(2, fitsE)]) 0 (body Tryz.f126 0) fitsE ([.sl .str p, .sl .str q, .sl .str p2, .j m, .j i], []) =
 ((ifB (decide (i < m)) (ifT (decide ((0 : Int) ≤ i) && decide (i < (↑p2.length : Int))) (ifSome p2[i.toNat]? fun z => ifB (z == [(35 : UInt8)]) (some (Ex.ret, [V.b true],
 [])) (ifB (i == (↑q.length : Int)) (some (Ex.ret, [V.b false], [])) (ifB (!z == [(43 : UInt8)]) (ifT (decide ((0 : Int) ≤ i) && decide (i < (↑q.length : Int))) (ifSome
 q[i.toNat]? fun z_1 => ifB (!z == z_1) (some (Ex.ret, [V.b false], [])) (some (Ex.normal, [V.sl Cd.str p, V.sl Cd.str q, V.sl Cd.str p2, V.j m, V.i .i64
 (IntKind.i64.wrap (i + (1 : Int)))], [])))) (some (Ex.normal, [V.sl Cd.str p, V.sl Cd.str q, V.sl Cd.str p2, V.j m, V.j (IntKind.i64.wrap (i + (1 : Int)))],
 [])))))) (some (Ex.exit 0, [V.sl Cd.str p, V.sl Cd.str q], []))) : _) := by kernel_rfl
theorem fits_loop (p q : List (List UInt8)) (hp : p.length ≤ maxI) (hq : q.length ≤ maxI) : ∀ (j i : Nat), i + j = p.length → i ≤ q.length → ∀ e d', (Br.br (tkS fitL (p.drop i) (q.drop i)).isNone (.leaf (.exit 0, ([.sl .str p, .sl .str q], []))) (.leaf (.ret, ([.b ((tkS fitL (p.drop i) (q.drop i)).getD false)], []))) : Br (Ex × Dt)).run = some (e, d') → Runs Tryz.prog (look []) (look [(2, fitsE)]) 0 (body Tryz.f126 0) fitsE ([.sl .str p, .sl .str q, .sl .str p, .j (↑p.length : Int), .j (i : Int)], []) e d'
 | 0, i, hi, hiq, e, d', hx => by
  have hr := fits_round p q p p.length i
  rw [ifB_false (dcF (by omega))] at hr
  rw [List.drop_eq_nil_of_le (by omega)] at hx
  cases hx
  exact .stop _ _ _ hr (by simp)
 | j + 1, i, hi, hiq, e, d', hx => by
  have hil : i < p.length := by omega
  have hr := fits_round p q p p.length i
  rw [ifB_true (dcT (by omega)), ifT_true (by simp only [anE, dcE]; omega)] at hr
  simp only [ntN, gtE hil, ifSome_s, wrap_succ (n := i) (by omega)] at hr
  rw [List.drop_eq_getElem_cons hil, tkS_cons] at hx
  by_cases q1 : p[i] = [35]
  ·rw [if_pos q1] at hx
   cases hx
   rw [ifB_true (by rw [q1]; rfl)] at hr
   exact .stop _ _ _ hr (by simp)
  rw [if_neg q1] at hx
  rw [ifB_false (beq_false_of_ne q1)] at hr
  by_cases q2 : i = q.length
  ·rw [List.drop_eq_nil_of_le (by omega)] at hx
   cases hx
   rw [ifB_true (by rw [q2]; simp)] at hr
   exact .stop _ _ _ hr (by simp)
  have hiq2 : i < q.length := by omega
  rw [ifB_false (beq_false_of_ne (by omega))] at hr
  simp only [gtE hiq2, ifSome_s] at hr
  have hb : (decide (0 ≤ (i : Int)) && decide ((i : Int) < (q.length : Int))) = true := by simp only [anE, dcE]; omega
  simp only [hb, ifT_t] at hr
  rw [List.drop_eq_getElem_cons hiq2] at hx
  have e35 : (p[i] == [35]) = false := beq_false_of_ne q1
  by_cases q3 : fitL p[i] q[i] = true
  ·simp only [if_pos q3] at hx
   refine .step _ _ _ _ (hr.trans ?_) (fits_loop p q hp hq j (i + 1) (by omega) (by omega) e d' hx)
   revert q3 e35
   unfold fitL
   generalize p[i] = x
   generalize q[i] = y
   intro e35 q3
   by_cases z2 : x = [43]
   ·subst z2; simp_all
   ·by_cases z1 : x = y
    ·subst z1; simp_all
    ·simp_all
  ·simp only [if_neg q3] at hx
   cases hx
   refine .stop _ _ _ (hr.trans ?_) (by simp)
   revert q3 e35
   unfold fitL
   generalize p[i] = x
   generalize q[i] = y
   intro e35 q3
   by_cases z2 : x = [43]
   ·subst z2; simp_all
   ·by_cases z1 : x = y
    ·subst z1; simp_all
    ·simp_all
theorem fits_ok : LoopsOk Tryz.prog (look []) (look [(2, fitsE)]) 0 (Tryz.f126.body.getD .skip) := by
 refine loopsOk_one (a := body Tryz.f126 0) (by kernel_rfl) fun d e d' h => ?_
 unfold fitsE at h
 dsimp only at h
 split at h
 ·rename_i p q p2 m i
  obtain ⟨hc, hx⟩ := need_some h
  clear h
  obtain ⟨h0, rfl, rfl, h1, h2, h3, h4⟩ := of_decide_eq_true hc
  obtain ⟨i, rfl⟩ := Int.eq_ofNat_of_zero_le h0
  rw [ntN] at h1 h2 hx
  exact fits_loop p2 q h3 h4 (p2.length - i) i (by omega) h2 e d' hx
 ·cases h
theorem fits_fun (p q : List (List UInt8)) (hp : p.length ≤ maxI) (hq : q.length ≤ maxI) : funK Tryz.prog (look []) (look [(2, fitsE)]) Tryz.f126 [.sl .str p, .sl .str q] [] = some (.b (tk fitL p q), []) := by
 have e : funK Tryz.prog (look []) (look [(2, fitsE)]) Tryz.f126 [.sl .str p, .sl .str q] [] = ((ifT (decide ((0 : Int) ≤ (0 : Int) ∧ p = p ∧ (↑p.length : Int) = (↑p.length : Int) ∧ (0 : Nat) ≤ p.length ∧ (0 : Nat) ≤ q.length ∧ p.length ≤ maxI ∧ q.length ≤ maxI)) (ifB
 (tkS fitL (List.drop (0 : Nat) p) (List.drop (0 : Nat) q)).isNone (some (V.b ((↑p.length : Int) == (↑q.length : Int)), [])) (some (V.b ((tkS fitL (List.drop (0 : Nat) p)
 (List.drop (0 : Nat) q)).getD false), [])))) : _) := by kernel_rfl
 rw [e]
 clear e
 rw [ifT_true (dcT ⟨by omega, by trivial, by trivial, by omega, by omega, hp, hq⟩)]
 unfold tk
 simp only [List.drop_zero]
 cases tkS fitL p q with
 | none =>
  rw [ifB_true (by rfl)]
  by_cases h : p.length = q.length
  ·simp [h]
  ·simp [h] <;> omega
 | some b => rfl
theorem fits : Contract Tryz.prog 126 (Ent.rd1 fitG).F := by
 refine fun_contract' KnowsL.nil.knows (Λ := look [(2, fitsE)]) Tryz.func126 (c := Tryz.f126.body.getD .skip) (by kernel_rfl) fun vs bs r' hq hv hb => ?_
 unfold Ent.F fitG at hq
 dsimp only at hq
 split at hq
 ·rename_i p q
  exact ⟨fits_ok, (fits_fun p q (hv (.sl .str p) (by simp)).1 (hv (.sl .str q) (by simp)).1).trans hq⟩
 ·cases hq



def lvOK (s : List UInt8) : Bool := s == [43] || (s == [35] || lev s)
def lvB (l : List (List UInt8)) : Bool := decide (l.length ≤ 6) && (!(l.any fun z => !lvOK z) && !decide ([35] ∈ l.take (l.length - 1)))
def tpB (l : List (List UInt8)) : Bool := lvB l && !(l.any fun z => !lev z)
def lvOKG : List V → List Blk → Br (V × List (Option Blk))
 | [.s s], [] => .need (decide (s.length ≤ maxI)) (.leaf (.b (lvOK s), []))
 | _, _ => .no
def lv1G : List V → List Blk → Br (V × List (Option Blk))
 | [.s s], [] => .need (decide (s.length ≤ maxI)) (.leaf (.b (!lvOK s), []))
 | _, _ => .no
def tp1G : List V → List Blk → Br (V × List (Option Blk))
 | [.s s], [] => .need (decide (s.length ≤ maxI)) (.leaf (.b (!lev s), []))
 | _, _ => .no

theorem lvOKc_fun (s : List UInt8) (hc : s.length ≤ maxI) : funK Tryz.prog (look [(132, .rd1 levG)]) (look []) Tryz.f142 [.s s] [] = (.leaf (.b (lvOK s), []) : Br (V × List (Option Blk))).run := by
 have e : funK Tryz.prog (look [(132, .rd1 levG)]) (look []) Tryz.f142 [.s s] [] = ((ifB (s == [(43 : UInt8)]) (some (V.b true, [])) (ifB (s == [(35 : UInt8)]) (some (V.b true, [])) (ifT (decide (s.length ≤ maxI)) (some (V.b (lev s), []))))) : _) := by kernel_rfl
 rw [e]
 clear e
 rw [ifT_true (dcT hc)]
 unfold lvOK
 cases s == [43] <;> cases s == [35] <;> cases lev s <;> rfl
theorem lvOKc : Contract Tryz.prog 142 (Ent.rd1 lvOKG).F := by
 refine fun_contract' (KnowsL.cons (enters_fn Tryz.func132 (by kernel_rfl) (by kernel_rfl)) plev KnowsL.nil).knows (Λ := look []) Tryz.func142 (c := Tryz.f142.body.getD .skip) (by kernel_rfl) fun vs bs r hq hv hb => ?_
 unfold Ent.F lvOKG at hq
 dsimp only at hq
 split at hq
 ·rename_i s
  obtain ⟨hc, hq⟩ := need_some hq
  exact ⟨loopsOk_nil _, (lvOKc_fun s (of_decide_eq_true hc)).trans hq⟩
 ·cases hq
theorem lv1_fun (s : List UInt8) (hc : s.length ≤ maxI) : funK Tryz.prog (look [(142, .rd1 lvOKG)]) (look []) Tryz.f141 [.s s] [] = (.leaf (.b (!lvOK s), []) : Br (V × List (Option Blk))).run := by
 have e : funK Tryz.prog (look [(142, .rd1 lvOKG)]) (look []) Tryz.f141 [.s s] [] = ((ifT (decide (s.length ≤ maxI)) (some (V.b !lvOK s, []))) : _) := by kernel_rfl
 rw [e]
 clear e
 rw [ifT_true (dcT hc)]
 rfl
theorem lv1 : Contract Tryz.prog 141 (Ent.rd1 lv1G).F := by
 refine fun_contract' (KnowsL.cons (enters_fn Tryz.func142 (by kernel_rfl) (by kernel_rfl)) lvOKc KnowsL.nil).knows (Λ := look []) Tryz.func141 (c := Tryz.f141.body.getD .skip) (by kernel_rfl) fun vs bs r hq hv hb => ?_
 unfold Ent.F lv1G at hq
 dsimp only at hq
 split at hq
 ·rename_i s
  obtain ⟨hc, hq⟩ := need_some hq
  exact ⟨loopsOk_nil _, (lv1_fun s (of_decide_eq_true hc)).trans hq⟩
 ·cases hq
theorem tp1_fun (s : List UInt8) (hc : s.length ≤ maxI) : funK Tryz.prog (look [(132, .rd1 levG)]) (look []) Tryz.f131 [.s s] [] = (.leaf (.b (!lev s), []) : Br (V × List (Option Blk))).run := by
 have e : funK Tryz.prog (look [(132, .rd1 levG)]) (look []) Tryz.f131 [.s s] [] = ((ifT (decide (s.length ≤ maxI)) (some (V.b !lev s, []))) : _) := by kernel_rfl
 rw [e]
 clear e
 rw [ifT_true (dcT hc)]
 rfl
theorem tp1 : Contract Tryz.prog 131 (Ent.rd1 tp1G).F := by
 refine fun_contract' (KnowsL.cons (enters_fn Tryz.func132 (by kernel_rfl) (by kernel_rfl)) plev KnowsL.nil).knows (Λ := look []) Tryz.func131 (c := Tryz.f131.body.getD .skip) (by kernel_rfl) fun vs bs r hq hv hb => ?_
 unfold Ent.F tp1G at hq
 dsimp only at hq
 split at hq
 ·rename_i s
  obtain ⟨hc, hq⟩ := need_some hq
  exact ⟨loopsOk_nil _, (tp1_fun s (of_decide_eq_true hc)).trans hq⟩
 ·cases hq

def idx_lv1V  : List (List UInt8) → Nat → Int
 | [], _ => -1
 | z :: l, n => if (!lvOK z) = true then (n : Int) else idx_lv1V  l (n + 1)
def idx_lv1E : LoopEnt := ⟨19, [0,1,4,7,8], [], [4], fun
 | ([.sl .str l, .fn 141 [] [], .i .i64 r, .i .i64 m, .i .i64 n], []) =>
  .need (decide ((∀ z ∈ l, z.length ≤ 4000000000) ∧ 0 ≤ n ∧ n.toNat ≤ l.length ∧ l.length ≤ maxI ∧ m = l.length)) (.br (decide (idx_lv1V  (l.drop n.toNat) n.toNat < 0)) (.leaf (.exit 0, ([], []))) (.leaf (.ret, ([.i .i64 (idx_lv1V  (l.drop n.toNat) n.toNat)], []))))
 | _ => .no⟩
def idx_lv1G : List V → List Blk → Br (V × List (Option Blk))
 | [.sl .str l, .fn 141 [] []], [] => .need (decide (∀ z ∈ l, z.length ≤ 4000000000)) (.leaf (.i .i64 (idx_lv1V  l 0), []))
 | _, _ => .no
def has_lv1G : List V → List Blk → Br (V × List (Option Blk))
 | [.sl .str l, .fn 141 [] []], [] => .need (decide (∀ z ∈ l, z.length ≤ 4000000000)) (.leaf (.b (l.any (fun z : (List UInt8) => !lvOK z)), []))
 | _, _ => .no
def idx_tp1V  : List (List UInt8) → Nat → Int
 | [], _ => -1
 | z :: l, n => if (!lev z) = true then (n : Int) else idx_tp1V  l (n + 1)
def idx_tp1E : LoopEnt := ⟨19, [0,1,4,7,8], [], [4], fun
 | ([.sl .str l, .fn 131 [] [], .i .i64 r, .i .i64 m, .i .i64 n], []) =>
  .need (decide ((∀ z ∈ l, z.length ≤ 4000000000) ∧ 0 ≤ n ∧ n.toNat ≤ l.length ∧ l.length ≤ maxI ∧ m = l.length)) (.br (decide (idx_tp1V  (l.drop n.toNat) n.toNat < 0)) (.leaf (.exit 0, ([], []))) (.leaf (.ret, ([.i .i64 (idx_tp1V  (l.drop n.toNat) n.toNat)], []))))
 | _ => .no⟩
def idx_tp1G : List V → List Blk → Br (V × List (Option Blk))
 | [.sl .str l, .fn 131 [] []], [] => .need (decide (∀ z ∈ l, z.length ≤ 4000000000)) (.leaf (.i .i64 (idx_tp1V  l 0), []))
 | _, _ => .no
def has_tp1G : List V → List Blk → Br (V × List (Option Blk))
 | [.sl .str l, .fn 131 [] []], [] => .need (decide (∀ z ∈ l, z.length ≤ 4000000000)) (.leaf (.b (l.any (fun z : (List UInt8) => !lev z)), []))
 | _, _ => .no

theorem idx_lv1_round  (l : List (List UInt8)) (r : Int) (n : Nat) : roundK Tryz.prog (look [(141, .rd1 lv1G)]) (look [(2, idx_lv1E)]) 0 (body Tryz.f168 0) idx_lv1E ([.sl .str l, .fn 141 [] [], .j r, .j (↑l.length : Int), .j n], []) =
 ((ifB (decide ((↑n : Int) < (↑l.length : Int))) (ifT (decide ((0 : Int) ≤ (↑n : Int)) && decide ((↑n : Int) < (↑l.length : Int))) (ifSome l[((↑n : Int)).toNat]? fun z => ifT
 (decide (List.length z ≤ maxI)) (ifB (!lvOK z) (some (Ex.ret, [V.j ((↑n : Int))], [])) (some (Ex.normal, [V.sl Cd.str l, V.fn 141 [] [], V.j r,
 V.j (↑l.length : Int), V.j (IntKind.i64.wrap ((↑n : Int) + (1 : Int)))], []))))) (some (Ex.exit 0, [], []))) : _) := by kernel_rfl
theorem idx_lv1_loop {l : List (List UInt8)} {r : Int} (hs : (∀ z ∈ l, z.length ≤ 4000000000)) (hx : l.length ≤ maxI) : ∀ (j n : Nat), n + j = l.length → ∀ e d', (.br (decide (idx_lv1V  (l.drop n) n < 0)) (.leaf (.exit 0, ([], []))) (.leaf (.ret, ([.j (idx_lv1V  (l.drop n) n)], []))) : Br (Ex × Dt)).run = some (e, d') →
  Runs Tryz.prog (look [(141, .rd1 lv1G)]) (look [(2, idx_lv1E)]) 0 (body Tryz.f168 0) idx_lv1E ([.sl .str l, .fn 141 [] [], .j r, .j (↑l.length : Int), .j n], []) e d'
 | 0, n, hn, e, d', h => by
  have e1 : l.drop n = [] := List.drop_eq_nil_of_le (by omega)
  rw [e1, br_run, idx_lv1V, if_pos (by omega)] at h
  cases h
  refine .stop _ _ _ ((idx_lv1_round  l r n).trans ?_) (by simp)
  simp [show ¬ n < l.length by omega]
 | j + 1, n, hn, e, d', h => by
  have h1 : n < l.length := by omega
  have hr := idx_lv1_round  l r n
  simp only [ntN, gtE h1, wrap_succ (n := n) (by omega)] at hr
  rw [ifB_true (by simp [h1]), ifT_true (by simp [h1]), ifSome_s, ifT_true (dcT (by have := hs _ (List.getElem_mem h1); unfold maxI; omega))] at hr
  rw [List.drop_eq_getElem_cons h1, br_run, idx_lv1V] at h
  by_cases he : (!lvOK l[n]) = true
  ·rw [if_pos he, if_neg (by omega)] at h
   cases h
   rw [ifB_true he] at hr
   exact .stop _ _ _ hr (by simp)
  ·rw [if_neg he] at h
   rw [ifB_false (by simpa using he)] at hr
   exact .step _ _ _ _ hr (idx_lv1_loop  hs hx j (n + 1) (by omega) e d' (by rw [br_run]; exact h))
theorem idx_lv1_ok : LoopsOk Tryz.prog (look [(141, .rd1 lv1G)]) (look [(2, idx_lv1E)]) 0 (Tryz.f168.body.getD .skip) := by
 refine loopsOk_one (a := body Tryz.f168 0) (by kernel_rfl) fun d e d' h => ?_
 unfold idx_lv1E at h
 dsimp only at h
 split at h
 ·obtain ⟨hc, h'⟩ := need_some h
  obtain ⟨hs, h0, h1, h2, rfl⟩ := of_decide_eq_true hc
  obtain ⟨n, rfl⟩ := Int.eq_ofNat_of_zero_le h0
  exact idx_lv1_loop  hs h2 _ n (Nat.add_sub_of_le h1) e d' h'
 ·cases h
theorem idx_lv1_V  : ∀ (l : List (List UInt8)) (n : Nat), (0 ≤ idx_lv1V  l n) = (l.any (fun z : (List UInt8) => !lvOK z) = true)
 | [], n => by simp [idx_lv1V]
 | z :: l, n => by
  rw [idx_lv1V, List.any_cons, Bool.or_eq_true]
  by_cases he : (!lvOK z) = true
  ·rw [if_pos he]; simp only [he, true_or]; exact eq_true (by omega)
  ·rw [if_neg he, idx_lv1_V  l (n + 1)]; simp only [he, Bool.false_eq_true, false_or]
theorem idx_lv1_neg  : ∀ (l : List (List UInt8)) (n : Nat), idx_lv1V  l n < 0 → idx_lv1V  l n = -1
 | [], n, _ => rfl
 | z :: l, n, h => by
  rw [idx_lv1V] at h ⊢
  by_cases he : (!lvOK z) = true
  ·rw [if_pos he] at h; omega
  ·rw [if_neg he] at h ⊢; exact idx_lv1_neg  l (n + 1) h
theorem idx_lv1_fun  (l : List (List UInt8)) (hx : l.length ≤ maxI) (hs : (∀ z ∈ l, z.length ≤ 4000000000)) : funK Tryz.prog (look [(141, .rd1 lv1G)]) (look [(2, idx_lv1E)]) Tryz.f168 [.sl .str l, .fn 141 [] []] [] = some (.j (idx_lv1V  l 0), []) := by
 have e : funK Tryz.prog (look [(141, .rd1 lv1G)]) (look [(2, idx_lv1E)]) Tryz.f168 [.sl .str l, .fn 141 [] []] [] =
  ((ifT (decide ((∀ (z : Cd.str.den), z ∈ l → List.length z ≤ (4000000000 : Nat)) ∧ (0 : Int) ≤ (0 : Int) ∧ (0 : Nat) ≤ l.length ∧ l.length ≤ maxI ∧ (↑l.length : Int) =
 (↑l.length : Int))) (ifB (decide (idx_lv1V (List.drop (0 : Nat) l) (0 : Nat) < (0 : Int))) (some (V.j (-1), [])) (some (V.j (idx_lv1V (List.drop (0 : Nat) l) (0
 : Nat)), [])))) : _) := by kernel_rfl
 rw [e, ifT_true (dcT ⟨hs, by omega, by omega, hx, rfl⟩), List.drop_zero]
 by_cases q : idx_lv1V  l 0 < 0
 ·rw [ifB_true (dcT q), idx_lv1_neg  l 0 q]
 ·rw [ifB_false (dcF q)]
theorem lv1_idx : Contract Tryz.prog 168 (Ent.rd1 idx_lv1G).F := by
 refine fun_contract' (KnowsL.cons (enters_fn Tryz.func141 (by kernel_rfl) (by kernel_rfl)) lv1 KnowsL.nil).knows (Λ := (look [(2, idx_lv1E)])) Tryz.func168 (c := Tryz.f168.body.getD .skip) (by kernel_rfl) fun vs bs r h hv hb => ?_
 unfold Ent.F idx_lv1G at h
 dsimp only at h
 split at h
 ·rename_i l 
  obtain ⟨hc, h'⟩ := need_some h
  exact ⟨idx_lv1_ok, (idx_lv1_fun  l (hv (.sl .str l) (by simp)).1 (of_decide_eq_true hc)).trans (by cases h'; rfl)⟩
 ·cases h
theorem has_lv1_fun  (l : List (List UInt8)) (hs : (∀ z ∈ l, z.length ≤ 4000000000)) : funK Tryz.prog (look [(168, .rd1 idx_lv1G)]) (look []) Tryz.f130 [.sl .str l, .fn 141 [] []] [] = some (.b (l.any (fun z : (List UInt8) => !lvOK z)), []) := by
 have e : funK Tryz.prog (look [(168, .rd1 idx_lv1G)]) (look []) Tryz.f130 [.sl .str l, .fn 141 [] []] [] =
  ((ifT (decide (∀ (z : Cd.str.den), z ∈ l → List.length z ≤ (4000000000 : Nat))) (some (V.b (decide (idx_lv1V l (0 : Nat) ≥ (0 : Int))), []))) : _) := by kernel_rfl
 rw [e]
 have hv := idx_lv1_V  l 0
 rw [ifT_true (dcT hs)]
 have hd : decide (idx_lv1V  l 0 ≥ 0) = l.any (fun z : (List UInt8) => !lvOK z) := by
  show decide (0 ≤ idx_lv1V  l 0) = _
  cases hq : l.any (fun z : (List UInt8) => !lvOK z) with
  | true => exact dcT (hv ▸ hq)
  | false => exact dcF (fun h => by rw [hv, hq] at h; cases h)
 rw [hd]
theorem lv1_has : Contract Tryz.prog 130 (Ent.rd1 has_lv1G).F := by
 refine fun_contract' (KnowsL.cons (enters_fn Tryz.func168 (by kernel_rfl) (by kernel_rfl)) lv1_idx KnowsL.nil).knows (Λ := look []) Tryz.func130 (c := Tryz.f130.body.getD .skip) (by kernel_rfl) fun vs bs r h hv hb => ?_
 unfold Ent.F has_lv1G at h
 dsimp only at h
 split at h
 ·rename_i l 
  obtain ⟨hc, h'⟩ := need_some h
  exact ⟨loopsOk_nil _, (has_lv1_fun  l (of_decide_eq_true hc)).trans (by cases h'; rfl)⟩
 ·cases h
theorem idx_tp1_round  (l : List (List UInt8)) (r : Int) (n : Nat) : roundK Tryz.prog (look [(131, .rd1 tp1G)]) (look [(2, idx_tp1E)]) 0 (body Tryz.f168 0) idx_tp1E ([.sl .str l, .fn 131 [] [], .j r, .j (↑l.length : Int), .j n], []) =
 ((ifB (decide ((↑n : Int) < (↑l.length : Int))) (ifT (decide ((0 : Int) ≤ (↑n : Int)) && decide ((↑n : Int) < (↑l.length : Int))) (ifSome l[((↑n : Int)).toNat]? fun z => ifT
 (decide (List.length z ≤ maxI)) (ifB (!lev z) (some (Ex.ret, [V.j ((↑n : Int))], [])) (some (Ex.normal, [V.sl Cd.str l, V.fn 131 [] [], V.j r,
 V.j (↑l.length : Int), V.j (IntKind.i64.wrap ((↑n : Int) + (1 : Int)))], []))))) (some (Ex.exit 0, [], []))) : _) := by kernel_rfl
theorem idx_tp1_loop {l : List (List UInt8)} {r : Int} (hs : (∀ z ∈ l, z.length ≤ 4000000000)) (hx : l.length ≤ maxI) : ∀ (j n : Nat), n + j = l.length → ∀ e d', (.br (decide (idx_tp1V  (l.drop n) n < 0)) (.leaf (.exit 0, ([], []))) (.leaf (.ret, ([.j (idx_tp1V  (l.drop n) n)], []))) : Br (Ex × Dt)).run = some (e, d') →
  Runs Tryz.prog (look [(131, .rd1 tp1G)]) (look [(2, idx_tp1E)]) 0 (body Tryz.f168 0) idx_tp1E ([.sl .str l, .fn 131 [] [], .j r, .j (↑l.length : Int), .j n], []) e d'
 | 0, n, hn, e, d', h => by
  have e1 : l.drop n = [] := List.drop_eq_nil_of_le (by omega)
  rw [e1, br_run, idx_tp1V, if_pos (by omega)] at h
  cases h
  refine .stop _ _ _ ((idx_tp1_round  l r n).trans ?_) (by simp)
  simp [show ¬ n < l.length by omega]
 | j + 1, n, hn, e, d', h => by
  have h1 : n < l.length := by omega
  have hr := idx_tp1_round  l r n
  simp only [ntN, gtE h1, wrap_succ (n := n) (by omega)] at hr
  rw [ifB_true (by simp [h1]), ifT_true (by simp [h1]), ifSome_s, ifT_true (dcT (by have := hs _ (List.getElem_mem h1); unfold maxI; omega))] at hr
  rw [List.drop_eq_getElem_cons h1, br_run, idx_tp1V] at h
  by_cases he : (!lev l[n]) = true
  ·rw [if_pos he, if_neg (by omega)] at h
   cases h
   rw [ifB_true he] at hr
   exact .stop _ _ _ hr (by simp)
  ·rw [if_neg he] at h
   rw [ifB_false (by simpa using he)] at hr
   exact .step _ _ _ _ hr (idx_tp1_loop  hs hx j (n + 1) (by omega) e d' (by rw [br_run]; exact h))
theorem idx_tp1_ok : LoopsOk Tryz.prog (look [(131, .rd1 tp1G)]) (look [(2, idx_tp1E)]) 0 (Tryz.f168.body.getD .skip) := by
 refine loopsOk_one (a := body Tryz.f168 0) (by kernel_rfl) fun d e d' h => ?_
 unfold idx_tp1E at h
 dsimp only at h
 split at h
 ·obtain ⟨hc, h'⟩ := need_some h
  obtain ⟨hs, h0, h1, h2, rfl⟩ := of_decide_eq_true hc
  obtain ⟨n, rfl⟩ := Int.eq_ofNat_of_zero_le h0
  exact idx_tp1_loop  hs h2 _ n (Nat.add_sub_of_le h1) e d' h'
 ·cases h
theorem idx_tp1_V  : ∀ (l : List (List UInt8)) (n : Nat), (0 ≤ idx_tp1V  l n) = (l.any (fun z : (List UInt8) => !lev z) = true)
 | [], n => by simp [idx_tp1V]
 | z :: l, n => by
  rw [idx_tp1V, List.any_cons, Bool.or_eq_true]
  by_cases he : (!lev z) = true
  ·rw [if_pos he]; simp only [he, true_or]; exact eq_true (by omega)
  ·rw [if_neg he, idx_tp1_V  l (n + 1)]; simp only [he, Bool.false_eq_true, false_or]
theorem idx_tp1_neg  : ∀ (l : List (List UInt8)) (n : Nat), idx_tp1V  l n < 0 → idx_tp1V  l n = -1
 | [], n, _ => rfl
 | z :: l, n, h => by
  rw [idx_tp1V] at h ⊢
  by_cases he : (!lev z) = true
  ·rw [if_pos he] at h; omega
  ·rw [if_neg he] at h ⊢; exact idx_tp1_neg  l (n + 1) h
theorem idx_tp1_fun  (l : List (List UInt8)) (hx : l.length ≤ maxI) (hs : (∀ z ∈ l, z.length ≤ 4000000000)) : funK Tryz.prog (look [(131, .rd1 tp1G)]) (look [(2, idx_tp1E)]) Tryz.f168 [.sl .str l, .fn 131 [] []] [] = some (.j (idx_tp1V  l 0), []) := by
 have e : funK Tryz.prog (look [(131, .rd1 tp1G)]) (look [(2, idx_tp1E)]) Tryz.f168 [.sl .str l, .fn 131 [] []] [] =
  ((ifT (decide ((∀ (z : Cd.str.den), z ∈ l → List.length z ≤ (4000000000 : Nat)) ∧ (0 : Int) ≤ (0 : Int) ∧ (0 : Nat) ≤ l.length ∧ l.length ≤ maxI ∧ (↑l.length : Int) =
 (↑l.length : Int))) (ifB (decide (idx_tp1V (List.drop (0 : Nat) l) (0 : Nat) < (0 : Int))) (some (V.j (-1), [])) (some (V.j (idx_tp1V (List.drop (0 : Nat) l) (0
 : Nat)), [])))) : _) := by kernel_rfl
 rw [e, ifT_true (dcT ⟨hs, by omega, by omega, hx, rfl⟩), List.drop_zero]
 by_cases q : idx_tp1V  l 0 < 0
 ·rw [ifB_true (dcT q), idx_tp1_neg  l 0 q]
 ·rw [ifB_false (dcF q)]
theorem tp1_idx : Contract Tryz.prog 168 (Ent.rd1 idx_tp1G).F := by
 refine fun_contract' (KnowsL.cons (enters_fn Tryz.func131 (by kernel_rfl) (by kernel_rfl)) tp1 KnowsL.nil).knows (Λ := (look [(2, idx_tp1E)])) Tryz.func168 (c := Tryz.f168.body.getD .skip) (by kernel_rfl) fun vs bs r h hv hb => ?_
 unfold Ent.F idx_tp1G at h
 dsimp only at h
 split at h
 ·rename_i l 
  obtain ⟨hc, h'⟩ := need_some h
  exact ⟨idx_tp1_ok, (idx_tp1_fun  l (hv (.sl .str l) (by simp)).1 (of_decide_eq_true hc)).trans (by cases h'; rfl)⟩
 ·cases h
theorem has_tp1_fun  (l : List (List UInt8)) (hs : (∀ z ∈ l, z.length ≤ 4000000000)) : funK Tryz.prog (look [(168, .rd1 idx_tp1G)]) (look []) Tryz.f130 [.sl .str l, .fn 131 [] []] [] = some (.b (l.any (fun z : (List UInt8) => !lev z)), []) := by
 have e : funK Tryz.prog (look [(168, .rd1 idx_tp1G)]) (look []) Tryz.f130 [.sl .str l, .fn 131 [] []] [] =
  ((ifT (decide (∀ (z : Cd.str.den), z ∈ l → List.length z ≤ (4000000000 : Nat))) (some (V.b (decide (idx_tp1V l (0 : Nat) ≥ (0 : Int))), []))) : _) := by kernel_rfl
 rw [e]
 have hv := idx_tp1_V  l 0
 rw [ifT_true (dcT hs)]
 have hd : decide (idx_tp1V  l 0 ≥ 0) = l.any (fun z : (List UInt8) => !lev z) := by
  show decide (0 ≤ idx_tp1V  l 0) = _
  cases hq : l.any (fun z : (List UInt8) => !lev z) with
  | true => exact dcT (hv ▸ hq)
  | false => exact dcF (fun h => by rw [hv, hq] at h; cases h)
 rw [hd]
theorem tp1_has : Contract Tryz.prog 130 (Ent.rd1 has_tp1G).F := by
 refine fun_contract' (KnowsL.cons (enters_fn Tryz.func168 (by kernel_rfl) (by kernel_rfl)) tp1_idx KnowsL.nil).knows (Λ := look []) Tryz.func130 (c := Tryz.f130.body.getD .skip) (by kernel_rfl) fun vs bs r h hv hb => ?_
 unfold Ent.F has_tp1G at h
 dsimp only at h
 split at h
 ·rename_i l 
  obtain ⟨hc, h'⟩ := need_some h
  exact ⟨loopsOk_nil _, (has_tp1_fun  l (of_decide_eq_true hc)).trans (by cases h'; rfl)⟩
 ·cases h

def firstStr (x : List UInt8) : Nat → List (List UInt8) → Int
 | _, [] => -1
 | n, z :: l => if x = z then n else firstStr x (n + 1) l
def idxStrE : LoopEnt := ⟨19, [0,1,7,8], [], [4], fun
 | ([.sl .str l, .s x, .i .i64 m, .i .i64 n], []) =>
  .need (decide (0 ≤ n ∧ m = l.length ∧ n.toNat ≤ l.length ∧ l.length ≤ maxI)) (.br (decide (firstStr x n.toNat (l.drop n.toNat) = -1)) (.leaf (.exit 0, ([], []))) (.leaf (.ret, ([.i .i64 (firstStr x n.toNat (l.drop n.toNat))], []))))
 | _ => .no⟩
def idxStrG : List V → List Blk → Br (V × List (Option Blk))
 | [.sl .str l, .s x], [] => .leaf (.i .i64 (firstStr x 0 l), [])
 | _, _ => .no
def contStrG : List V → List Blk → Br (V × List (Option Blk))
 | [.sl .str l, .s x], [] => .leaf (.b (decide (x ∈ l)), [])
 | _, _ => .no

theorem firstStr_ge (x : List UInt8) : ∀ (l : List (List UInt8)) (n : Nat), (firstStr x n l = -1 ∧ x ∉ l) ∨ ((n : Int) ≤ firstStr x n l ∧ x ∈ l)
 | [], n => .inl ⟨rfl, by simp⟩
 | z :: l, n => by
  unfold firstStr
  by_cases h : x = z
  ·rw [if_pos h]; exact .inr ⟨Int.le_refl _, by simp [h]⟩
  ·rw [if_neg h]
   rcases firstStr_ge x l (n + 1) with ⟨h1, h2⟩ | ⟨h1, h2⟩
   ·exact .inl ⟨h1, by simp [h, h2]⟩
   ·exact .inr ⟨by omega, by simp [h2]⟩
theorem idxStr_round (l : List (List UInt8)) (x : List UInt8) (m : Int) (n : Nat) : roundK Tryz.prog (look []) (look [(2, idxStrE)]) 0 (body Tryz.f176 0) idxStrE ([.sl .str l, .s x, .j m, .j n], []) =
 ((ifB (decide ((↑n : Int) < m)) (ifT (decide ((0 : Int) ≤ (↑n : Int)) && decide ((↑n : Int) < (↑l.length : Int))) (ifSome l[((↑n : Int)).toNat]? fun z => ifB (x == z) (some
 (Ex.ret, [V.j ((↑n : Int))], [])) (some (Ex.normal, [V.sl Cd.str l, V.s x, V.j m, V.j (IntKind.i64.wrap ((↑n : Int) + (1 : Int)))], [])))) (some (Ex.exit
 0, [], []))) : _) := by kernel_rfl
theorem idxStr_loop {l : List (List UInt8)} {x : List UInt8} (hm : l.length ≤ maxI) : ∀ (k n : Nat), n + k = l.length →
  Runs Tryz.prog (look []) (look [(2, idxStrE)]) 0 (body Tryz.f176 0) idxStrE ([.sl .str l, .s x, .j (↑l.length : Int), .j n], []) (if firstStr x n (l.drop n) = -1 then .exit 0 else .ret) (if firstStr x n (l.drop n) = -1 then [] else [.j (firstStr x n (l.drop n))], [])
 | 0, n, hn => by
  have e1 : l.drop n = [] := List.drop_eq_nil_of_le (by omega)
  have hr := idxStr_round l x l.length n
  rw [ifB_false (dcF (show ¬ (n : Int) < (l.length : Int) by omega))] at hr
  rw [e1]
  exact .stop _ _ _ hr (by simp [firstStr])
 | k + 1, n, hn => by
  have h1 : n < l.length := by omega
  have hr := idxStr_round l x l.length n
  rw [ifB_true (dcT (show (n : Int) < (l.length : Int) by omega)), ifT_true (by simp only [anE, dcE]; omega)] at hr
  simp only [ntN, gtE h1, ifSome_s, wrap_succ (n := n) (by omega)] at hr
  rw [List.drop_eq_getElem_cons h1]
  unfold firstStr
  by_cases he : x = l[n]
  ·rw [ifB_true (by simpa using he)] at hr
   rw [if_pos he, if_neg (by omega), if_neg (by omega)]
   exact .stop _ _ _ hr (by simp)
  ·rw [ifB_false (by simpa using he)] at hr
   rw [if_neg he]
   exact .step _ _ _ _ hr (idxStr_loop hm k (n + 1) (by omega))
theorem idxStr_ok : LoopsOk Tryz.prog (look []) (look [(2, idxStrE)]) 0 (Tryz.f176.body.getD .skip) := by
 refine loopsOk_one (a := body Tryz.f176 0) (by kernel_rfl) fun d e d' h => ?_
 unfold idxStrE at h
 dsimp only at h
 split at h
 ·rename_i l x m n
  obtain ⟨hc, hx⟩ := need_some h
  clear h
  obtain ⟨h0, h1, h2, h3⟩ := of_decide_eq_true hc
  obtain ⟨n, rfl⟩ := Int.eq_ofNat_of_zero_le h0
  subst h1
  rw [ntN] at h2 hx
  have := idxStr_loop (x := x) h3 _ n (Nat.add_sub_of_le h2)
  rcases br_some hx with ⟨h4, h⟩ | ⟨h4, h⟩
  ·have h4 := of_decide_eq_true h4
   rw [if_pos h4, if_pos h4] at this; cases h; exact this
  ·have h4 := of_decide_eq_false h4
   rw [if_neg h4, if_neg h4] at this; cases h; exact this
 ·cases h
theorem idxStr_fun (l : List (List UInt8)) (x : List UInt8) (hm : l.length ≤ maxI) : funK Tryz.prog (look []) (look [(2, idxStrE)]) Tryz.f176 [.sl .str l, .s x] [] = some (.j (firstStr x 0 l), []) := by
 have e : funK Tryz.prog (look []) (look [(2, idxStrE)]) Tryz.f176 [.sl .str l, .s x] [] =
  ((ifT (decide ((0 : Int) ≤ (0 : Int) ∧ (↑l.length : Int) = (↑l.length : Int) ∧ (0 : Nat) ≤ l.length ∧ l.length ≤ maxI)) (ifB (decide (firstStr x (0 : Nat) (List.drop (0 :
 Nat) l) = (-1 : Int))) (some (V.j (-1), [])) (some (V.j (firstStr x (0 : Nat) (List.drop (0 : Nat) l)), [])))) : _) := by kernel_rfl
 rw [e]
 clear e
 rw [ifT_true (dcT ⟨by omega, rfl, Nat.zero_le _, hm⟩)]
 simp only [List.drop_zero]
 by_cases h : firstStr x 0 l = -1
 ·rw [ifB_true (dcT h), h]
 ·rw [ifB_false (dcF h)]
theorem idxStr : Contract Tryz.prog 176 (Ent.rd1 idxStrG).F := by
 refine fun_contract' KnowsL.nil.knows (Λ := (look [(2, idxStrE)])) Tryz.func176 (c := Tryz.f176.body.getD .skip) (by kernel_rfl) fun vs bs r h hv hb => ?_
 unfold Ent.F idxStrG at h
 dsimp only at h
 split at h
 ·rename_i l x
  exact ⟨idxStr_ok, (idxStr_fun l x (hv (.sl .str l) (by simp)).1).trans (by cases h; rfl)⟩
 ·cases h
theorem contStr_fun (l : List (List UInt8)) (x : List UInt8) : funK Tryz.prog (look [(176, .rd1 idxStrG)]) (look []) Tryz.f143 [.sl .str l, .s x] [] = some (.b (decide (x ∈ l)), []) := by
 have e : funK Tryz.prog (look [(176, .rd1 idxStrG)]) (look []) Tryz.f143 [.sl .str l, .s x] [] =
  ((some (V.b (decide (firstStr x (0 : Nat) l ≥ (0 : Int))), [])) : _) := by kernel_rfl
 rw [e]
 rcases firstStr_ge x l 0 with ⟨h1, h2⟩ | ⟨h1, h2⟩
 ·rw [dcF h2, dcF (by omega)]
 ·rw [dcT h2, dcT (by omega)]
theorem contStr : Contract Tryz.prog 143 (Ent.rd1 contStrG).F := by
 refine fun_contract' (KnowsL.cons (enters_fn Tryz.func176 (by kernel_rfl) (by kernel_rfl)) idxStr KnowsL.nil).knows (Λ := look []) Tryz.func143 (c := Tryz.f143.body.getD .skip) (by kernel_rfl) fun vs bs r h hv hb => ?_
 unfold Ent.F contStrG at h
 dsimp only at h
 split at h
 ·rename_i l x
  exact ⟨loopsOk_nil _, (contStr_fun l x).trans h⟩
 ·cases h

def levelsG : List V → List Blk → Br (V × List (Option Blk))
 | [.s s], [] => .need (decide (s.length ≤ 4000000000)) (.br (lvB (cut 47 s)) (.leaf (.ref 0 0 (cut 47 s).length, [some (.row false none .str (cut 47 s))])) (.leaf (.ref 0 0 0, [some (.row false (some true) .str [])])))
 | _, _ => .no
def gtopG : List V → List Blk → Br (V × List (Option Blk))
 | [.s s], [] => .need (decide (s.length ≤ 4000000000)) (.leaf (.b (tpB (cut 47 s)), []))
 | _, _ => .no
def gpatG : List V → List Blk → Br (V × List (Option Blk))
 | [.s s], [] => .need (decide (s.length ≤ 4000000000)) (.leaf (.b (lvB (cut 47 s)), []))
 | _, _ => .no

theorem cut_small (c : UInt8) : ∀ (s : List UInt8), ∀ z ∈ cut c s, z.length ≤ s.length
 | [], z, h => by simp [cut] at h; simp [h]
 | b :: l, z, h => by
  have ih := cut_small c l
  rw [cut] at h
  split at h
  ·rcases List.mem_cons.1 h with rfl | h
   ·simp
   ·have := ih z h; simp; omega
  ·split at h
   ·cases h
   ·rename_i x t hh
    rw [hh] at ih
    rcases List.mem_cons.1 h with rfl | h
    ·have := ih x (by simp); simp; omega
    ·have := ih z (by simp [h]); simp; omega
theorem cut_facts {s : List UInt8} (hc : s.length ≤ 4000000000) : (∀ z ∈ cut 47 s, z.length ≤ 4000000000) ∧ 0 < (cut 47 s).length ∧ (cut 47 s).length ≤ 4000000001 := by
 have h1 := cut_len 47 s
 have h2 := List.count_le_length (a := 47) (l := s)
 exact ⟨fun z hz => Nat.le_trans (cut_small 47 s z hz) hc, by omega, by omega⟩
theorem levels_fun (s : List UInt8) (hc : s.length ≤ 4000000000) : funK Tryz.prog (look [(140, .rd1 splitG), (130, .rd1 has_lv1G), (143, .rd1 contStrG)]) (look []) Tryz.f96 [.s s] [] = (.br (lvB (cut 47 s)) (.leaf (.ref 0 0 (cut 47 s).length, [some (.row false none .str (cut 47 s))])) (.leaf (.ref 0 0 0, [some (.row false (some true) .str [])])) : Br (V × List (Option Blk))).run := by
 have e : funK Tryz.prog (look [(140, .rd1 splitG), (130, .rd1 has_lv1G), (143, .rd1 contStrG)]) (look []) Tryz.f96 [.s s] [] = ((ifT (decide (s.length ≤ (4000000000 : Nat))) (ifB (decide ((↑(cut (47 : UInt8) s).length : Int) > (6 : Int))) (some (V.ref 0 0 0, [some (Blk.row false (some true) Cd.str
 (nilT Cd.str.den))])) (ifT (decide (∀ (z : Cd.str.den), z ∈ List.take (cut (47 : UInt8) s).length (List.drop (0 : Nat) (cut (47 : UInt8) s)) → List.length z ≤ (4000000000
 : Nat))) (ifB ((List.take (cut (47 : UInt8) s).length (List.drop (0 : Nat) (cut (47 : UInt8) s))).any fun z => !lvOK z) (some (V.ref 0 0 0, [some (Blk.row false (some
 true) Cd.str (nilT Cd.str.den))])) (ifT (decide ((0 : Int) ≤ IntKind.i64.wrap ((↑(cut (47 : UInt8) s).length : Int) - (1 : Int))) && decide (IntKind.i64.wrap ((↑(cut (47
 : UInt8) s).length : Int) - (1 : Int)) ≤ (↑((cut (47 : UInt8) s).length - (0 : Nat)) : Int))) (ifB (decide ([(35 : UInt8)] ∈ List.take ((IntKind.i64.wrap ((↑(cut (47 :
 UInt8) s).length : Int) - (1 : Int))).toNat - (0 : Nat)) (List.drop (0 : Nat) (cut (47 : UInt8) s)))) (some (V.ref 0 0 0, [some (Blk.row false (some true) Cd.str (nilT
 Cd.str.den))])) (some (V.ref 0 0 (cut (47 : UInt8) s).length, [some (Blk.row false none Cd.str (cut (47 : UInt8) s))])))))))) : _) := by kernel_rfl
 rw [e]
 clear e
 obtain ⟨hz, hpos, hle⟩ := cut_facts hc
 rw [ifT_true (dcT hc)]
 simp only [List.drop_zero, List.take_length, Nat.sub_zero, nilT_eq]
 generalize cut 47 s = l at *
 have w : IntKind.i64.wrap ((l.length : Int) - 1) = ((l.length - 1 : Nat) : Int) := by rw [wrap_id (by omega) (by omega)]; omega
 have hzz : decide (∀ z : Cd.str.den, z ∈ l → List.length z ≤ 4000000000) = true := dcT hz
 simp only [w, hzz, ifT_t, ntN]
 rw [ifT_true (by simp only [anE, dcE]; omega)]
 unfold lvB
 by_cases q1 : l.length ≤ 6
 ·rw [ifB_false (dcF (by omega)), dcT q1]
  cases (l.any fun z => !lvOK z) <;> cases decide ([35] ∈ l.take (l.length - 1)) <;> rfl
 ·rw [ifB_true (dcT (by omega)), dcF q1]
  rfl
theorem levels : Contract Tryz.prog 96 (Ent.rd1 levelsG).F := by
 refine fun_contract' (KnowsL.cons (enters_fn Tryz.func140 (by kernel_rfl) (by kernel_rfl)) splitC (KnowsL.cons (enters_fn Tryz.func130 (by kernel_rfl) (by kernel_rfl)) lv1_has (KnowsL.cons (enters_fn Tryz.func143 (by kernel_rfl) (by kernel_rfl)) contStr KnowsL.nil))).knows (Λ := look []) Tryz.func96 (c := Tryz.f96.body.getD .skip) (by kernel_rfl) fun vs bs r hq hv hb => ?_
 unfold Ent.F levelsG at hq
 dsimp only at hq
 split at hq
 ·rename_i s
  obtain ⟨hc, hq⟩ := need_some hq
  exact ⟨loopsOk_nil _, (levels_fun s (of_decide_eq_true hc)).trans hq⟩
 ·cases hq
theorem igpat_fun (s : List UInt8) (hc : s.length ≤ 4000000000) : funK Tryz.prog (look [(96, .rd1 levelsG)]) (look []) Tryz.f93 [.s s] [] = (.leaf (.b (lvB (cut 47 s)), []) : Br (V × List (Option Blk))).run := by
 have e : funK Tryz.prog (look [(96, .rd1 levelsG)]) (look []) Tryz.f93 [.s s] [] = ((ifT (decide (s.length ≤ (4000000000 : Nat))) (ifB (lvB (cut (47 : UInt8) s)) (ifB (decide ((0 : Nat) < (cut (47 : UInt8) s).length)) (some (V.b true, [])) (some (V.ub,
 []))) (some (V.b false, [])))) : _) := by kernel_rfl
 rw [e]
 clear e
 obtain ⟨hz, hpos, hle⟩ := cut_facts hc
 rw [ifT_true (dcT hc), dcT hpos, ifB_t]
 cases lvB (cut 47 s) <;> rfl
theorem igpat : Contract Tryz.prog 93 (Ent.rd1 gpatG).F := by
 refine fun_contract' (KnowsL.cons (enters_fn Tryz.func96 (by kernel_rfl) (by kernel_rfl)) levels KnowsL.nil).knows (Λ := look []) Tryz.func93 (c := Tryz.f93.body.getD .skip) (by kernel_rfl) fun vs bs r hq hv hb => ?_
 unfold Ent.F gpatG at hq
 dsimp only at hq
 split at hq
 ·rename_i s
  obtain ⟨hc, hq⟩ := need_some hq
  exact ⟨loopsOk_nil _, (igpat_fun s (of_decide_eq_true hc)).trans hq⟩
 ·cases hq
theorem igtop_fun (s : List UInt8) (hc : s.length ≤ 4000000000) : funK Tryz.prog (look [(96, .rd1 levelsG), (130, .rd1 has_tp1G)]) (look []) Tryz.f86 [.s s] [] = (.leaf (.b (tpB (cut 47 s)), []) : Br (V × List (Option Blk))).run := by
 have e : funK Tryz.prog (look [(96, .rd1 levelsG), (130, .rd1 has_tp1G)]) (look []) Tryz.f86 [.s s] [] = ((ifT (decide (s.length ≤ (4000000000 : Nat))) (ifB (lvB (cut (47 : UInt8) s)) (ifB (decide ((0 : Nat) < (cut (47 : UInt8) s).length)) (ifT (decide (∀ (z : Cd.str.den), z ∈
 List.take (cut (47 : UInt8) s).length (List.drop (0 : Nat) (cut (47 : UInt8) s)) → List.length z ≤ (4000000000 : Nat))) (some (V.b !(List.take (cut (47 : UInt8) s).length
 (List.drop (0 : Nat) (cut (47 : UInt8) s))).any fun z => !lev z, []))) none) (some (V.b false, [])))) : _) := by kernel_rfl
 rw [e]
 clear e
 obtain ⟨hz, hpos, hle⟩ := cut_facts hc
 rw [ifT_true (dcT hc), dcT hpos, ifB_t]
 simp only [List.drop_zero, List.take_length]
 rw [ifT_true (dcT hz)]
 unfold tpB
 cases lvB (cut 47 s) <;> rfl
theorem igtop : Contract Tryz.prog 86 (Ent.rd1 gtopG).F := by
 refine fun_contract' (KnowsL.cons (enters_fn Tryz.func96 (by kernel_rfl) (by kernel_rfl)) levels (KnowsL.cons (enters_fn Tryz.func130 (by kernel_rfl) (by kernel_rfl)) tp1_has KnowsL.nil)).knows (Λ := look []) Tryz.func86 (c := Tryz.f86.body.getD .skip) (by kernel_rfl) fun vs bs r hq hv hb => ?_
 unfold Ent.F gtopG at hq
 dsimp only at hq
 split at hq
 ·rename_i s
  obtain ⟨hc, hq⟩ := need_some hq
  exact ⟨loopsOk_nil _, (igtop_fun s (of_decide_eq_true hc)).trans hq⟩
 ·cases hq

def cutL (c : UInt8) (s : List UInt8) : List UInt8 → Nat → Nat → List (List UInt8) → List (List UInt8) × Nat
 | [], _, fr, r => (r, fr)
 | b :: l, i, fr, r => if b = c then cutL c s l (i + 1) (i + 1) (r ++ [(s.drop fr).take (i - fr)]) else cutL c s l (i + 1) fr r
def glue (x : List UInt8) : List (List UInt8) → List (List UInt8)
 | [] => []
 | h :: t => (x ++ h) :: t
def lsplG : List V → List Blk → Br (V × List (Option Blk))
 | [.s s, .i .u8 b], [] => .need (decide (b = 47 ∧ s.length ≤ 4000000000)) (.leaf (.ref 0 0 (cut 47 s).length, [some (.row false none .str (cut 47 s))]))
 | _, _ => .no
def lspE : LoopEnt := ⟨34, [0,1,5,6,7], [0,5,6], [], fun
 | ([.s s, .i .u8 b, .ref 0 0 k, .i .i64 fr, .i .i64 i], [some (.row false none .str r)]) => .need (decide (b = 47 ∧ k = r.length ∧ (0 ≤ fr ∧ fr ≤ i) ∧ i.toNat ≤ s.length ∧ s.length ≤ 4000000000 ∧ (r.length : Int) ≤ i)) (.leaf (.exit 0, ([.s s, .ref 0 0 (cutL 47 s (s.drop i.toNat) i.toNat fr.toNat r).1.length, .i .i64 ((cutL 47 s (s.drop i.toNat) i.toNat fr.toNat r).2 : Int)], [some (.row false none .str (cutL 47 s (s.drop i.toNat) i.toNat fr.toNat r).1)])))
 | _ => .no⟩

theorem cutL_facts (c : UInt8) (s : List UInt8) : ∀ (l : List UInt8) (i fr : Nat) (r : List (List UInt8)), s.drop i = l → fr ≤ i → i ≤ s.length → (cutL c s l i fr r).1 ++ [s.drop (cutL c s l i fr r).2] = r ++ glue ((s.drop fr).take (i - fr)) (cut c l) ∧ (cutL c s l i fr r).2 ≤ s.length
 | [], i, fr, r, h, h1, h2 => by
  have hi : i = s.length := by have := congrArg List.length h; simp at this; omega
  simp only [cutL, cut, glue, List.append_nil]
  rw [List.take_of_length_le (by rw [List.length_drop]; omega)]
  exact ⟨rfl, by omega⟩
 | b :: l, i, fr, r, h, h1, h2 => by
  have hlt : i < s.length := by have := congrArg List.length h; simp at this; omega
  have hd : s.drop (i + 1) = l := by rw [← List.drop_drop, h]; rfl
  have hb : s[i] = b := by have := List.drop_eq_getElem_cons hlt; rw [h] at this; exact (List.cons.inj this).1.symm
  rw [cutL, cut]
  by_cases hc : b = c
  ·rw [if_pos hc, if_pos hc]
   obtain ⟨e1, e2⟩ := cutL_facts c s l (i + 1) (i + 1) (r ++ [(s.drop fr).take (i - fr)]) hd (Nat.le_refl _) (by omega)
   refine ⟨?_, e2⟩
   rw [e1, Nat.sub_self, List.take_zero]
   have hg : glue [] (cut c l) = cut c l := by cases cut c l <;> rfl
   rw [hg]
   simp [glue]
  ·rw [if_neg hc, if_neg hc]
   obtain ⟨e1, e2⟩ := cutL_facts c s l (i + 1) fr r hd (by omega) (by omega)
   refine ⟨?_, e2⟩
   rw [e1]
   congr 1
   have hne := cut_ne c l
   have ht : (s.drop fr).take (i + 1 - fr) = (s.drop fr).take (i - fr) ++ [b] := by
    have hk : i - fr < (s.drop fr).length := by rw [List.length_drop]; omega
    rw [show i + 1 - fr = (i - fr) + 1 by omega, List.take_succ_eq_append_getElem hk, List.getElem_drop]
    congr 2
    rw [← hb]
    congr 1; omega
   rw [ht]
   cases hl : cut c l with
   | nil => exact absurd hl hne
   | cons x t => simp [glue]
theorem lsp_round (s : List UInt8) (b : Int) (k : Nat) (fr i : Int) (r : List (List UInt8)) : roundK Tryz.prog (look []) (look [(4, lspE)]) 0 (body Tryz.f120 0) lspE ([.s s, .i .u8 b, .ref 0 0 k, .j fr, .j i], [some (.row false none .str r)]) =
 ((ifB (decide (i < (↑s.length : Int))) (ifT (decide ((0 : Int) ≤ i)) (ifSome s[i.toNat]? fun z => ifB ((↑z.toNat : Int) == b) (ifT (decide ((0 : Int) ≤ fr) && decide (fr ≤
 i) && decide (i ≤ (↑s.length : Int))) (ifT (decide ((k + (1 : Nat)) * (16 : Nat) ≤ (140737488355328 : Nat)) && decide (k + (1 : Nat) ≤ maxI)) (some (Ex.normal, [V.s s,
 V.i .u8 b, V.ref 0 0 (k + (1 : Nat)), V.j (IntKind.i64.wrap (i + (1 : Int))), V.j (IntKind.i64.wrap (i + (1 : Int)))], [some (Blk.row false none Cd.str
 (List.take k (List.drop (0 : Nat) r) ++ List.take (i.toNat - fr.toNat) (List.drop fr.toNat s) :: nilT Cd.str.den))])))) (some (Ex.normal, [V.s s, V.i .u8 b, V.ref 0 0 k,
 V.j fr, V.j (IntKind.i64.wrap (i + (1 : Int)))], [some (Blk.row false none Cd.str r)])))) (some (Ex.exit 0, [V.s s, V.ref 0 0 k, V.j fr], [some (Blk.row
 false none Cd.str r)]))) : _) := by kernel_rfl
theorem lsp_loop (s : List UInt8) (hs : s.length ≤ 4000000000) : ∀ (j i fr : Nat) (r : List (List UInt8)), i + j = s.length → fr ≤ i → r.length ≤ i →
  Runs Tryz.prog (look []) (look [(4, lspE)]) 0 (body Tryz.f120 0) lspE ([.s s, .i .u8 47, .ref 0 0 r.length, .j (fr : Int), .j (i : Int)], [some (.row false none .str r)]) (.exit 0) ([.s s, .ref 0 0 (cutL 47 s (s.drop i) i fr r).1.length, .j ((cutL 47 s (s.drop i) i fr r).2 : Int)], [some (.row false none .str (cutL 47 s (s.drop i) i fr r).1)])
 | 0, i, fr, r, hi, h1, h2 => by
  have hr := lsp_round s 47 r.length fr i r
  rw [ifB_false (dcF (by omega))] at hr
  rw [List.drop_eq_nil_of_le (by omega), cutL]
  exact .stop _ _ _ hr (by simp)
 | j + 1, i, fr, r, hi, h1, h2 => by
  have hM : maxI = 9223372036854775807 := rfl
  have hil : i < s.length := by omega
  have hr := lsp_round s 47 r.length fr i r
  rw [ifB_true (dcT (by omega)), ifT_true (by simp only [dcE]; omega)] at hr
  simp only [ntN, gtE hil, ifSome_s, wrap_succ (n := i) (by omega), List.drop_zero, List.take_length, nilT_eq, Nat.zero_add] at hr
  rw [List.drop_eq_getElem_cons hil, cutL]
  by_cases hc : s[i] = 47
  ·rw [if_pos hc]
   rw [ifB_true (by rw [hc]; rfl), ifT_true (by simp only [anE, dcE]; omega), ifT_true (by simp only [anE, dcE]; omega)] at hr
   have ih := lsp_loop s hs j (i + 1) (i + 1) (r ++ [(s.drop fr).take (i - fr)]) (by omega) (Nat.le_refl _) (by simp; omega)
   exact .step _ _ _ _ (hr.trans (by simp)) ih
  ·rw [if_neg hc]
   have hb47 : ¬ (s[i].toNat = 47) := fun h => hc (UInt8.toNat_inj.1 (by rw [h]; rfl))
   rw [ifB_false (beq_false_of_ne (by omega))] at hr
   exact .step _ _ _ _ hr (lsp_loop s hs j (i + 1) fr r (by omega) (by omega) (by omega))
theorem lsp_ok : LoopsOk Tryz.prog (look []) (look [(4, lspE)]) 0 (Tryz.f120.body.getD .skip) := by
 refine loopsOk_one (a := body Tryz.f120 0) (by kernel_rfl) fun x e y h => ?_
 unfold lspE at h
 dsimp only at h
 split at h
 ·rename_i s b k fr i r
  obtain ⟨hc, hx⟩ := need_some h
  clear h
  obtain ⟨rfl, rfl, ⟨h0, h1⟩, h2, h3, h4⟩ := of_decide_eq_true hc
  obtain ⟨fr, rfl⟩ := Int.eq_ofNat_of_zero_le h0
  obtain ⟨i, rfl⟩ := Int.eq_ofNat_of_zero_le (by omega : 0 ≤ i)
  rw [ntN] at h2 hx
  rw [ntN] at hx
  have h6 := leaf_some hx
  obtain ⟨rfl, rfl⟩ := Prod.mk.inj h6
  exact lsp_loop s h3 (s.length - i) i fr r (by omega) (by omega) (by omega)
 ·cases h
theorem lspl_fun (s : List UInt8) (b : Int) (hc : b = 47 ∧ s.length ≤ 4000000000) : funN Tryz.prog (look []) (look [(4, lspE)]) Tryz.f120 [.s s, .i .u8 b] [] = some (.ref 0 0 (cut 47 s).length, [some (.row false none .str (cut 47 s))]) := by
 have e : funN Tryz.prog (look []) (look [(4, lspE)]) Tryz.f120 [.s s, .i .u8 b] [] = ((ifT (decide (b = (47 : Int) ∧ (0 : Nat) = (0 : Nat) ∧ ((0 : Int) ≤ (0 : Int) ∧ (0 : Int) ≤ (0 : Int)) ∧ (0 : Nat) ≤ s.length ∧ s.length ≤ (4000000000 : Nat) ∧ (↑(0 : Nat)
 : Int) ≤ (0 : Int))) (ifT (decide ((0 : Int) ≤ (↑(cutL (47 : UInt8) s (List.drop (0 : Nat) s) (0 : Nat) (0 : Nat) (nilT Cd.str.den)).snd : Int)) && decide ((↑(cutL (47 :
 UInt8) s (List.drop (0 : Nat) s) (0 : Nat) (0 : Nat) (nilT Cd.str.den)).snd : Int) ≤ (↑s.length : Int))) (ifT (decide (((cutL (47 : UInt8) s (List.drop (0 : Nat) s) (0 :
 Nat) (0 : Nat) (nilT Cd.str.den)).fst.length + (1 : Nat)) * (16 : Nat) ≤ (140737488355328 : Nat)) && decide ((cutL (47 : UInt8) s (List.drop (0 : Nat) s) (0 : Nat) (0 :
 Nat) (nilT Cd.str.den)).fst.length + (1 : Nat) ≤ maxI)) (some (V.ref 0 0 ((cutL (47 : UInt8) s (List.drop (0 : Nat) s) (0 : Nat) (0 : Nat) (nilT Cd.str.den)).fst.length +
 (1 : Nat)), [some (Blk.row false none Cd.str (List.take (cutL (47 : UInt8) s (List.drop (0 : Nat) s) (0 : Nat) (0 : Nat) (nilT Cd.str.den)).fst.length (List.drop (0 :
 Nat) (cutL (47 : UInt8) s (List.drop (0 : Nat) s) (0 : Nat) (0 : Nat) (nilT Cd.str.den)).fst) ++ List.take (s.length - (↑(cutL (47 : UInt8) s (List.drop (0 : Nat) s) (0 :
 Nat) (0 : Nat) (nilT Cd.str.den)).snd : Int).toNat) (List.drop (↑(cutL (47 : UInt8) s (List.drop (0 : Nat) s) (0 : Nat) (0 : Nat) (nilT Cd.str.den)).snd : Int).toNat s)
 :: nilT Cd.str.den))]))))) : _) := by kernel_rfl
 rw [e]
 clear e
 obtain ⟨rfl, hs⟩ := hc
 have hM : maxI = 9223372036854775807 := rfl
 rw [ifT_true (dcT ⟨by trivial, by rfl, ⟨by omega, by omega⟩, by omega, hs, by simp⟩)]
 obtain ⟨e1, e2⟩ := cutL_facts 47 s s 0 0 [] rfl (Nat.le_refl _) (Nat.zero_le _)
 have hg : glue ((s.drop 0).take (0 - 0)) (cut 47 s) = cut 47 s := by cases cut 47 s <;> rfl
 rw [hg, List.nil_append] at e1
 have e4 := cut_len 47 s
 have e5 := List.count_le_length (a := 47) (l := s)
 simp only [List.drop_zero, Int.toNat_zero, nilT_eq, ntN, List.take_length, Nat.zero_add, Nat.sub_zero] at *
 generalize cutL 47 s s 0 0 [] = y at *
 have e3 : y.1.length + 1 = (cut 47 s).length := by rw [← e1]; simp
 have e6 : List.take (s.length - y.2) (List.drop y.2 s) = List.drop y.2 s := List.take_of_length_le (by simp)
 rw [ifT_true (by simp only [anE, dcE]; omega), ifT_true (by simp only [anE, dcE]; omega)]
 simp only [e6, e1, e3]
theorem lspl : Contract Tryz.prog 120 (Ent.rd1 lsplG).F := by
 refine fun_contractN' KnowsL.nil.knows (Λ := look [(4, lspE)]) Tryz.func120 (c := Tryz.f120.body.getD .skip) (by kernel_rfl) fun vs bs r hq hv hb => ?_
 unfold Ent.F lsplG at hq
 dsimp only at hq
 split at hq
 ·rename_i s b
  obtain ⟨hc, hq⟩ := need_some hq
  exact ⟨lsp_ok, (lspl_fun s b (of_decide_eq_true hc)).trans hq⟩
 ·cases hq

def pt : List (List UInt8) → Bool
 | [] => true
 | x :: l => (lev x || (x == [43] || (x == [35] && l.isEmpty))) && pt l
def sgtopE : LoopEnt := ⟨21, [3,8,9,10], [3], [2], fun
 | ([.ref 0 0 k, .ref 0 0 k2, .i .i64 m, .i .i64 i], [some (.row false none .str l)]) => .need (decide (0 ≤ i ∧ k = l.length ∧ k2 = l.length ∧ m = l.length ∧ i.toNat ≤ l.length ∧ l.length ≤ 5000000000 ∧ ∀ z ∈ l, z.length ≤ 4000000000)) (.br ((l.drop i.toNat).all lev) (.leaf (.exit 0, ([.ref 0 0 l.length], [some (.row false none .str l)]))) (.leaf (.ret, ([.b false], []))))
 | _ => .no⟩
def sgpatE : LoopEnt := ⟨37, [3,8,9,10], [3], [2], fun
 | ([.ref 0 0 k, .ref 0 0 k2, .i .i64 m, .i .i64 i], [some (.row false none .str l)]) => .need (decide (0 ≤ i ∧ k = l.length ∧ k2 = l.length ∧ m = l.length ∧ i.toNat ≤ l.length ∧ l.length ≤ 5000000000 ∧ ∀ z ∈ l, z.length ≤ 4000000000)) (.br (pt (l.drop i.toNat)) (.leaf (.exit 0, ([.ref 0 0 l.length], [some (.row false none .str l)]))) (.leaf (.ret, ([.b false], []))))
 | _ => .no⟩

theorem lev35 : lev [35] = false := by decide
theorem pt_eq : ∀ l : List (List UInt8), pt l = (!(l.any fun z => !lvOK z) && !decide ([35] ∈ l.take (l.length - 1)))
 | [] => by simp [pt]
 | [x] => by
  simp only [pt, lvOK, List.any_cons, List.any_nil, List.isEmpty_nil, Bool.and_true, Bool.or_false, Bool.not_not, List.length_singleton, Nat.sub_self, List.take_zero, List.not_mem_nil, decide_false, Bool.not_false]
  cases lev x <;> cases x == [43] <;> cases x == [35] <;> rfl
 | x :: y :: l => by
  have ih := pt_eq (y :: l)
  rw [pt, ih]
  have e1 : (x :: y :: l).length - 1 = ((y :: l).length - 1) + 1 := by simp
  have e3 : ((x :: y :: l).any fun z => !lvOK z) = (!lvOK x || (y :: l).any fun z => !lvOK z) := rfl
  rw [e1, List.take_succ_cons, e3]
  generalize hA : ((y :: l).any fun z => !lvOK z) = A
  clear hA ih e3 e1
  simp only [lvOK, List.isEmpty_cons, Bool.and_false, Bool.or_false]
  by_cases hx : x = [35]
  ·subst hx
   rw [lev35]
   simp
  ·have hne : ([35] : List UInt8) ≠ x := fun h => hx h.symm
   have e2 : decide (([35] : List UInt8) ∈ x :: (y :: l).take ((y :: l).length - 1)) = decide ([35] ∈ (y :: l).take ((y :: l).length - 1)) := decide_eq_decide.2 (by simp [hne])
   rw [e2, beq_false_of_ne hx]
   generalize decide ([35] ∈ (y :: l).take ((y :: l).length - 1)) = d
   cases lev x <;> cases x == [43] <;> cases A <;> cases d <;> rfl
theorem lvB_eq (l : List (List UInt8)) : lvB l = (pt l && decide (l.length ≤ 6)) := by
 unfold lvB
 rw [← pt_eq, Bool.and_comm]
theorem tp_pt : ∀ l : List (List UInt8), l.all lev = true → pt l = true
 | [], _ => rfl
 | x :: l, h => by
  rw [List.all_cons, anE] at h
  rw [pt, h.1, tp_pt l h.2]; rfl
theorem tpB_eq (l : List (List UInt8)) : tpB l = (l.all lev && decide (l.length ≤ 6)) := by
 unfold tpB
 rw [lvB_eq]
 have e : (l.any fun z => !lev z) = !(l.all lev) := by
  induction l with
  | nil => rfl
  | cons z l ih => rw [List.any_cons, List.all_cons, ih, Bool.not_and]
 rw [e, Bool.not_not]
 cases h : l.all lev with
 | true => rw [tp_pt l h]; simp
 | false => simp
abbrev Lqd0 : FuncId → Option Ent := look [(120, .rd1 lsplG), (121, .rd1 levG)]
theorem sgtop_round (k k2 : Nat) (m i : Int) (l : List (List UInt8)) : roundK Tryz.prog Lqd0 (look [(3, sgtopE)]) 0 (body Tryz.f76 0) sgtopE ([.ref 0 0 k, .ref 0 0 k2, .j m, .j i], [some (.row false none .str l)]) =
 ((ifB (decide (i < m)) (ifT (decide ((0 : Int) ≤ i) && decide (i < (↑k2 : Int))) (ifSome l[(0 : Nat) + i.toNat]? fun z => ifT (decide (List.length z ≤ maxI)) (ifB (!lev z)
 (some (Ex.ret, [V.b false], [])) (some (Ex.normal, [V.ref 0 0 k, V.ref 0 0 k2, V.j m, V.j (IntKind.i64.wrap (i + (1 : Int)))], [some (Blk.row false none Cd.str
 l)]))))) (some (Ex.exit 0, [V.ref 0 0 k], [some (Blk.row false none Cd.str l)]))) : _) := by kernel_rfl
theorem sgtop_loop (l : List (List UInt8)) (hl : l.length ≤ 5000000000) (ha : ∀ z ∈ l, z.length ≤ 4000000000) : ∀ (j i : Nat), i + j = l.length → ∀ e d', (Br.br ((l.drop i).all lev) (.leaf (.exit 0, ([.ref 0 0 l.length], [some (.row false none .str l)]))) (.leaf (.ret, ([.b false], []))) : Br (Ex × Dt)).run = some (e, d') → Runs Tryz.prog Lqd0 (look [(3, sgtopE)]) 0 (body Tryz.f76 0) sgtopE ([.ref 0 0 l.length, .ref 0 0 l.length, .j (↑l.length : Int), .j (i : Int)], [some (.row false none .str l)]) e d'
 | 0, i, hi, e, d', hx => by
  have hr := sgtop_round l.length l.length l.length i l
  rw [ifB_false (dcF (by omega))] at hr
  rw [List.drop_eq_nil_of_le (by omega)] at hx
  cases hx
  exact .stop _ _ _ hr (by simp)
 | j + 1, i, hi, e, d', hx => by
  have hM : maxI = 9223372036854775807 := rfl
  have hil : i < l.length := by omega
  have hr := sgtop_round l.length l.length l.length i l
  rw [ifB_true (dcT (by omega)), ifT_true (by simp only [anE, dcE]; omega)] at hr
  simp only [ntN, Nat.zero_add, gtE hil, ifSome_s, wrap_succ (n := i) (by omega)] at hr
  have hlen := ha l[i] (List.getElem_mem hil)
  rw [ifT_true (dcT (by omega))] at hr
  rw [List.drop_eq_getElem_cons hil] at hx
  rw [List.all_cons] at hx
  cases hz : lev l[i] with
  | true =>
   rw [hz, Bool.true_and] at hx
   rw [hz, ifB_false (by rfl : (!true) = false)] at hr
   exact .step _ _ _ _ hr (sgtop_loop l hl ha j (i + 1) (by omega) e d' hx)
  | false =>
   rw [hz, Bool.false_and] at hx
   cases hx
   rw [hz, ifB_true (by rfl : (!false) = true)] at hr
   exact .stop _ _ _ hr (by simp)
theorem sgtop_ok : LoopsOk Tryz.prog Lqd0 (look [(3, sgtopE)]) 0 (Tryz.f76.body.getD .skip) := by
 refine loopsOk_one (a := body Tryz.f76 0) (by kernel_rfl) fun x e y h => ?_
 unfold sgtopE at h
 dsimp only at h
 split at h
 ·rename_i k k2 m i l
  obtain ⟨hc, hx⟩ := need_some h
  clear h
  obtain ⟨h0, rfl, rfl, rfl, h1, h2, h3⟩ := of_decide_eq_true hc
  obtain ⟨i, rfl⟩ := Int.eq_ofNat_of_zero_le h0
  rw [ntN] at h1 hx
  exact sgtop_loop l h2 h3 (l.length - i) i (by omega) e y hx
 ·cases h
theorem sgtop_fun (s : List UInt8) (hc : s.length ≤ 4000000000) : funN Tryz.prog Lqd0 (look [(3, sgtopE)]) Tryz.f76 [.s s] [] = some (.b (tpB (cut 47 s)), []) := by
 have e : funN Tryz.prog Lqd0 (look [(3, sgtopE)]) Tryz.f76 [.s s] [] = ((ifT (decide ((47 : Int) = (47 : Int) ∧ s.length ≤ (4000000000 : Nat))) (ifT (decide ((0 : Int) ≤ (0 : Int) ∧ (cut (47 : UInt8) s).length = (cut (47 : UInt8) s).length ∧
 (cut (47 : UInt8) s).length = (cut (47 : UInt8) s).length ∧ (↑(cut (47 : UInt8) s).length : Int) = (↑(cut (47 : UInt8) s).length : Int) ∧ (0 : Nat) ≤ (cut (47 : UInt8)
 s).length ∧ (cut (47 : UInt8) s).length ≤ (5000000000 : Nat) ∧ ∀ (z : Cd.str.den), z ∈ cut (47 : UInt8) s → List.length z ≤ (4000000000 : Nat))) (ifB ((List.drop (0 :
 Nat) (cut (47 : UInt8) s)).all lev) (some (V.b (decide ((↑(cut (47 : UInt8) s).length : Int) ≤ (6 : Int))), [])) (some (V.b false, []))))) : _) := by kernel_rfl
 rw [e]
 clear e
 obtain ⟨hz, hpos, hle⟩ := cut_facts hc
 rw [tpB_eq]
 rw [ifT_true (dcT ⟨by trivial, hc⟩), ifT_true (dcT ⟨by omega, by trivial, by trivial, by trivial, by omega, by omega, hz⟩)]
 simp only [List.drop_zero]
 generalize cut 47 s = l at *
 by_cases q : l.length ≤ 6
 ·have q2 : ((l.length : Int) ≤ 6) := by omega
  rw [dcT q, dcT q2]
  cases (l.all lev) <;> rfl
 ·have q2 : ¬ ((l.length : Int) ≤ 6) := by omega
  rw [dcF q, dcF q2]
  cases (l.all lev) <;> rfl
theorem sgtop : Contract Tryz.prog 76 (Ent.rd1 gtopG).F := by
 refine fun_contractN' (KnowsL.cons (enters_fn Tryz.func120 (by kernel_rfl) (by kernel_rfl)) lspl (KnowsL.cons (enters_fn Tryz.func121 (by kernel_rfl) (by kernel_rfl)) slev KnowsL.nil)).knows (Λ := (look [(3, sgtopE)])) Tryz.func76 (c := Tryz.f76.body.getD .skip) (by kernel_rfl) fun vs bs r hq hv hb => ?_
 unfold Ent.F gtopG at hq
 dsimp only at hq
 split at hq
 ·rename_i s
  obtain ⟨hc, hq⟩ := need_some hq
  exact ⟨sgtop_ok, (sgtop_fun s (of_decide_eq_true hc)).trans hq⟩
 ·cases hq
theorem sgpat_round (k k2 : Nat) (m i : Int) (l : List (List UInt8)) : roundK Tryz.prog Lqd0 (look [(3, sgpatE)]) 0 (body Tryz.f79 0) sgpatE ([.ref 0 0 k, .ref 0 0 k2, .j m, .j i], [some (.row false none .str l)]) =
 ((ifB (decide (i < m)) (ifT (decide ((0 : Int) ≤ i) && decide (i < (↑k2 : Int))) (ifSome l[(0 : Nat) + i.toNat]? fun z => ifT (decide (List.length z ≤ maxI)) (ifB (!lev z)
 (ifB (!z == [(43 : UInt8)]) (ifB (!z == [(35 : UInt8)]) (some (Ex.ret, [V.b false], [])) (ifB (decide (i < IntKind.i64.wrap ((↑k : Int) - (1 : Int)))) (some (Ex.ret, [V.b
 false], [])) (some (Ex.normal, [V.ref 0 0 k, V.ref 0 0 k2, V.j m, V.j (IntKind.i64.wrap (i + (1 : Int)))], [some (Blk.row false none Cd.str l)])))) (some
 (Ex.normal, [V.ref 0 0 k, V.ref 0 0 k2, V.j m, V.j (IntKind.i64.wrap (i + (1 : Int)))], [some (Blk.row false none Cd.str l)]))) (some (Ex.normal, [V.ref 0 0 k,
 V.ref 0 0 k2, V.j m, V.j (IntKind.i64.wrap (i + (1 : Int)))], [some (Blk.row false none Cd.str l)]))))) (some (Ex.exit 0, [V.ref 0 0 k], [some (Blk.row false
 none Cd.str l)]))) : _) := by kernel_rfl
theorem sgpat_loop (l : List (List UInt8)) (hl : l.length ≤ 5000000000) (ha : ∀ z ∈ l, z.length ≤ 4000000000) : ∀ (j i : Nat), i + j = l.length → ∀ e d', (Br.br (pt (l.drop i)) (.leaf (.exit 0, ([.ref 0 0 l.length], [some (.row false none .str l)]))) (.leaf (.ret, ([.b false], []))) : Br (Ex × Dt)).run = some (e, d') → Runs Tryz.prog Lqd0 (look [(3, sgpatE)]) 0 (body Tryz.f79 0) sgpatE ([.ref 0 0 l.length, .ref 0 0 l.length, .j (↑l.length : Int), .j (i : Int)], [some (.row false none .str l)]) e d'
 | 0, i, hi, e, d', hx => by
  have hr := sgpat_round l.length l.length l.length i l
  rw [ifB_false (dcF (by omega))] at hr
  rw [List.drop_eq_nil_of_le (by omega)] at hx
  cases hx
  exact .stop _ _ _ hr (by simp)
 | j + 1, i, hi, e, d', hx => by
  have hM : maxI = 9223372036854775807 := rfl
  have hil : i < l.length := by omega
  have hr := sgpat_round l.length l.length l.length i l
  rw [ifB_true (dcT (by omega)), ifT_true (by simp only [anE, dcE]; omega)] at hr
  simp only [ntN, Nat.zero_add, gtE hil, ifSome_s, wrap_succ (n := i) (by omega)] at hr
  have hlen := ha l[i] (List.getElem_mem hil)
  rw [ifT_true (dcT (by omega))] at hr
  rw [List.drop_eq_getElem_cons hil] at hx
  rw [pt] at hx
  have e0 : (l.drop (i + 1)).isEmpty = decide (¬ ((i : Int) < (l.length : Int) - 1)) := by
   by_cases h : i + 1 < l.length
   ·rw [dcF (by omega), List.drop_eq_getElem_cons h]; rfl
   ·rw [dcT (by omega), List.drop_eq_nil_of_le (by omega)]; rfl
  have w : IntKind.i64.wrap ((l.length : Int) - 1) = (l.length : Int) - 1 := wrap_id (by omega) (by omega)
  rw [e0] at hx
  simp only [w, decide_not] at hr hx
  have key : (lev l[i] || (l[i] == [43] || (l[i] == [35] && !decide ((i : Int) < (l.length : Int) - 1)))) = true ∨ (lev l[i] || (l[i] == [43] || (l[i] == [35] && !decide ((i : Int) < (l.length : Int) - 1)))) = false := by cases (lev l[i] || (l[i] == [43] || (l[i] == [35] && !decide ((i : Int) < (l.length : Int) - 1)))) <;> simp
  rcases key with hz | hz
  ·rw [hz, Bool.true_and] at hx
   refine .step _ _ _ _ (hr.trans ?_) (sgpat_loop l hl ha j (i + 1) (by omega) e d' hx)
   revert hz
   generalize lev l[i] = a
   generalize (l[i] == [43]) = b
   generalize (l[i] == [35]) = c
   generalize decide ((i : Int) < (l.length : Int) - 1) = d
   cases a <;> cases b <;> cases c <;> cases d <;> intro hz <;> first | rfl | cases hz
  ·rw [hz, Bool.false_and] at hx
   cases hx
   refine .stop _ _ _ (hr.trans ?_) (by simp)
   revert hz
   generalize lev l[i] = a
   generalize (l[i] == [43]) = b
   generalize (l[i] == [35]) = c
   generalize decide ((i : Int) < (l.length : Int) - 1) = d
   cases a <;> cases b <;> cases c <;> cases d <;> intro hz <;> first | rfl | cases hz
theorem sgpat_ok : LoopsOk Tryz.prog Lqd0 (look [(3, sgpatE)]) 0 (Tryz.f79.body.getD .skip) := by
 refine loopsOk_one (a := body Tryz.f79 0) (by kernel_rfl) fun x e y h => ?_
 unfold sgpatE at h
 dsimp only at h
 split at h
 ·rename_i k k2 m i l
  obtain ⟨hc, hx⟩ := need_some h
  clear h
  obtain ⟨h0, rfl, rfl, rfl, h1, h2, h3⟩ := of_decide_eq_true hc
  obtain ⟨i, rfl⟩ := Int.eq_ofNat_of_zero_le h0
  rw [ntN] at h1 hx
  exact sgpat_loop l h2 h3 (l.length - i) i (by omega) e y hx
 ·cases h
theorem sgpat_fun (s : List UInt8) (hc : s.length ≤ 4000000000) : funN Tryz.prog Lqd0 (look [(3, sgpatE)]) Tryz.f79 [.s s] [] = some (.b (lvB (cut 47 s)), []) := by
 have e : funN Tryz.prog Lqd0 (look [(3, sgpatE)]) Tryz.f79 [.s s] [] = ((ifT (decide ((47 : Int) = (47 : Int) ∧ s.length ≤ (4000000000 : Nat))) (ifT (decide ((0 : Int) ≤ (0 : Int) ∧ (cut (47 : UInt8) s).length = (cut (47 : UInt8) s).length ∧
 (cut (47 : UInt8) s).length = (cut (47 : UInt8) s).length ∧ (↑(cut (47 : UInt8) s).length : Int) = (↑(cut (47 : UInt8) s).length : Int) ∧ (0 : Nat) ≤ (cut (47 : UInt8)
 s).length ∧ (cut (47 : UInt8) s).length ≤ (5000000000 : Nat) ∧ ∀ (z : Cd.str.den), z ∈ cut (47 : UInt8) s → List.length z ≤ (4000000000 : Nat))) (ifB (pt (List.drop (0 :
 Nat) (cut (47 : UInt8) s))) (some (V.b (decide ((↑(cut (47 : UInt8) s).length : Int) ≤ (6 : Int))), [])) (some (V.b false, []))))) : _) := by kernel_rfl
 rw [e]
 clear e
 obtain ⟨hz, hpos, hle⟩ := cut_facts hc
 rw [lvB_eq]
 rw [ifT_true (dcT ⟨by trivial, hc⟩), ifT_true (dcT ⟨by omega, by trivial, by trivial, by trivial, by omega, by omega, hz⟩)]
 simp only [List.drop_zero]
 generalize cut 47 s = l at *
 by_cases q : l.length ≤ 6
 ·have q2 : ((l.length : Int) ≤ 6) := by omega
  rw [dcT q, dcT q2]
  cases (pt l) <;> rfl
 ·have q2 : ¬ ((l.length : Int) ≤ 6) := by omega
  rw [dcF q, dcF q2]
  cases (pt l) <;> rfl
theorem sgpat : Contract Tryz.prog 79 (Ent.rd1 gpatG).F := by
 refine fun_contractN' (KnowsL.cons (enters_fn Tryz.func120 (by kernel_rfl) (by kernel_rfl)) lspl (KnowsL.cons (enters_fn Tryz.func121 (by kernel_rfl) (by kernel_rfl)) slev KnowsL.nil)).knows (Λ := (look [(3, sgpatE)])) Tryz.func79 (c := Tryz.f79.body.getD .skip) (by kernel_rfl) fun vs bs r hq hv hb => ?_
 unfold Ent.F gpatG at hq
 dsimp only at hq
 split at hq
 ·rename_i s
  obtain ⟨hc, hq⟩ := need_some hq
  exact ⟨sgpat_ok, (sgpat_fun s (of_decide_eq_true hc)).trans hq⟩
 ·cases hq

abbrev Tp := List UInt8 × (List Ty × Unit) × Int × Unit
abbrev Nt := List UInt8 × Int × List UInt8 × Unit
abbrev Fa := Int × List UInt8 × (List Wt × Unit) × (List Ty × Unit) × List Nt × Int × Unit
def atT (ts : List Tp) (x : List UInt8) : Int := firstP (fun t : Tp => t.1 == x) 0 ts
def atW (fs : List Fa) (x : Int) : Int := firstP (fun f : Fa => f.1 == x) 0 fs
def topcC : List V → List Blk → Br (V × List (Option Blk))
 | [.agg [.s n, .sl (.pair (.int .i64) (.pair .str (.pair (.int .i64) (.pair .bool (.pair (.int .i64) (.pair (.int .i64) .unit)))))) l, .i .i64 c], .bx [.s x] 0], [] => .leaf (.b (n == x), [])
 | _, _ => .no
def fancC : List V → List Blk → Br (V × List (Option Blk))
 | [.agg [.i .i64 w, .s p, .sl (.pair (.int .i64) (.pair (.int .i64) (.pair (.int .i64) (.pair .str (.pair (.int .i64) (.pair (.int .i64) .unit)))))) ws, .sl (.pair (.int .i64) (.pair .str (.pair (.int .i64) (.pair .bool (.pair (.int .i64) (.pair (.int .i64) .unit)))))) v, .sl (.pair .str (.pair (.int .i64) (.pair .str .unit))) b, .i .i64 t], .bx [.i .i64 x] 0], [] => .leaf (.b (w == x), [])
 | _, _ => .no
def topicG : List V → List Blk → Br (V × List (Option Blk))
 | [.bx [.sl (.pair .str (.pair (.pair (.slice (.pair (.int .i64) (.pair .str (.pair (.int .i64) (.pair .bool (.pair (.int .i64) (.pair (.int .i64) .unit))))))) .unit) (.pair (.int .i64) .unit))) ts, .sl (.pair (.int .i64) (.pair .str (.pair (.pair (.slice (.pair (.int .i64) (.pair (.int .i64) (.pair (.int .i64) (.pair .str (.pair (.int .i64) (.pair (.int .i64) .unit))))))) .unit) (.pair (.pair (.slice (.pair (.int .i64) (.pair .str (.pair (.int .i64) (.pair .bool (.pair (.int .i64) (.pair (.int .i64) .unit))))))) .unit) (.pair (.slice (.pair .str (.pair (.int .i64) (.pair .str .unit)))) (.pair (.int .i64) .unit)))))) fs] 0, .s x], [] => .leaf (.i .i64 (atT ts x), [])
 | _, _ => .no
def fanG : List V → List Blk → Br (V × List (Option Blk))
 | [.bx [.sl (.pair .str (.pair (.pair (.slice (.pair (.int .i64) (.pair .str (.pair (.int .i64) (.pair .bool (.pair (.int .i64) (.pair (.int .i64) .unit))))))) .unit) (.pair (.int .i64) .unit))) ts, .sl (.pair (.int .i64) (.pair .str (.pair (.pair (.slice (.pair (.int .i64) (.pair (.int .i64) (.pair (.int .i64) (.pair .str (.pair (.int .i64) (.pair (.int .i64) .unit))))))) .unit) (.pair (.pair (.slice (.pair (.int .i64) (.pair .str (.pair (.int .i64) (.pair .bool (.pair (.int .i64) (.pair (.int .i64) .unit))))))) .unit) (.pair (.slice (.pair .str (.pair (.int .i64) (.pair .str .unit)))) (.pair (.int .i64) .unit)))))) fs] 0, .i .i64 x], [] => .leaf (.i .i64 (atW fs x), [])
 | _, _ => .no
def btpE  : LoopEnt := ⟨19, [0,1,4,7,8], [], [4], fun
 | ([.sl (.pair .str (.pair (.pair (.slice (.pair (.int .i64) (.pair .str (.pair (.int .i64) (.pair .bool (.pair (.int .i64) (.pair (.int .i64) .unit))))))) .unit) (.pair (.int .i64) .unit))) l, .fn 133 [] [.ptr 0 0], .i .i64 r, .i .i64 k, .i .i64 i], [some (.box [.s x])]) =>
  .need (decide (0 ≤ i ∧ i.toNat ≤ l.length ∧ l.length ≤ maxI ∧ k = l.length)) (.br (decide (firstP (fun z : Tp => z.1 == x) i.toNat (l.drop i.toNat) < 0)) (.leaf (.exit 0, ([], [some (.box [.s x])]))) (.leaf (.ret, ([.i .i64 (firstP (fun z : Tp => z.1 == x) i.toNat (l.drop i.toNat))], [some (.box [.s x])]))))
 | _ => .no⟩
def btpiG  : List V → List Blk → Br (V × List (Option Blk))
 | [.sl (.pair .str (.pair (.pair (.slice (.pair (.int .i64) (.pair .str (.pair (.int .i64) (.pair .bool (.pair (.int .i64) (.pair (.int .i64) .unit))))))) .unit) (.pair (.int .i64) .unit))) l, .fn 133 [] [.ptr 0 0]], [.box [.s x]] => .leaf (.i .i64 (firstP (fun z : Tp => z.1 == x) 0 l), [some (.box [.s x])])
 | _, _ => .no
def bfnE  : LoopEnt := ⟨19, [0,1,4,7,8], [], [4], fun
 | ([.sl (.pair (.int .i64) (.pair .str (.pair (.pair (.slice (.pair (.int .i64) (.pair (.int .i64) (.pair (.int .i64) (.pair .str (.pair (.int .i64) (.pair (.int .i64) .unit))))))) .unit) (.pair (.pair (.slice (.pair (.int .i64) (.pair .str (.pair (.int .i64) (.pair .bool (.pair (.int .i64) (.pair (.int .i64) .unit))))))) .unit) (.pair (.slice (.pair .str (.pair (.int .i64) (.pair .str .unit)))) (.pair (.int .i64) .unit)))))) l, .fn 91 [] [.ptr 0 0], .i .i64 r, .i .i64 k, .i .i64 i], [some (.box [.i .i64 x])]) =>
  .need (decide (0 ≤ i ∧ i.toNat ≤ l.length ∧ l.length ≤ maxI ∧ k = l.length)) (.br (decide (firstP (fun z : Fa => z.1 == x) i.toNat (l.drop i.toNat) < 0)) (.leaf (.exit 0, ([], [some (.box [.i .i64 x])]))) (.leaf (.ret, ([.i .i64 (firstP (fun z : Fa => z.1 == x) i.toNat (l.drop i.toNat))], [some (.box [.i .i64 x])]))))
 | _ => .no⟩
def bfniG  : List V → List Blk → Br (V × List (Option Blk))
 | [.sl (.pair (.int .i64) (.pair .str (.pair (.pair (.slice (.pair (.int .i64) (.pair (.int .i64) (.pair (.int .i64) (.pair .str (.pair (.int .i64) (.pair (.int .i64) .unit))))))) .unit) (.pair (.pair (.slice (.pair (.int .i64) (.pair .str (.pair (.int .i64) (.pair .bool (.pair (.int .i64) (.pair (.int .i64) .unit))))))) .unit) (.pair (.slice (.pair .str (.pair (.int .i64) (.pair .str .unit)))) (.pair (.int .i64) .unit)))))) l, .fn 91 [] [.ptr 0 0]], [.box [.i .i64 x]] => .leaf (.i .i64 (firstP (fun z : Fa => z.1 == x) 0 l), [some (.box [.i .i64 x])])
 | _, _ => .no
def satE : LoopEnt := ⟨21, [1,8,9,10], [], [4], fun
 | ([.s x, .sl (.pair .str (.pair (.pair (.slice (.pair (.int .i64) (.pair .str (.pair (.int .i64) (.pair .bool (.pair (.int .i64) (.pair (.int .i64) .unit))))))) .unit) (.pair (.int .i64) .unit))) l, .i .i64 k, .i .i64 i], []) => .need (decide (0 ≤ i ∧ i.toNat ≤ l.length ∧ k = l.length ∧ l.length ≤ maxI)) ((Br.br (decide (firstP (fun t : Tp => t.1 == x) i.toNat (l.drop i.toNat) < 0)) (.leaf (.exit 0, ([], []))) (.leaf (.ret, ([.i .i64 (firstP (fun t : Tp => t.1 == x) i.toNat (l.drop i.toNat))], []))) : Br (Ex × Dt)))
 | _ => .no⟩
def satG : List V → List Blk → Br (V × List (Option Blk))
 | [.agg [.sl (.pair .str (.pair (.pair (.slice (.pair (.int .i64) (.pair .str (.pair (.int .i64) (.pair .bool (.pair (.int .i64) (.pair (.int .i64) .unit))))))) .unit) (.pair (.int .i64) .unit))) ts, .sl (.pair (.int .i64) (.pair .str (.pair (.pair (.slice (.pair (.int .i64) (.pair (.int .i64) (.pair (.int .i64) (.pair .str (.pair (.int .i64) (.pair (.int .i64) .unit))))))) .unit) (.pair (.pair (.slice (.pair (.int .i64) (.pair .str (.pair (.int .i64) (.pair .bool (.pair (.int .i64) (.pair (.int .i64) .unit))))))) .unit) (.pair (.slice (.pair .str (.pair (.int .i64) (.pair .str .unit)))) (.pair (.int .i64) .unit)))))) fs], .s x], [] => .leaf (.i .i64 (atT ts x), [])
 | _, _ => .no
theorem topcC_con : Contract Tryz.prog 133 (Ent.rd1 topcC).F := by
 refine fun_contract' KnowsL.nil.knows (Λ := look []) Tryz.func133 (c := Tryz.f133.body.getD .skip) (by kernel_rfl) fun vs bs r hq hv hb => ?_
 unfold Ent.F topcC at hq
 dsimp only at hq
 split at hq
 ·rename_i n l c x
  refine ⟨loopsOk_nil _, Eq.trans ?_ hq⟩
  have e : funK Tryz.prog (look []) (look []) Tryz.f133 [.agg [.s n, .sl TCd l, .j c], .bx [.s x] 0] [] = ((some (V.b (n == x), [])) : _) := by kernel_rfl
  exact e
 ·cases hq
theorem fancC_con : Contract Tryz.prog 91 (Ent.rd1 fancC).F := by
 refine fun_contract' KnowsL.nil.knows (Λ := look []) Tryz.func91 (c := Tryz.f91.body.getD .skip) (by kernel_rfl) fun vs bs r hq hv hb => ?_
 unfold Ent.F fancC at hq
 dsimp only at hq
 split at hq
 ·rename_i w p ws v b t x
  refine ⟨loopsOk_nil _, Eq.trans ?_ hq⟩
  have e : funK Tryz.prog (look []) (look []) Tryz.f91 [.agg [.j w, .s p, .sl WCd ws, .sl TCd v, .sl NTd b, .j t], .bx [.j x] 0] [] = ((some (V.b (w == x), [])) : _) := by kernel_rfl
  exact e
 ·cases hq
theorem btp_round  (x : List UInt8) (l : List (Tp)) (r k i : Int) : roundK Tryz.prog (look [(133, .rd1 topcC)]) (look [(2, btpE)]) 1 (body Tryz.f109 0) btpE ([.sl TPd l, .fn 133 [] [.ptr 0 0], .j r, .j k, .j i], [some (.box [.s x])]) =
 ((ifB (decide (i < k)) (ifT (decide ((0 : Int) ≤ i) && decide (i < (↑l.length : Int))) (ifSome l[i.toNat]? fun z => ifB (z.fst == x) (some (Ex.ret, [V.j i], [some
 (Blk.box [V.s x])])) (some (Ex.normal, [V.sl TPd l, V.fn 133 [] [V.ptr 0 0], V.j r, V.j k, V.j (IntKind.i64.wrap (i + (1 : Int)))],
 [some (Blk.box [V.s x])])))) (some (Ex.exit 0, [], [some (Blk.box [V.s x])]))) : _) := by kernel_rfl
theorem btp_loop  (x : List UInt8) {l : List (Tp)} {r : Int} (hx : l.length ≤ maxI) : ∀ (j i : Nat), i + j = l.length → ∀ e d', (.br (decide (firstP (fun z : Tp => z.1 == x) i (l.drop i) < 0)) (.leaf (.exit 0, ([], [some (.box [.s x])]))) (.leaf (.ret, ([.j (firstP (fun z : Tp => z.1 == x) i (l.drop i))], [some (.box [.s x])]))) : Br (Ex × Dt)).run = some (e, d') →
  Runs Tryz.prog (look [(133, .rd1 topcC)]) (look [(2, btpE)]) 1 (body Tryz.f109 0) btpE ([.sl TPd l, .fn 133 [] [.ptr 0 0], .j r, .j (l.length : Int), .j (i : Int)], [some (.box [.s x])]) e d'
 | 0, i, hi, e, d', h => by
  have e1 : l.drop i = [] := List.drop_eq_nil_of_le (by omega)
  rw [e1, br_run, firstP, if_pos (by omega)] at h
  cases h
  have hr := btp_round x l r l.length i
  rw [ifB_false (dcF (by omega))] at hr
  exact .stop _ _ _ hr (by simp)
 | j + 1, i, hi, e, d', h => by
  have h1 : i < l.length := by omega
  have hr := btp_round x l r l.length i
  rw [ifB_true (dcT (by omega)), ifT_true (by simp only [anE, dcE]; omega)] at hr
  simp only [ntN, gtE h1, ifSome_s, wrap_succ (n := i) (by omega)] at hr
  rw [List.drop_eq_getElem_cons h1, br_run, firstP] at h
  by_cases he : (fun z : Tp => z.1 == x) l[i] = true
  ·rw [if_pos he, if_neg (by omega)] at h
   cases h
   rw [ifB_true he] at hr
   exact .stop _ _ _ hr (by simp)
  ·rw [if_neg he] at h
   rw [ifB_false (by simpa using he)] at hr
   exact .step _ _ _ _ hr (btp_loop x hx j (i + 1) (by omega) e d' (by rw [br_run]; exact h))
theorem btp_ok  : LoopsOk Tryz.prog (look [(133, .rd1 topcC)]) (look [(2, btpE)]) 1 (Tryz.f109.body.getD .skip) := by
 refine loopsOk_one (a := body Tryz.f109 0) (by kernel_rfl) fun d e d' h => ?_
 unfold btpE at h
 dsimp only at h
 split at h
 ·obtain ⟨hc, h'⟩ := need_some h
  obtain ⟨h0, h1, h2, rfl⟩ := of_decide_eq_true hc
  obtain ⟨i, rfl⟩ := Int.eq_ofNat_of_zero_le h0
  exact btp_loop _  h2 _ i (Nat.add_sub_of_le h1) e d' h'
 ·cases h
theorem btp_fun  (x : List UInt8) (l : List (Tp)) (hx : l.length ≤ maxI) : funK Tryz.prog (look [(133, .rd1 topcC)]) (look [(2, btpE)]) Tryz.f109 [.sl TPd l, .fn 133 [] [.ptr 0 0]] [.box [.s x]] = some (.j (firstP (fun z : Tp => z.1 == x) 0 l), [some (.box [.s x])]) := by
 have e : funK Tryz.prog (look [(133, .rd1 topcC)]) (look [(2, btpE)]) Tryz.f109 [.sl TPd l, .fn 133 [] [.ptr 0 0]] [.box [.s x]] =
  ((ifT (decide ((0 : Int) ≤ (0 : Int) ∧ (0 : Nat) ≤ l.length ∧ l.length ≤ maxI ∧ (↑l.length : Int) = (↑l.length : Int))) (ifB (decide (firstP (fun z => z.fst == x) (0 : Nat)
 (List.drop (0 : Nat) l) < (0 : Int))) (some (V.j (-1), [some (Blk.box [V.s x])])) (some (V.j (firstP (fun z => z.fst == x) (0 : Nat) (List.drop (0 : Nat) l)),
 [some (Blk.box [V.s x])])))) : _) := by kernel_rfl
 rw [e, ifT_true (dcT ⟨by omega, by omega, hx, rfl⟩)]
 simp only [Int.toNat_zero, List.drop_zero]
 by_cases q : firstP (fun z : Tp => z.1 == x) 0 l < 0
 ·rw [ifB_true (dcT q), firstP_neg _ _ _ q]
 ·rw [ifB_false (dcF q)]
theorem btp_idx  : Contract Tryz.prog 109 (Ent.own btpiG).F := by
 refine fun_contract' (KnowsL.cons (enters_fn Tryz.func133 (by kernel_rfl) (by kernel_rfl)) topcC_con KnowsL.nil).knows (Λ := (look [(2, btpE)])) Tryz.func109 (c := Tryz.f109.body.getD .skip) (by kernel_rfl) fun vs bs r h hv hb => ?_
 unfold Ent.F btpiG at h
 dsimp only at h
 split at h
 ·rename_i l x
  have h' := h
  exact ⟨btp_ok , (btp_fun x l (hv (.sl TPd l) (by simp)).1).trans (by cases h'; rfl)⟩
 ·cases h
theorem bfn_round  (x : Int) (l : List (Fa)) (r k i : Int) : roundK Tryz.prog (look [(91, .rd1 fancC)]) (look [(2, bfnE)]) 1 (body Tryz.f90 0) bfnE ([.sl FNd l, .fn 91 [] [.ptr 0 0], .j r, .j k, .j i], [some (.box [.j x])]) =
 ((ifB (decide (i < k)) (ifT (decide ((0 : Int) ≤ i) && decide (i < (↑l.length : Int))) (ifSome l[i.toNat]? fun z => ifB (z.fst == x) (some (Ex.ret, [V.j i], [some
 (Blk.box [V.j x])])) (some (Ex.normal, [V.sl FNd l, V.fn 91 [] [V.ptr 0 0], V.j r, V.j k, V.j (IntKind.i64.wrap (i + (1 :
 Int)))], [some (Blk.box [V.j x])])))) (some (Ex.exit 0, [], [some (Blk.box [V.j x])]))) : _) := by kernel_rfl
theorem bfn_loop  (x : Int) {l : List (Fa)} {r : Int} (hx : l.length ≤ maxI) : ∀ (j i : Nat), i + j = l.length → ∀ e d', (.br (decide (firstP (fun z : Fa => z.1 == x) i (l.drop i) < 0)) (.leaf (.exit 0, ([], [some (.box [.j x])]))) (.leaf (.ret, ([.j (firstP (fun z : Fa => z.1 == x) i (l.drop i))], [some (.box [.j x])]))) : Br (Ex × Dt)).run = some (e, d') →
  Runs Tryz.prog (look [(91, .rd1 fancC)]) (look [(2, bfnE)]) 1 (body Tryz.f90 0) bfnE ([.sl FNd l, .fn 91 [] [.ptr 0 0], .j r, .j (l.length : Int), .j (i : Int)], [some (.box [.j x])]) e d'
 | 0, i, hi, e, d', h => by
  have e1 : l.drop i = [] := List.drop_eq_nil_of_le (by omega)
  rw [e1, br_run, firstP, if_pos (by omega)] at h
  cases h
  have hr := bfn_round x l r l.length i
  rw [ifB_false (dcF (by omega))] at hr
  exact .stop _ _ _ hr (by simp)
 | j + 1, i, hi, e, d', h => by
  have h1 : i < l.length := by omega
  have hr := bfn_round x l r l.length i
  rw [ifB_true (dcT (by omega)), ifT_true (by simp only [anE, dcE]; omega)] at hr
  simp only [ntN, gtE h1, ifSome_s, wrap_succ (n := i) (by omega)] at hr
  rw [List.drop_eq_getElem_cons h1, br_run, firstP] at h
  by_cases he : (fun z : Fa => z.1 == x) l[i] = true
  ·rw [if_pos he, if_neg (by omega)] at h
   cases h
   rw [ifB_true he] at hr
   exact .stop _ _ _ hr (by simp)
  ·rw [if_neg he] at h
   rw [ifB_false (by simpa using he)] at hr
   exact .step _ _ _ _ hr (bfn_loop x hx j (i + 1) (by omega) e d' (by rw [br_run]; exact h))
theorem bfn_ok  : LoopsOk Tryz.prog (look [(91, .rd1 fancC)]) (look [(2, bfnE)]) 1 (Tryz.f90.body.getD .skip) := by
 refine loopsOk_one (a := body Tryz.f90 0) (by kernel_rfl) fun d e d' h => ?_
 unfold bfnE at h
 dsimp only at h
 split at h
 ·obtain ⟨hc, h'⟩ := need_some h
  obtain ⟨h0, h1, h2, rfl⟩ := of_decide_eq_true hc
  obtain ⟨i, rfl⟩ := Int.eq_ofNat_of_zero_le h0
  exact bfn_loop _  h2 _ i (Nat.add_sub_of_le h1) e d' h'
 ·cases h
theorem bfn_fun  (x : Int) (l : List (Fa)) (hx : l.length ≤ maxI) : funK Tryz.prog (look [(91, .rd1 fancC)]) (look [(2, bfnE)]) Tryz.f90 [.sl FNd l, .fn 91 [] [.ptr 0 0]] [.box [.j x]] = some (.j (firstP (fun z : Fa => z.1 == x) 0 l), [some (.box [.j x])]) := by
 have e : funK Tryz.prog (look [(91, .rd1 fancC)]) (look [(2, bfnE)]) Tryz.f90 [.sl FNd l, .fn 91 [] [.ptr 0 0]] [.box [.j x]] =
  ((ifT (decide ((0 : Int) ≤ (0 : Int) ∧ (0 : Nat) ≤ l.length ∧ l.length ≤ maxI ∧ (↑l.length : Int) = (↑l.length : Int))) (ifB (decide (firstP (fun z => z.fst == x) (0 : Nat)
 (List.drop (0 : Nat) l) < (0 : Int))) (some (V.j (-1), [some (Blk.box [V.j x])])) (some (V.j (firstP (fun z => z.fst == x) (0 : Nat) (List.drop (0 : Nat)
 l)), [some (Blk.box [V.j x])])))) : _) := by kernel_rfl
 rw [e, ifT_true (dcT ⟨by omega, by omega, hx, rfl⟩)]
 simp only [Int.toNat_zero, List.drop_zero]
 by_cases q : firstP (fun z : Fa => z.1 == x) 0 l < 0
 ·rw [ifB_true (dcT q), firstP_neg _ _ _ q]
 ·rw [ifB_false (dcF q)]
theorem bfn_idx  : Contract Tryz.prog 90 (Ent.own bfniG).F := by
 refine fun_contract' (KnowsL.cons (enters_fn Tryz.func91 (by kernel_rfl) (by kernel_rfl)) fancC_con KnowsL.nil).knows (Λ := (look [(2, bfnE)])) Tryz.func90 (c := Tryz.f90.body.getD .skip) (by kernel_rfl) fun vs bs r h hv hb => ?_
 unfold Ent.F bfniG at h
 dsimp only at h
 split at h
 ·rename_i l x
  have h' := h
  exact ⟨bfn_ok , (bfn_fun x l (hv (.sl FNd l) (by simp)).1).trans (by cases h'; rfl)⟩
 ·cases h
theorem itopic_fun (ts : List Tp) (fs : List Fa) (x : List UInt8) : funK Tryz.prog (look [(109, .own btpiG)]) (look []) Tryz.f89 [.bx [.sl TPd ts, .sl FNd fs] 0, .s x] [] = some (.j (atT ts x), []) := by
 have e : funK Tryz.prog (look [(109, .own btpiG)]) (look []) Tryz.f89 [.bx [.sl TPd ts, .sl FNd fs] 0, .s x] [] = ((some (V.j (firstP (fun z => z.fst == x) (0 : Nat) ts), [])) : _) := by kernel_rfl
 exact e
theorem itopic : Contract Tryz.prog 89 (Ent.rd1 topicG).F := by
 refine fun_contract' (KnowsL.cons (enters_fn Tryz.func109 (by kernel_rfl) (by kernel_rfl)) btp_idx KnowsL.nil).knows (Λ := look []) Tryz.func89 (c := Tryz.f89.body.getD .skip) (by kernel_rfl) fun vs bs r hq hv hb => ?_
 unfold Ent.F topicG at hq
 dsimp only at hq
 split at hq
 ·exact ⟨loopsOk_nil _, (itopic_fun _ _ _).trans hq⟩
 ·cases hq
theorem ifan_fun (ts : List Tp) (fs : List Fa) (x : Int) : funK Tryz.prog (look [(90, .own bfniG)]) (look []) Tryz.f42 [.bx [.sl TPd ts, .sl FNd fs] 0, .j x] [] = some (.j (atW fs x), []) := by
 have e : funK Tryz.prog (look [(90, .own bfniG)]) (look []) Tryz.f42 [.bx [.sl TPd ts, .sl FNd fs] 0, .j x] [] = ((some (V.j (firstP (fun z => z.fst == x) (0 : Nat) fs), [])) : _) := by kernel_rfl
 exact e
theorem ifan : Contract Tryz.prog 42 (Ent.rd1 fanG).F := by
 refine fun_contract' (KnowsL.cons (enters_fn Tryz.func90 (by kernel_rfl) (by kernel_rfl)) bfn_idx KnowsL.nil).knows (Λ := look []) Tryz.func42 (c := Tryz.f42.body.getD .skip) (by kernel_rfl) fun vs bs r hq hv hb => ?_
 unfold Ent.F fanG at hq
 dsimp only at hq
 split at hq
 ·exact ⟨loopsOk_nil _, (ifan_fun _ _ _).trans hq⟩
 ·cases hq
theorem sat_round (x : List UInt8) (l : List Tp) (k i : Int) : roundK Tryz.prog (look []) (look [(2, satE)]) 0 (body Tryz.f38 0) satE ([.s x, .sl TPd l, .j k, .j i], []) =
 ((ifB (decide (i < k)) (ifT (decide ((0 : Int) ≤ i) && decide (i < (↑l.length : Int))) (ifSome l[i.toNat]? fun z => ifB (z.fst == x) (some (Ex.ret, [V.j i], [])) (some
 (Ex.normal, [V.s x, V.sl TPd l, V.j k, V.j (IntKind.i64.wrap (i + (1 : Int)))], [])))) (some (Ex.exit 0, [], []))) : _) := by kernel_rfl
theorem sat_tree (ts : List Tp) (fs : List Fa) (x : List UInt8) : funK Tryz.prog (look []) (look [(2, satE)]) Tryz.f38 [.agg [.sl TPd ts, .sl FNd fs], .s x] [] =
 ((ifT (decide ((0 : Int) ≤ (0 : Int) ∧ (0 : Nat) ≤ ts.length ∧ (↑ts.length : Int) = (↑ts.length : Int) ∧ ts.length ≤ maxI)) (ifB (decide (firstP (fun t => t.fst == x) (0 :
 Nat) (List.drop (0 : Nat) ts) < (0 : Int))) (some (V.j (-1), [])) (some (V.j (firstP (fun t => t.fst == x) (0 : Nat) (List.drop (0 : Nat) ts)), [])))) : _) := by kernel_rfl
theorem sat_loop (x : List UInt8) (l : List Tp) (hl : l.length ≤ maxI) : ∀ (j i : Nat), i + j = l.length → ∀ ex d, (Br.br (decide (firstP (fun t : Tp => t.1 == x) i (l.drop i) < 0)) (.leaf (.exit 0, ([], []))) (.leaf (.ret, ([.j (firstP (fun t : Tp => t.1 == x) i (l.drop i))], []))) : Br (Ex × Dt)).run = some (ex, d) → Runs Tryz.prog (look []) (look [(2, satE)]) 0 (body Tryz.f38 0) satE ([.s x, .sl TPd l, .j (l.length : Int), .j (i : Int)], []) ex d
 | 0, i, hi, ex, d, h => by
  have hr := sat_round x l l.length i
  rw [ifB_false (dcF (by omega))] at hr
  rw [List.drop_eq_nil_of_le (by omega), firstP, br_t (dcT (by omega))] at h
  have h8 := leaf_some h
  obtain ⟨rfl, rfl⟩ := Prod.mk.inj h8
  exact .stop _ _ _ hr (by simp)
 | j + 1, i, hi, ex, d, h => by
  have hM : maxI = 9223372036854775807 := rfl
  have hlt : i < l.length := by omega
  have hr := sat_round x l l.length i
  rw [ifB_true (dcT (by omega)), ifT_true (by simp only [anE, dcE]; omega), ntN, gtE hlt, ifSome_s, wrap_succ (n := i) (by omega)] at hr
  rw [List.drop_eq_getElem_cons hlt, firstP] at h
  by_cases q : (l[i].1 == x) = true
  ·rw [if_pos q, br_f (dcF (by omega))] at h
   rw [ifB_true q] at hr
   have h8 := leaf_some h
   obtain ⟨rfl, rfl⟩ := Prod.mk.inj h8
   exact .stop _ _ _ hr (by simp)
  ·rw [if_neg q] at h
   rw [ifB_false (by simpa using q)] at hr
   exact .step _ _ _ _ hr (sat_loop x l hl j (i + 1) (by omega) ex d h)
theorem sat_ok : LoopsOk Tryz.prog (look []) (look [(2, satE)]) 0 (Tryz.f38.body.getD .skip) := by
 refine loopsOk_one (a := body Tryz.f38 0) (by kernel_rfl) fun d ex d' h => ?_
 unfold satE at h
 dsimp only at h
 split at h
 ·rename_i x l k i
  obtain ⟨hc, hx⟩ := need_some h
  obtain ⟨h0, h1, rfl, h2⟩ := of_decide_eq_true hc
  obtain ⟨i, rfl⟩ := Int.eq_ofNat_of_zero_le h0
  simp only [ntN] at h1 hx
  exact sat_loop x l h2 (l.length - i) i (by omega) ex d' hx
 ·cases h
theorem sat : Contract Tryz.prog 38 (Ent.rd1 satG).F := by
 refine fun_contract' KnowsL.nil.knows (Λ := (look [(2, satE)])) Tryz.func38 (c := Tryz.f38.body.getD .skip) (by kernel_rfl) fun vs bs r hq hv hb => ?_
 unfold Ent.F satG at hq
 dsimp only at hq
 split at hq
 ·rename_i ts fs x
  have hm : ts.length ≤ maxI := (hv (.agg [.sl TPd ts, .sl FNd fs]) (by simp) (.sl TPd ts) (by simp)).1
  refine ⟨sat_ok, (sat_tree ts fs x).trans (Eq.trans ?_ hq)⟩
  show _ = some (V.j (atT ts x), [])
  rw [ifT_true (dcT ⟨by omega, by omega, rfl, hm⟩), List.drop_zero]
  unfold atT
  by_cases q : firstP (fun t : Tp => t.1 == x) 0 ts < 0
  ·rw [ifB_true (dcT q), firstP_neg _ _ _ q]
  ·rw [ifB_false (dcF q)]
 ·cases hq
instance decTp : DecidableEq Tp := inferInstance
def tOK (t : Tp) : Bool := tpB (cut 47 t.1) && (kindB t.2.1.1 && decide (0 ≤ t.2.2.1 ∧ t.2.2.1 ≤ 1000))
def szTB (t : Tp) : Bool := decide (t.1.length ≤ 4000000000) && (decide (t.2.1.1.length ≤ 4000000000) && nmL t.2.1.1)
def topB (ts : List Tp) (i : Nat) : Bool := match ts[i]? with | some t => tOK t && atT ts t.1 == (i : Int) | none => true
def topsB (ts : List Tp) (i : Nat) : Bool := ((List.range ts.length).drop i).all (topB ts)
def l17TG : List V → List Blk → Br (V × List (Option Blk))
 | [.agg [.s n, .sl (.pair (.int .i64) (.pair .str (.pair (.int .i64) (.pair .bool (.pair (.int .i64) (.pair (.int .i64) .unit)))))) l, .i .i64 c]], [] => .need (szTB (n, (l, ()), c, ())) (.leaf (.b (tOK (n, (l, ()), c, ())), []))
 | _, _ => .no
def l17FG : List V → List Blk → Br (V × List (Option Blk))
 | [.s p, .s q], [] => .need (decide (p.length ≤ 4000000000 ∧ q.length ≤ 4000000000)) (.leaf (.b (tk fitL (cut 47 p) (cut 47 q)), []))
 | _, _ => .no
def topsG : List V → List Blk → Br (V × List (Option Blk))
 | [.bx [.sl (.pair .str (.pair (.pair (.slice (.pair (.int .i64) (.pair .str (.pair (.int .i64) (.pair .bool (.pair (.int .i64) (.pair (.int .i64) .unit))))))) .unit) (.pair (.int .i64) .unit))) ts, .sl (.pair (.int .i64) (.pair .str (.pair (.pair (.slice (.pair (.int .i64) (.pair (.int .i64) (.pair (.int .i64) (.pair .str (.pair (.int .i64) (.pair (.int .i64) .unit))))))) .unit) (.pair (.pair (.slice (.pair (.int .i64) (.pair .str (.pair (.int .i64) (.pair .bool (.pair (.int .i64) (.pair (.int .i64) .unit))))))) .unit) (.pair (.slice (.pair .str (.pair (.int .i64) (.pair .str .unit)))) (.pair (.int .i64) .unit)))))) fs] 0], [] => .need (decide (ts.length ≤ 4000000000) && ts.all szTB) (.leaf (.b (topsB ts 0 && decide (ts.length ≤ 4)), []))
 | _, _ => .no
def topsE : LoopEnt := ⟨46, [0,8,9,10], [0], [2], fun
 | ([.bx [.sl (.pair .str (.pair (.pair (.slice (.pair (.int .i64) (.pair .str (.pair (.int .i64) (.pair .bool (.pair (.int .i64) (.pair (.int .i64) .unit))))))) .unit) (.pair (.int .i64) .unit))) ts, .sl (.pair (.int .i64) (.pair .str (.pair (.pair (.slice (.pair (.int .i64) (.pair (.int .i64) (.pair (.int .i64) (.pair .str (.pair (.int .i64) (.pair (.int .i64) .unit))))))) .unit) (.pair (.pair (.slice (.pair (.int .i64) (.pair .str (.pair (.int .i64) (.pair .bool (.pair (.int .i64) (.pair (.int .i64) .unit))))))) .unit) (.pair (.slice (.pair .str (.pair (.int .i64) (.pair .str .unit)))) (.pair (.int .i64) .unit)))))) fs] 0, .sl (.pair .str (.pair (.pair (.slice (.pair (.int .i64) (.pair .str (.pair (.int .i64) (.pair .bool (.pair (.int .i64) (.pair (.int .i64) .unit))))))) .unit) (.pair (.int .i64) .unit))) l, .i .i64 k, .i .i64 i], []) => .need (decide (0 ≤ i ∧ i.toNat ≤ l.length ∧ k = l.length ∧ eqT (List Tp) l ts ∧ l.length ≤ maxI) && ts.all szTB) (.br (topsB ts i.toNat) (.leaf (.exit 0, ([.bx [.sl (.pair .str (.pair (.pair (.slice (.pair (.int .i64) (.pair .str (.pair (.int .i64) (.pair .bool (.pair (.int .i64) (.pair (.int .i64) .unit))))))) .unit) (.pair (.int .i64) .unit))) ts, .sl (.pair (.int .i64) (.pair .str (.pair (.pair (.slice (.pair (.int .i64) (.pair (.int .i64) (.pair (.int .i64) (.pair .str (.pair (.int .i64) (.pair (.int .i64) .unit))))))) .unit) (.pair (.pair (.slice (.pair (.int .i64) (.pair .str (.pair (.int .i64) (.pair .bool (.pair (.int .i64) (.pair (.int .i64) .unit))))))) .unit) (.pair (.slice (.pair .str (.pair (.int .i64) (.pair .str .unit)))) (.pair (.int .i64) .unit)))))) fs] 0], []))) (.leaf (.ret, ([.b false], []))))
 | _ => .no⟩

theorem l17T_tree (n : List UInt8) (l : List Ty) (c : Int) : funK Tryz.prog (look [(76, .rd1 gtopG), (77, .rd1 gschG), (78, .rd1 withinG)]) (look []) Tryz.f37 [.agg [.s n, .sl TCd l, .j c]] [] =
 ((ifT (decide (n.length ≤ (4000000000 : Nat))) (ifB (tpB (cut (47 : UInt8) n)) (ifT (decide (l.length ≤ (4000000000 : Nat)) && nmL l) (ifB (kindB l) (some (V.b (decide ((0 :
 Int) ≤ c ∧ c ≤ (1000 : Int))), [])) (some (V.b false, [])))) (some (V.b false, [])))) : _) := by kernel_rfl
theorem l17T : Contract Tryz.prog 37 (Ent.rd1 l17TG).F := by
 refine fun_contract' (KnowsL.cons (enters_fn Tryz.func76 (by kernel_rfl) (by kernel_rfl)) sgtop (KnowsL.cons (enters_fn Tryz.func77 (by kernel_rfl) (by kernel_rfl)) sgsch (KnowsL.cons (enters_fn Tryz.func78 (by kernel_rfl) (by kernel_rfl)) l1In KnowsL.nil))).knows (Λ := look []) Tryz.func37 (c := Tryz.f37.body.getD .skip) (by kernel_rfl) fun vs bs r hq hv hb => ?_
 unfold Ent.F l17TG at hq
 dsimp only at hq
 split at hq
 ·rename_i n l c
  obtain ⟨hc, hx⟩ := need_some hq
  unfold szTB at hc
  dsimp only at hc
  simp only [anE, dcE] at hc
  refine ⟨loopsOk_nil _, (l17T_tree n l c).trans (Eq.trans ?_ hx)⟩
  show _ = some (V.b (tpB (cut 47 n) && (kindB l && decide (0 ≤ c ∧ c ≤ 1000))), [])
  rw [ifT_true (dcT hc.1), hc.2.2, dcT hc.2.1]
  cases tpB (cut 47 n) <;> cases kindB l <;> rfl
 ·cases hq
theorem l17F_tree (p q : List UInt8) : funK Tryz.prog (look [(120, .rd1 lsplG), (126, .rd1 fitG)]) (look []) Tryz.f81 [.s p, .s q] [] =
 ((ifT (decide ((47 : Int) = (47 : Int) ∧ p.length ≤ (4000000000 : Nat))) (ifT (decide ((47 : Int) = (47 : Int) ∧ q.length ≤ (4000000000 : Nat))) (some (V.b (tk fitL
 (List.take (cut (47 : UInt8) p).length (List.drop (0 : Nat) (cut (47 : UInt8) p))) (List.take (cut (47 : UInt8) q).length (List.drop (0 : Nat) (cut (47 : UInt8) q)))),
 [])))) : _) := by kernel_rfl
theorem l17F : Contract Tryz.prog 81 (Ent.rd1 l17FG).F := by
 refine fun_contract' (KnowsL.cons (enters_fn Tryz.func120 (by kernel_rfl) (by kernel_rfl)) lspl (KnowsL.cons (enters_fn Tryz.func126 (by kernel_rfl) (by kernel_rfl)) fits KnowsL.nil)).knows (Λ := look []) Tryz.func81 (c := Tryz.f81.body.getD .skip) (by kernel_rfl) fun vs bs r hq hv hb => ?_
 unfold Ent.F l17FG at hq
 dsimp only at hq
 split at hq
 ·rename_i p q
  obtain ⟨hc, hx⟩ := need_some hq
  obtain ⟨h1, h2⟩ := of_decide_eq_true hc
  refine ⟨loopsOk_nil _, (l17F_tree p q).trans (Eq.trans ?_ hx)⟩
  try dsimp only [shr]
  rw [ifT_true (dcT ⟨rfl, h1⟩), ifT_true (dcT ⟨rfl, h2⟩)]
  simp only [List.drop_zero, List.take_length]
  try rfl
 ·cases hq
abbrev Lqd1 : FuncId → Option Ent := look [(86, .rd1 gtopG), (87, .rd1 gschG), (88, .rd1 withinG), (89, .rd1 topicG)]
theorem tops_round (ts : List Tp) (fs : List Fa) (l : List Tp) (k i : Int) : roundK Tryz.prog Lqd1 (look [(2, topsE)]) 0 (body Tryz.f41 0) topsE ([.bx [.sl TPd ts, .sl FNd fs] 0, .sl TPd l, .j k, .j i], []) =
 ((ifB (decide (i < k)) (ifT (decide ((0 : Int) ≤ i) && decide (i < (↑l.length : Int))) (ifSome l[i.toNat]? fun z => ifT (decide (List.length z.fst ≤ (4000000000 : Nat)))
 (ifB (!tpB (cut (47 : UInt8) z.fst)) (some (Ex.ret, [V.b false], [])) (ifT (decide (List.length z.snd.fst.fst ≤ (4000000000 : Nat)) && nmL z.snd.fst.fst) (ifB (!kindB
 z.snd.fst.fst) (some (Ex.ret, [V.b false], [])) (ifB (!decide ((0 : Int) ≤ z.snd.snd.fst ∧ z.snd.snd.fst ≤ (1000 : Int))) (some (Ex.ret, [V.b false], [])) (ifB (atT ts
 z.fst != i) (some (Ex.ret, [V.b false], [])) (some (Ex.normal, [V.bx [V.sl TPd ts, V.sl FNd fs] (0 : Nat), V.sl TPd l, V.j k, V.j (IntKind.i64.wrap (i + (1 :
 Int)))], []))))))))) (some (Ex.exit 0, [V.bx [V.sl TPd ts, V.sl FNd fs] (0 : Nat)], []))) : _) := by kernel_rfl
theorem tops_tree (ts : List Tp) (fs : List Fa) : funK Tryz.prog Lqd1 (look [(2, topsE)]) Tryz.f41 [.bx [.sl TPd ts, .sl FNd fs] 0] [] =
 ((ifT (decide ((0 : Int) ≤ (0 : Int) ∧ (0 : Nat) ≤ ts.length ∧ (↑ts.length : Int) = (↑ts.length : Int) ∧ eqT (List Tp) ts ts ∧ ts.length ≤ maxI) && ts.all szTB) (ifB (topsB
 ts (0 : Nat)) (some (V.b (decide ((↑ts.length : Int) ≤ (4 : Int))), [])) (some (V.b false, [])))) : _) := by kernel_rfl
theorem tops_loop (ts : List Tp) (fs : List Fa) (hm : ts.length ≤ maxI) (hz : ts.all szTB = true) : ∀ (j i : Nat), i + j = ts.length → ∀ ex d, (Br.br (topsB ts i) (.leaf (.exit 0, ([.bx [.sl TPd ts, .sl FNd fs] 0], []))) (.leaf (.ret, ([.b false], []))) : Br (Ex × Dt)).run = some (ex, d) → Runs Tryz.prog Lqd1 (look [(2, topsE)]) 0 (body Tryz.f41 0) topsE ([.bx [.sl TPd ts, .sl FNd fs] 0, .sl TPd ts, .j (ts.length : Int), .j (i : Int)], []) ex d
 | 0, i, hi, ex, d, h => by
  have hr := tops_round ts fs ts ts.length i
  try dsimp only [shr] at hr
  rw [ifB_false (dcF (by omega))] at hr
  have e : topsB ts i = true := by unfold topsB; rw [List.drop_eq_nil_of_le (by simp; omega)]; rfl
  rw [br_t e] at h
  have h8 := leaf_some h
  obtain ⟨rfl, rfl⟩ := Prod.mk.inj h8
  exact .stop _ _ _ hr (by simp)
 | j + 1, i, hi, ex, d, h => by
  have hM : maxI = 9223372036854775807 := rfl
  have hlt : i < ts.length := by omega
  have hr := tops_round ts fs ts ts.length i
  try dsimp only [shr] at hr
  have hs := List.all_eq_true.1 hz _ (List.getElem_mem hlt)
  unfold szTB at hs
  simp only [anE, dcE] at hs
  rw [ifB_true (dcT (by omega)), ifT_true (by simp only [anE, dcE]; omega), ntN, gtE hlt, ifSome_s, wrap_succ (n := i) (by omega)] at hr
  have e : topsB ts i = ((tOK ts[i] && atT ts ts[i].1 == (i : Int)) && topsB ts (i + 1)) := by
   unfold topsB
   rw [List.drop_eq_getElem_cons (by simpa using hlt), List.all_cons, List.getElem_range]
   congr 1
   unfold topB
   rw [gtE hlt]
  generalize ts[i] = t at hr e hs
  unfold tOK at e
  rw [ifT_true (dcT hs.1), hs.2.2, dcT hs.2.1] at hr
  have bad : ∀ {w}, roundK Tryz.prog Lqd1 (look [(2, topsE)]) 0 (body Tryz.f41 0) topsE ([.bx [.sl TPd ts, .sl FNd fs] 0, .sl TPd ts, .j (ts.length : Int), .j (i : Int)], []) = w → w = some ((.ret : Ex), (([.b false] : List V), ([] : List (Option Blk)))) → topsB ts i = false → Runs Tryz.prog Lqd1 (look [(2, topsE)]) 0 (body Tryz.f41 0) topsE ([.bx [.sl TPd ts, .sl FNd fs] 0, .sl TPd ts, .j (ts.length : Int), .j (i : Int)], []) ex d := fun e1 e2 e3 => by
   rw [br_f e3] at h
   have h8 := leaf_some h
   obtain ⟨rfl, rfl⟩ := Prod.mk.inj h8
   exact .stop _ _ _ (e1.trans e2) (by simp)
  cases h1 : tpB (cut 47 t.1) with
  | false => rw [h1] at hr e; exact bad hr rfl (by rw [e]; rfl)
  | true =>
   cases h2 : kindB t.2.1.1 with
   | false => rw [h1, h2] at hr e; exact bad hr rfl (by rw [e]; rfl)
   | true =>
    by_cases h3 : 0 ≤ t.2.2.1 ∧ t.2.2.1 ≤ 1000
    ·by_cases h4 : atT ts t.1 = (i : Int)
     ·have h5 : (atT ts t.1 == (i : Int)) = true := beq_iff_eq.2 h4
      have h6 : (atT ts t.1 != (i : Int)) = false := bne_eq_false_iff_eq.2 h4
      rw [h1, h2, dcT h3, h6] at hr
      rw [h1, h2, dcT h3, h5] at e
      refine .step _ _ _ _ hr (tops_loop ts fs hm hz j (i + 1) (by omega) ex d ?_)
      rw [e] at h
      exact h
     ·have h5 : (atT ts t.1 == (i : Int)) = false := beq_eq_false_iff_ne.2 h4
      have h6 : (atT ts t.1 != (i : Int)) = true := bne_iff_ne.2 h4
      rw [h1, h2, dcT h3, h6] at hr
      exact bad hr rfl (by rw [e, h5]; simp)
    ·rw [h1, h2, dcF h3] at hr e
     exact bad hr rfl (by rw [e]; rfl)
theorem tops_ok : LoopsOk Tryz.prog Lqd1 (look [(2, topsE)]) 0 (Tryz.f41.body.getD .skip) := by
 refine loopsOk_one (a := body Tryz.f41 0) (by kernel_rfl) fun d ex d' h => ?_
 unfold topsE at h
 dsimp only at h
 split at h
 ·rename_i ts fs l k i
  obtain ⟨hc, hx⟩ := need_some h
  rw [anE] at hc
  obtain ⟨hc, hz⟩ := hc
  obtain ⟨h0, h1, h2, h3, h4⟩ := of_decide_eq_true hc
  have h3 : l = ts := h3
  subst h3
  subst h2
  obtain ⟨i, rfl⟩ := Int.eq_ofNat_of_zero_le h0
  simp only [ntN] at h1 hx
  exact tops_loop l fs h4 hz (l.length - i) i (by omega) ex d' hx
 ·cases h
theorem itops : Contract Tryz.prog 41 (Ent.rd1 topsG).F := by
 refine fun_contract' (KnowsL.cons (enters_fn Tryz.func86 (by kernel_rfl) (by kernel_rfl)) igtop (KnowsL.cons (enters_fn Tryz.func87 (by kernel_rfl) (by kernel_rfl)) igsch (KnowsL.cons (enters_fn Tryz.func88 (by kernel_rfl) (by kernel_rfl)) within (KnowsL.cons (enters_fn Tryz.func89 (by kernel_rfl) (by kernel_rfl)) itopic KnowsL.nil)))).knows (Λ := (look [(2, topsE)])) Tryz.func41 (c := Tryz.f41.body.getD .skip) (by kernel_rfl) fun vs bs r hq hv hb => ?_
 unfold Ent.F topsG at hq
 dsimp only at hq
 split at hq
 ·rename_i ts fs
  obtain ⟨hc, hx⟩ := need_some hq
  rw [anE] at hc
  obtain ⟨hm0, hc⟩ := hc
  have hM : maxI = 9223372036854775807 := rfl
  have hm : ts.length ≤ maxI := by have := of_decide_eq_true hm0; omega
  refine ⟨tops_ok, (tops_tree ts fs).trans (Eq.trans ?_ hx)⟩
  try dsimp only [shr]
  show _ = some _
  rw [hc, ifT_true (show (decide ((0 : Int) ≤ 0 ∧ 0 ≤ ts.length ∧ (ts.length : Int) = ts.length ∧ eqT (List Tp) ts ts ∧ ts.length ≤ maxI) && true) = true by rw [Bool.and_true]; exact dcT ⟨by omega, by omega, rfl, rfl, hm⟩)]
  cases topsB ts 0 with
  | false => rfl
  | true =>
   by_cases q : ts.length ≤ 4
   ·rw [dcT q, dcT (by omega)]; rfl
   ·rw [dcF q, dcF (by omega)]; rfl
 ·cases hq

def cntAt (ts : List Tp) (x : List UInt8) : Int := match ts[(atT ts x).toNat]? with | some t => t.2.2.1 | none => 0
def ntI (ts : List Tp) (z : Rose Lab) (m : List (List UInt8 × Int)) (n : Nt) : Bool := decide (0 ≤ atT ts n.1) && (decide (IntKind.i64.wrap ((mget .str m n.1).getD 0 + 1) ≤ n.2.1 ∧ n.2.1 ≤ cntAt ts n.1) && valB z n.2.2.1)
def inbI (ts : List Tp) (z : Rose Lab) : List (List UInt8 × Int) → List Nt → Bool
 | _, [] => true
 | m, n :: l => ntI ts z m n && inbI ts z (mput .str m n.1 n.2.1) l
def ntsB (l : List Nt) : Bool := decide (l.length ≤ 4000000000) && l.all fun n => decide (n.2.2.1.length ≤ 4000000000)
def inbG : List V → List Blk → Br (V × List (Option Blk))
 | [.bx [.sl (.pair .str (.pair (.pair (.slice (.pair (.int .i64) (.pair .str (.pair (.int .i64) (.pair .bool (.pair (.int .i64) (.pair (.int .i64) .unit))))))) .unit) (.pair (.int .i64) .unit))) ts, .sl (.pair (.int .i64) (.pair .str (.pair (.pair (.slice (.pair (.int .i64) (.pair (.int .i64) (.pair (.int .i64) (.pair .str (.pair (.int .i64) (.pair (.int .i64) .unit))))))) .unit) (.pair (.pair (.slice (.pair (.int .i64) (.pair .str (.pair (.int .i64) (.pair .bool (.pair (.int .i64) (.pair (.int .i64) .unit))))))) .unit) (.pair (.slice (.pair .str (.pair (.int .i64) (.pair .str .unit)))) (.pair (.int .i64) .unit)))))) fs] 0, .sl (.pair .str (.pair (.int .i64) (.pair .str .unit))) l, .tp (.pair (.int .i64) (.pair .str (.pair (.int .i64) (.pair .bool (.pair (.int .i64) .unit))))) z 0], [] => .need (decide (goodR z = true) && ntsB l) (.leaf (.b (inbI ts z [] l && decide (l.length ≤ 10)), []))
 | _, _ => .no
def inbE : LoopEnt := ⟨63, [0,1,2,7,14,15,16], [1], [6], fun
 | ([.bx [.sl (.pair .str (.pair (.pair (.slice (.pair (.int .i64) (.pair .str (.pair (.int .i64) (.pair .bool (.pair (.int .i64) (.pair (.int .i64) .unit))))))) .unit) (.pair (.int .i64) .unit))) ts, .sl (.pair (.int .i64) (.pair .str (.pair (.pair (.slice (.pair (.int .i64) (.pair (.int .i64) (.pair (.int .i64) (.pair .str (.pair (.int .i64) (.pair (.int .i64) .unit))))))) .unit) (.pair (.pair (.slice (.pair (.int .i64) (.pair .str (.pair (.int .i64) (.pair .bool (.pair (.int .i64) (.pair (.int .i64) .unit))))))) .unit) (.pair (.slice (.pair .str (.pair (.int .i64) (.pair .str .unit)))) (.pair (.int .i64) .unit)))))) fs] 0, .sl (.pair .str (.pair (.int .i64) (.pair .str .unit))) q, .tp (.pair (.int .i64) (.pair .str (.pair (.int .i64) (.pair .bool (.pair (.int .i64) .unit))))) z 0, .mref 0, .sl (.pair .str (.pair (.int .i64) (.pair .str .unit))) l, .i .i64 k, .i .i64 i], [some (.mp .str (.int .i64) m)]) => .need (decide (0 ≤ i ∧ i.toNat ≤ l.length ∧ k = l.length ∧ goodR z = true) && ntsB l) (.br (inbI ts z m (l.drop i.toNat)) (.leaf (.exit 0, ([.sl (.pair .str (.pair (.int .i64) (.pair .str .unit))) q], []))) (.leaf (.ret, ([.b false], []))))
 | _ => .no⟩

abbrev Lqd2 : FuncId → Option Ent := look [(89, .rd1 topicG), (88, .rd1 withinG), (103, .rd1 validG)]
theorem inb_round (ts : List Tp) (fs : List Fa) (q : List Nt) (z : Rose Lab) (l : List Nt) (k i : Int) (m : List (List UInt8 × Int)) : roundK Tryz.prog Lqd2 (look [(3, inbE)]) 0 (body Tryz.f98 0) inbE ([.bx [.sl TPd ts, .sl FNd fs] 0, .sl NTd q, .tp LCd z 0, .mref 0, .sl NTd l, .j k, .j i], [some (.mp .str (.int .i64) m)]) =
 ((ifB (decide (i < k)) (ifT (decide ((0 : Int) ≤ i) && decide (i < (↑l.length : Int))) (ifSome l[i.toNat]? fun z_1 => ifB (decide (atT ts z_1.fst < (0 : Int))) (some
 (Ex.ret, [V.b false], [])) (ifT (decide ((0 : Int) ≤ atT ts z_1.fst) && decide (atT ts z_1.fst < (↑ts.length : Int))) (ifSome ts[(atT ts z_1.fst).toNat]? fun z_2 => ifB
 (!decide (IntKind.i64.wrap ((mget Cd.str m z_1.fst).getD (0 : Int) + (1 : Int)) ≤ z_1.snd.fst ∧ z_1.snd.fst ≤ z_2.snd.snd.fst)) (some (Ex.ret, [V.b false], [])) (ifT
 (decide (goodR z = true ∧ List.length z_1.snd.snd.fst ≤ (4000000000 : Nat))) (ifB (!valB z z_1.snd.snd.fst) (some (Ex.ret, [V.b false], [])) (some (Ex.normal, [V.bx [V.sl
 TPd ts, V.sl FNd fs] (0 : Nat), V.sl NTd q, V.tp LCd z (0 : Nat), V.mref (0 : Nat), V.sl NTd l, V.j k, V.j (IntKind.i64.wrap (i + (1 : Int)))], [some (Blk.mp
 Cd.str (Cd.int .i64) (mput Cd.str m z_1.fst z_1.snd.fst))])))))))) (some (Ex.exit 0, [V.sl NTd q], []))) : _) := by kernel_rfl
theorem inb_tree (ts : List Tp) (fs : List Fa) (l : List Nt) (z : Rose Lab) : funK Tryz.prog Lqd2 (look [(3, inbE)]) Tryz.f98 [.bx [.sl TPd ts, .sl FNd fs] 0, .sl NTd l, .tp LCd z 0] [] =
 ((ifT (decide ((0 : Int) ≤ (0 : Int) ∧ (0 : Nat) ≤ l.length ∧ (↑l.length : Int) = (↑l.length : Int) ∧ goodR z = true) && ntsB l) (ifB (inbI ts z (nilT (Cd.str.den × (Cd.int
 .i64).den)) (List.drop (0 : Nat) l)) (some (V.b (decide ((↑l.length : Int) ≤ (10 : Int))), [])) (some (V.b false, [])))) : _) := by kernel_rfl
theorem atT_lt (ts : List Tp) (x : List UInt8) : (atT ts x < 0) ∨ (0 ≤ atT ts x ∧ (atT ts x).toNat < ts.length ∧ atT ts x < ts.length) := by
 unfold atT
 rcases firstP_ge (fun t : Tp => t.1 == x) ts 0 with h | h
 ·left; rw [h.1]; decide
 ·right; omega
theorem inb_loop (ts : List Tp) (fs : List Fa) (q : List Nt) (z : Rose Lab) (hz : goodR z = true) (l : List Nt) (hl : l.length ≤ 4000000000) (hs : ∀ n ∈ l, n.2.2.1.length ≤ 4000000000) : ∀ (j i : Nat) (m : List (List UInt8 × Int)), i + j = l.length → ∀ ex d, (Br.br (inbI ts z m (l.drop i)) (.leaf (.exit 0, ([.sl NTd q], []))) (.leaf (.ret, ([.b false], []))) : Br (Ex × Dt)).run = some (ex, d) → Runs Tryz.prog Lqd2 (look [(3, inbE)]) 0 (body Tryz.f98 0) inbE ([.bx [.sl TPd ts, .sl FNd fs] 0, .sl NTd q, .tp LCd z 0, .mref 0, .sl NTd l, .j (l.length : Int), .j (i : Int)], [some (.mp .str (.int .i64) m)]) ex d
 | 0, i, m, hi, ex, d, h => by
  have hr := inb_round ts fs q z l l.length i m
  try dsimp only [shr] at hr
  rw [ifB_false (dcF (by omega))] at hr
  rw [List.drop_eq_nil_of_le (by omega), inbI] at h
  have h8 := leaf_some h
  obtain ⟨rfl, rfl⟩ := Prod.mk.inj h8
  exact .stop _ _ _ hr (by simp)
 | j + 1, i, m, hi, ex, d, h => by
  have hM : maxI = 9223372036854775807 := rfl
  have hlt : i < l.length := by omega
  have hr := inb_round ts fs q z l l.length i m
  try dsimp only [shr] at hr
  have hs1 := hs _ (List.getElem_mem hlt)
  rw [ifB_true (dcT (by omega)), ifT_true (by simp only [anE, dcE]; omega), ntN, gtE hlt, ifSome_s, wrap_succ (n := i) (by omega)] at hr
  rw [List.drop_eq_getElem_cons hlt, inbI] at h
  have bad : ∀ {w}, roundK Tryz.prog Lqd2 (look [(3, inbE)]) 0 (body Tryz.f98 0) inbE ([.bx [.sl TPd ts, .sl FNd fs] 0, .sl NTd q, .tp LCd z 0, .mref 0, .sl NTd l, .j (l.length : Int), .j (i : Int)], [some (.mp .str (.int .i64) m)]) = w → w = some ((.ret : Ex), (([.b false] : List V), ([] : List (Option Blk)))) → ntI ts z m l[i] = false → Runs Tryz.prog Lqd2 (look [(3, inbE)]) 0 (body Tryz.f98 0) inbE ([.bx [.sl TPd ts, .sl FNd fs] 0, .sl NTd q, .tp LCd z 0, .mref 0, .sl NTd l, .j (l.length : Int), .j (i : Int)], [some (.mp .str (.int .i64) m)]) ex d := fun e1 e2 e3 => by
   rw [e3, Bool.false_and] at h
   have h8 := leaf_some h
   obtain ⟨rfl, rfl⟩ := Prod.mk.inj h8
   exact .stop _ _ _ (e1.trans e2) (by simp)
  rcases atT_lt ts l[i].1 with h1 | ⟨h1, h2, h3⟩
  ·rw [ifB_true (dcT h1)] at hr
   exact bad hr rfl (by unfold ntI; rw [dcF (by omega)]; rfl)
  ·rw [ifB_false (dcF (by omega)), ifT_true (by simp only [anE, dcE]; exact ⟨h1, h3⟩), gtE h2, ifSome_s] at hr
   have ec : cntAt ts l[i].1 = ts[(atT ts l[i].1).toNat].2.2.1 := by unfold cntAt; rw [gtE h2]
   rw [← ec, ifT_true (dcT ⟨hz, hs1⟩)] at hr
   have e : ntI ts z m l[i] = (decide (IntKind.i64.wrap ((mget .str m l[i].1).getD 0 + 1) ≤ l[i].2.1 ∧ l[i].2.1 ≤ cntAt ts l[i].1) && valB z l[i].2.2.1) := by
    unfold ntI; rw [dcT h1, Bool.true_and]
   rw [e] at bad h
   generalize decide (IntKind.i64.wrap ((mget .str m l[i].1).getD 0 + 1) ≤ l[i].2.1 ∧ l[i].2.1 ≤ cntAt ts l[i].1) = c1 at hr bad h
   generalize valB z l[i].2.2.1 = c2 at hr bad h
   cases c1 with
   | false => exact bad hr rfl rfl
   | true =>
    cases c2 with
    | false => exact bad hr rfl rfl
    | true => exact .step _ _ _ _ hr (inb_loop ts fs q z hz l hl hs j (i + 1) _ (by omega) ex d h)
theorem ntsB_all {l : List Nt} (h : ntsB l = true) : l.length ≤ 4000000000 ∧ ∀ n ∈ l, n.2.2.1.length ≤ 4000000000 := by
 unfold ntsB at h
 rw [anE, dcE] at h
 exact ⟨h.1, fun n hn => of_decide_eq_true (List.all_eq_true.1 h.2 n hn)⟩
theorem inb_ok : LoopsOk Tryz.prog Lqd2 (look [(3, inbE)]) 0 (Tryz.f98.body.getD .skip) := by
 refine loopsOk_one (a := body Tryz.f98 0) (by kernel_rfl) fun d ex d' h => ?_
 unfold inbE at h
 dsimp only at h
 split at h
 ·rename_i ts fs q z l k i m
  obtain ⟨hc, hx⟩ := need_some h
  rw [anE] at hc
  obtain ⟨hc, hz⟩ := hc
  obtain ⟨h0, h1, h2, h3⟩ := of_decide_eq_true hc
  subst h2
  obtain ⟨i, rfl⟩ := Int.eq_ofNat_of_zero_le h0
  simp only [ntN] at h1 hx
  obtain ⟨a, b⟩ := ntsB_all hz
  exact inb_loop ts fs q z h3 l a b (l.length - i) i m (by omega) ex d' hx
 ·cases h
theorem iinb : Contract Tryz.prog 98 (Ent.rd1 inbG).F := by
 refine fun_contract' (KnowsL.cons (enters_fn Tryz.func89 (by kernel_rfl) (by kernel_rfl)) itopic (KnowsL.cons (enters_fn Tryz.func88 (by kernel_rfl) (by kernel_rfl)) within (KnowsL.cons (enters_fn Tryz.func103 (by kernel_rfl) (by kernel_rfl)) valid_con KnowsL.nil))).knows (Λ := (look [(3, inbE)])) Tryz.func98 (c := Tryz.f98.body.getD .skip) (by kernel_rfl) fun vs bs r hq hv hb => ?_
 unfold Ent.F inbG at hq
 dsimp only at hq
 split at hq
 ·rename_i ts fs l z
  obtain ⟨hc, hx⟩ := need_some hq
  rw [anE, dcE] at hc
  refine ⟨inb_ok, (inb_tree ts fs l z).trans (Eq.trans ?_ hx)⟩
  try dsimp only [shr]
  show _ = some _
  rw [hc.2, ifT_true (show (decide ((0 : Int) ≤ 0 ∧ 0 ≤ l.length ∧ (l.length : Int) = l.length ∧ goodR z = true) && true) = true by rw [Bool.and_true]; exact dcT ⟨by omega, by omega, rfl, hc.1⟩)]
  dsimp only [nilT, List.drop]
  cases inbI ts z [] l with
  | false => rfl
  | true =>
   by_cases q : l.length ≤ 10
   ·rw [dcT q, dcT (by omega)]; rfl
   ·rw [dcF q, dcF (by omega)]; rfl
 ·cases hq

def ltB (nt : List UInt8) (no : Int) (o : Nt) : Bool := !(o.1 == nt && decide (o.2.1 ≥ no))
def ntS (ts : List Tp) (v : List Ty) (b : List Nt) (i : Nat) : Bool := match b[i]? with
 | some n => decide (0 ≤ atT ts n.1) && (decide (1 ≤ n.2.1 ∧ n.2.1 ≤ cntAt ts n.1) && (isvB v n.2.2.1 && (b.take i).all (ltB n.1 n.2.1)))
 | none => true
def insB (ts : List Tp) (v : List Ty) (b : List Nt) (i : Nat) : Bool := ((List.range b.length).drop i).all (ntS ts v b)
def insG : List V → List Blk → Br (V × List (Option Blk))
 | [.agg [.sl (.pair .str (.pair (.pair (.slice (.pair (.int .i64) (.pair .str (.pair (.int .i64) (.pair .bool (.pair (.int .i64) (.pair (.int .i64) .unit))))))) .unit) (.pair (.int .i64) .unit))) ts, .sl (.pair (.int .i64) (.pair .str (.pair (.pair (.slice (.pair (.int .i64) (.pair (.int .i64) (.pair (.int .i64) (.pair .str (.pair (.int .i64) (.pair (.int .i64) .unit))))))) .unit) (.pair (.pair (.slice (.pair (.int .i64) (.pair .str (.pair (.int .i64) (.pair .bool (.pair (.int .i64) (.pair (.int .i64) .unit))))))) .unit) (.pair (.slice (.pair .str (.pair (.int .i64) (.pair .str .unit)))) (.pair (.int .i64) .unit)))))) fs], .agg [.i .i64 w, .s p, .sl (.pair (.int .i64) (.pair (.int .i64) (.pair (.int .i64) (.pair .str (.pair (.int .i64) (.pair (.int .i64) .unit)))))) ws, .sl (.pair (.int .i64) (.pair .str (.pair (.int .i64) (.pair .bool (.pair (.int .i64) (.pair (.int .i64) .unit)))))) v, .sl (.pair .str (.pair (.int .i64) (.pair .str .unit))) b, .i .i64 t]], [] => .need (decide (v.length ≤ 4000000000) && (nmL v && ntsB b)) (.leaf (.b (insB ts v b 0 && decide (b.length ≤ 10)), []))
 | _, _ => .no
def insE : LoopEnt := ⟨79, [2,3,13,14,15], [3], [4], fun
 | ([.ptr 0 0, .ptr 1 0, .sl (.pair .str (.pair (.int .i64) (.pair .str .unit))) l, .i .i64 k, .i .i64 i], [bb, bf]) => (match bb with
  | some (.box [.sl (.pair .str (.pair (.pair (.slice (.pair (.int .i64) (.pair .str (.pair (.int .i64) (.pair .bool (.pair (.int .i64) (.pair (.int .i64) .unit))))))) .unit) (.pair (.int .i64) .unit))) ts, .sl (.pair (.int .i64) (.pair .str (.pair (.pair (.slice (.pair (.int .i64) (.pair (.int .i64) (.pair (.int .i64) (.pair .str (.pair (.int .i64) (.pair (.int .i64) .unit))))))) .unit) (.pair (.pair (.slice (.pair (.int .i64) (.pair .str (.pair (.int .i64) (.pair .bool (.pair (.int .i64) (.pair (.int .i64) .unit))))))) .unit) (.pair (.slice (.pair .str (.pair (.int .i64) (.pair .str .unit)))) (.pair (.int .i64) .unit)))))) fs]) => (match bf with
   | some (.box [.i .i64 w, .s p, .sl (.pair (.int .i64) (.pair (.int .i64) (.pair (.int .i64) (.pair .str (.pair (.int .i64) (.pair (.int .i64) .unit)))))) ws, .sl (.pair (.int .i64) (.pair .str (.pair (.int .i64) (.pair .bool (.pair (.int .i64) (.pair (.int .i64) .unit)))))) v, .sl (.pair .str (.pair (.int .i64) (.pair .str .unit))) b, .i .i64 t]) => .need (decide (0 ≤ i ∧ i.toNat ≤ l.length ∧ k = l.length ∧ eqT (List Nt) l b) && (decide (v.length ≤ 4000000000) && (nmL v && ntsB b))) (.br (insB ts v b i.toNat) (.leaf (.exit 0, ([.ptr 0 0], [some (.box [.i .i64 w, .s p, .sl (.pair (.int .i64) (.pair (.int .i64) (.pair (.int .i64) (.pair .str (.pair (.int .i64) (.pair (.int .i64) .unit)))))) ws, .sl (.pair (.int .i64) (.pair .str (.pair (.int .i64) (.pair .bool (.pair (.int .i64) (.pair (.int .i64) .unit)))))) v, .sl (.pair .str (.pair (.int .i64) (.pair .str .unit))) b, .i .i64 t])]))) (.leaf (.ret, ([.b false], []))))
   | _ => .no)
  | _ => .no)
 | _ => .no⟩
def in2E : LoopEnt := ⟨79, [2,3,6,13,14,15,55,56,57], [2,3,13,14,15], [4], fun
 | ([.ptr 0 0, .ptr 1 0, .ptr 2 0, .sl (.pair .str (.pair (.int .i64) (.pair .str .unit))) l, .i .i64 k0, .i .i64 i0, .sl (.pair .str (.pair (.int .i64) (.pair .str .unit))) q, .i .i64 k, .i .i64 i], [bb, bf, bn]) => (match bb with
  | some (.box [.sl (.pair .str (.pair (.pair (.slice (.pair (.int .i64) (.pair .str (.pair (.int .i64) (.pair .bool (.pair (.int .i64) (.pair (.int .i64) .unit))))))) .unit) (.pair (.int .i64) .unit))) ts, .sl (.pair (.int .i64) (.pair .str (.pair (.pair (.slice (.pair (.int .i64) (.pair (.int .i64) (.pair (.int .i64) (.pair .str (.pair (.int .i64) (.pair (.int .i64) .unit))))))) .unit) (.pair (.pair (.slice (.pair (.int .i64) (.pair .str (.pair (.int .i64) (.pair .bool (.pair (.int .i64) (.pair (.int .i64) .unit))))))) .unit) (.pair (.slice (.pair .str (.pair (.int .i64) (.pair .str .unit)))) (.pair (.int .i64) .unit)))))) fs]) => (match bf with
   | some (.box [.i .i64 w, .s p, .sl (.pair (.int .i64) (.pair (.int .i64) (.pair (.int .i64) (.pair .str (.pair (.int .i64) (.pair (.int .i64) .unit)))))) ws, .sl (.pair (.int .i64) (.pair .str (.pair (.int .i64) (.pair .bool (.pair (.int .i64) (.pair (.int .i64) .unit)))))) v, .sl (.pair .str (.pair (.int .i64) (.pair .str .unit))) b, .i .i64 t]) => (match bn with
    | some (.box [.s nt, .i .i64 no, .s by_]) => .need (decide (0 ≤ i ∧ i.toNat ≤ q.length ∧ k = q.length ∧ q.length ≤ maxI)) (.br ((q.drop i.toNat).all (ltB nt no)) (.leaf (.exit 2, ([.ptr 0 0, .ptr 1 0, .sl (.pair .str (.pair (.int .i64) (.pair .str .unit))) l, .i .i64 k0, .i .i64 i0], [some (.box [.sl (.pair .str (.pair (.pair (.slice (.pair (.int .i64) (.pair .str (.pair (.int .i64) (.pair .bool (.pair (.int .i64) (.pair (.int .i64) .unit))))))) .unit) (.pair (.int .i64) .unit))) ts, .sl (.pair (.int .i64) (.pair .str (.pair (.pair (.slice (.pair (.int .i64) (.pair (.int .i64) (.pair (.int .i64) (.pair .str (.pair (.int .i64) (.pair (.int .i64) .unit))))))) .unit) (.pair (.pair (.slice (.pair (.int .i64) (.pair .str (.pair (.int .i64) (.pair .bool (.pair (.int .i64) (.pair (.int .i64) .unit))))))) .unit) (.pair (.slice (.pair .str (.pair (.int .i64) (.pair .str .unit)))) (.pair (.int .i64) .unit)))))) fs]), some (.box [.i .i64 w, .s p, .sl (.pair (.int .i64) (.pair (.int .i64) (.pair (.int .i64) (.pair .str (.pair (.int .i64) (.pair (.int .i64) .unit)))))) ws, .sl (.pair (.int .i64) (.pair .str (.pair (.int .i64) (.pair .bool (.pair (.int .i64) (.pair (.int .i64) .unit)))))) v, .sl (.pair .str (.pair (.int .i64) (.pair .str .unit))) b, .i .i64 t])]))) (.leaf (.ret, ([.b false], []))))
    | _ => .no)
   | _ => .no)
  | _ => .no)
 | _ => .no⟩

abbrev Lqd3 : FuncId → Option Ent := look [(38, .rd1 satG), (78, .rd1 withinG), (99, .rd1 isvG)]
theorem ins_round (ts : List Tp) (fs : List Fa) (w : Int) (p : List UInt8) (ws : List Wt) (v : List Ty) (b : List Nt) (t : Int) (l : List Nt) (k i : Int) : roundK Tryz.prog Lqd3 (look [(2, insE), (11, in2E)]) 0 (body Tryz.f84 0) insE ([.ptr 0 0, .ptr 1 0, .sl NTd l, .j k, .j i], [some (.box [.sl TPd ts, .sl FNd fs]), some (.box [.j w, .s p, .sl WCd ws, .sl TCd v, .sl NTd b, .j t])]) =
 ((ifB (decide (i < k)) (ifT (decide ((0 : Int) ≤ i) && decide (i < (↑l.length : Int))) (ifSome l[i.toNat]? fun z => ifB (decide (atT ts z.fst < (0 : Int))) (some (Ex.ret,
 [V.b false], [])) (ifT (decide ((0 : Int) ≤ atT ts z.fst) && decide (atT ts z.fst < (↑ts.length : Int))) (ifSome ts[(atT ts z.fst).toNat]? fun z_1 => ifB (!decide ((1 :
 Int) ≤ z.snd.fst ∧ z.snd.fst ≤ z_1.snd.snd.fst)) (some (Ex.ret, [V.b false], [])) (ifT (decide (v.length ≤ (4000000000 : Nat)) && nmL v) (ifB (!isvB v z.snd.snd.fst)
 (some (Ex.ret, [V.b false], [])) (ifB (!isvK v z.snd.snd.fst) (some (Ex.ret, [V.b false], [])) (ifT (decide ((0 : Int) ≤ i) && decide (i ≤ (↑b.length : Int))) (ifT
 (decide ((0 : Int) ≤ (0 : Int) ∧ (0 : Nat) ≤ (List.take (i.toNat - (0 : Nat)) (List.drop (0 : Nat) b)).length ∧ (↑(List.take (i.toNat - (0 : Nat)) (List.drop (0 : Nat)
 b)).length : Int) = (↑(List.take (i.toNat - (0 : Nat)) (List.drop (0 : Nat) b)).length : Int) ∧ (List.take (i.toNat - (0 : Nat)) (List.drop (0 : Nat) b)).length ≤ maxI))
 (ifB ((List.drop (0 : Nat) (List.take (i.toNat - (0 : Nat)) (List.drop (0 : Nat) b))).all (ltB z.fst z.snd.fst)) (some (Ex.normal, [V.ptr 0 0, V.ptr 1 0, V.sl NTd l, V.i
 .i64 k, V.j (IntKind.i64.wrap (i + (1 : Int)))], [some (Blk.box [V.sl TPd ts, V.sl FNd fs]), some (Blk.box [V.j w, V.s p, V.sl WCd ws, V.sl TCd v, V.sl NTd b,
 V.j t])])) (some (Ex.ret, [V.b false], [])))))))))))) (some (Ex.exit 0, [V.ptr 0 0], [some (Blk.box [V.j w, V.s p, V.sl WCd ws, V.sl TCd v, V.sl NTd b, V.i .i64
 t])]))) : _) := by kernel_rfl
theorem in2_round (ts : List Tp) (fs : List Fa) (w : Int) (p : List UInt8) (ws : List Wt) (v : List Ty) (b : List Nt) (t : Int) (l : List Nt) (k0 i0 : Int) (q : List Nt) (nt : List UInt8) (no : Int) (by_ : List UInt8) (k i : Int) : roundK Tryz.prog Lqd3 (look [(2, insE), (11, in2E)]) 0 (body Tryz.f84 1) in2E ([.ptr 0 0, .ptr 1 0, .ptr 2 0, .sl NTd l, .j k0, .j i0, .sl NTd q, .j k, .j i], [some (.box [.sl TPd ts, .sl FNd fs]), some (.box [.j w, .s p, .sl WCd ws, .sl TCd v, .sl NTd b, .j t]), some (.box [.s nt, .j no, .s by_])]) =
 ((ifB (decide (i < k)) (ifT (decide ((0 : Int) ≤ i) && decide (i < (↑q.length : Int))) (ifSome q[i.toNat]? fun z => ifB (z.fst == nt) (ifB (decide (z.snd.fst ≥ no)) (some
 (Ex.ret, [V.b false], [])) (some (Ex.normal, [V.ptr 0 0, V.ptr 1 0, V.ptr 2 0, V.sl NTd l, V.j k0, V.j i0, V.sl NTd q, V.j k, V.j (IntKind.i64.wrap (i
 + (1 : Int)))], [some (Blk.box [V.sl TPd ts, V.sl FNd fs]), some (Blk.box [V.j w, V.s p, V.sl WCd ws, V.sl TCd v, V.sl NTd b, V.j t]), some (Blk.box [V.s nt,
 V.j no, V.s by_])]))) (some (Ex.normal, [V.ptr 0 0, V.ptr 1 0, V.ptr 2 0, V.sl NTd l, V.j k0, V.j i0, V.sl NTd q, V.j k, V.j (IntKind.i64.wrap (i
 + (1 : Int)))], [some (Blk.box [V.sl TPd ts, V.sl FNd fs]), some (Blk.box [V.j w, V.s p, V.sl WCd ws, V.sl TCd v, V.sl NTd b, V.j t]), some (Blk.box [V.s nt,
 V.j no, V.s by_])])))) (some (Ex.exit 2, [V.ptr 0 0, V.ptr 1 0, V.sl NTd l, V.j k0, V.j i0], [some (Blk.box [V.sl TPd ts, V.sl FNd fs]), some (Blk.box [V.i
 .i64 w, V.s p, V.sl WCd ws, V.sl TCd v, V.sl NTd b, V.j t])]))) : _) := by kernel_rfl
theorem ins_tree (ts : List Tp) (fs : List Fa) (w : Int) (p : List UInt8) (ws : List Wt) (v : List Ty) (b : List Nt) (t : Int) : funK Tryz.prog Lqd3 (look [(2, insE), (11, in2E)]) Tryz.f84 [.agg [.sl TPd ts, .sl FNd fs], .agg [.j w, .s p, .sl WCd ws, .sl TCd v, .sl NTd b, .j t]] [] =
 ((ifT (decide ((0 : Int) ≤ (0 : Int) ∧ (0 : Nat) ≤ b.length ∧ (↑b.length : Int) = (↑b.length : Int) ∧ eqT (List Nt) b b) && (decide (v.length ≤ (4000000000 : Nat)) && (nmL v
 && ntsB b))) (ifB (insB ts v b (0 : Nat)) (some (V.b (decide ((↑b.length : Int) ≤ (10 : Int))), [])) (some (V.b false, [])))) : _) := by kernel_rfl
theorem ins1_loop (ts : List Tp) (fs : List Fa) (w : Int) (p : List UInt8) (ws : List Wt) (v : List Ty) (l : List Nt) (t : Int) (hv : decide (v.length ≤ 4000000000) = true) (hn : nmL v = true) (hl : l.length ≤ 4000000000) (i : Nat) (h1 : i ≤ l.length) (ex : Ex) (d' : Dt)
  (hx : (Br.br (insB ts v l i) (.leaf (.exit 0, ([.ptr 0 0], [some (.box [.j w, .s p, .sl WCd ws, .sl TCd v, .sl NTd l, .j t])]))) (.leaf (.ret, ([.b false], []))) : Br (Ex × Dt)).run = some (ex, d')) : Runs Tryz.prog Lqd3 (look [(2, insE), (11, in2E)]) 0 (body Tryz.f84 0) insE ([.ptr 0 0, .ptr 1 0, .sl NTd l, .j (l.length : Int), .j (i : Int)], [some (.box [.sl TPd ts, .sl FNd fs]), some (.box [.j w, .s p, .sl WCd ws, .sl TCd v, .sl NTd l, .j t])]) ex d' := by
 have hM : maxI = 9223372036854775807 := rfl
 refine runs_all (l := List.range l.length) (ntS ts v l) (fun i => ([.ptr 0 0, .ptr 1 0, .sl NTd l, .j (l.length : Int), .j (i : Int)], [some (.box [.sl TPd ts, .sl FNd fs]), some (.box [.j w, .s p, .sl WCd ws, .sl TCd v, .sl NTd l, .j t])])) (ex := (.exit 0, ([.ptr 0 0], [some (.box [.j w, .s p, .sl WCd ws, .sl TCd v, .sl NTd l, .j t])]))) (rt := (.ret, ([.b false], []))) (by simp) (by simp) (fun n hn' => ?_) ?_ (l.length - i) i (by simp; omega) ex d' hx
 ·have hlt : n < l.length := by simpa using hn'
  have hr := ins_round ts fs w p ws v l t l l.length n
  try dsimp only [shr] at hr
  rw [ifB_true (dcT (by omega)), ifT_true (by simp only [anE, dcE]; omega), ntN, gtE hlt, ifSome_s, wrap_succ (n := n) (by omega), hv, hn] at hr
  refine hr.trans ?_
  clear hr
  rw [List.getElem_range]
  have e : ntS ts v l n = (decide (0 ≤ atT ts l[n].1) && (decide (1 ≤ l[n].2.1 ∧ l[n].2.1 ≤ cntAt ts l[n].1) && (isvB v l[n].2.2.1 && (l.take n).all (ltB l[n].1 l[n].2.1)))) := by
   unfold ntS
   rw [gtE hlt]
  rw [e]
  rcases atT_lt ts l[n].1 with h1 | ⟨h1, h2, h3⟩
  ·rw [ifB_true (dcT h1), dcF (by omega)]
   rfl
  ·have ec : cntAt ts l[n].1 = ts[(atT ts l[n].1).toNat].2.2.1 := by unfold cntAt; rw [gtE h2]
   rw [ifB_false (dcF (by omega)), ifT_true (by simp only [anE, dcE]; exact ⟨h1, h3⟩), gtE h2, ifSome_s, ← ec, dcT h1, Bool.true_and, Nat.sub_zero, List.drop_zero, List.drop_zero]
   have hk : isvB v l[n].2.2.1 = true → isvK v l[n].2.2.1 = true := fun h => by unfold isvB at h; exact ((anE _ _).mp h).1
   generalize decide (1 ≤ l[n].2.1 ∧ l[n].2.1 ≤ cntAt ts l[n].1) = c1
   cases c1 with
   | false => rfl
   | true =>
    cases hq : isvB v l[n].2.2.1 with
    | false => rfl
    | true =>
     have ht : (l.take n).length ≤ maxI := by simp; omega
     rw [hk hq, ifT_true (show (decide (0 ≤ (n : Int)) && decide ((n : Int) ≤ (l.length : Int))) = true by simp only [anE, dcE]; omega), ifT_true (dcT ⟨by omega, by omega, rfl, ht⟩)]
     cases (l.take n).all (ltB l[n].1 l[n].2.1) <;> rfl
 ·have hr := ins_round ts fs w p ws v l t l l.length l.length
  try dsimp only [shr] at hr
  rw [ifB_false (dcF (by omega))] at hr
  simp only [List.length_range]
  exact hr
theorem ins2_loop (ts : List Tp) (fs : List Fa) (w : Int) (p : List UInt8) (ws : List Wt) (v : List Ty) (b : List Nt) (t : Int) (l : List Nt) (k0 i0 : Int) (q : List Nt) (nt : List UInt8) (no : Int) (by_ : List UInt8) (h3 : q.length ≤ maxI) (i : Nat) (h1 : i ≤ q.length) (ex : Ex) (d' : Dt)
  (hx : (Br.br ((q.drop i).all (ltB nt no)) (.leaf (.exit 2, ([.ptr 0 0, .ptr 1 0, .sl NTd l, .j k0, .j i0], [some (.box [.sl TPd ts, .sl FNd fs]), some (.box [.j w, .s p, .sl WCd ws, .sl TCd v, .sl NTd b, .j t])]))) (.leaf (.ret, ([.b false], []))) : Br (Ex × Dt)).run = some (ex, d')) : Runs Tryz.prog Lqd3 (look [(2, insE), (11, in2E)]) 0 (body Tryz.f84 1) in2E ([.ptr 0 0, .ptr 1 0, .ptr 2 0, .sl NTd l, .j k0, .j i0, .sl NTd q, .j (q.length : Int), .j (i : Int)], [some (.box [.sl TPd ts, .sl FNd fs]), some (.box [.j w, .s p, .sl WCd ws, .sl TCd v, .sl NTd b, .j t]), some (.box [.s nt, .j no, .s by_])]) ex d' := by
 have hM : maxI = 9223372036854775807 := rfl
 refine runs_all (l := q) (ltB nt no) (fun i => ([.ptr 0 0, .ptr 1 0, .ptr 2 0, .sl NTd l, .j k0, .j i0, .sl NTd q, .j (q.length : Int), .j (i : Int)], [some (.box [.sl TPd ts, .sl FNd fs]), some (.box [.j w, .s p, .sl WCd ws, .sl TCd v, .sl NTd b, .j t]), some (.box [.s nt, .j no, .s by_])])) (ex := (.exit 2, ([.ptr 0 0, .ptr 1 0, .sl NTd l, .j k0, .j i0], [some (.box [.sl TPd ts, .sl FNd fs]), some (.box [.j w, .s p, .sl WCd ws, .sl TCd v, .sl NTd b, .j t])]))) (rt := (.ret, ([.b false], []))) (by simp) (by simp) (fun n hlt => ?_) ?_ (q.length - i) i (by omega) ex d' hx
 ·have hr := in2_round ts fs w p ws v b t l k0 i0 q nt no by_ q.length n
  try dsimp only [shr] at hr
  rw [ifB_true (dcT (by omega)), ifT_true (by simp only [anE, dcE]; omega), ntN, gtE hlt, ifSome_s, wrap_succ (n := n) (by omega)] at hr
  refine hr.trans ?_
  unfold ltB
  cases q[n].1 == nt <;> cases decide (q[n].2.1 ≥ no) <;> rfl
 ·have hr := in2_round ts fs w p ws v b t l k0 i0 q nt no by_ q.length q.length
  try dsimp only [shr] at hr
  rw [ifB_false (dcF (by omega))] at hr
  exact hr
theorem ins_ok : LoopsOk Tryz.prog Lqd3 (look [(2, insE), (11, in2E)]) 0 (Tryz.f84.body.getD .skip) := by
 refine LoopsI.loops (cs := [body Tryz.f84 0, body Tryz.f84 1]) ?_ (by kernel_rfl)
 refine .cons (ent := insE) (by rfl) (fun d ex d' h => ?_) (.cons (ent := in2E) (by rfl) (fun d ex d' h => ?_) .nil)
 ·unfold insE at h
  dsimp only at h
  split at h
  ·rename_i l k i bb bf
   split at h
   ·rename_i ts fs
    split at h
    ·rename_i w p ws v b t
     obtain ⟨hc, hx⟩ := need_some h
     clear h
     rw [anE, anE, anE] at hc
     obtain ⟨hc, hv, hn, hb⟩ := hc
     obtain ⟨h0, h1, h2, h3⟩ := of_decide_eq_true hc
     have h3 : l = b := h3
     subst h3
     subst h2
     obtain ⟨i, rfl⟩ := Int.eq_ofNat_of_zero_le h0
     simp only [ntN] at h1 hx
     exact ins1_loop ts fs w p ws v l t hv hn (ntsB_all hb).1 i h1 ex d' hx
    ·cases h
   ·cases h
  ·cases h
 ·unfold in2E at h
  dsimp only at h
  split at h
  ·rename_i l k0 i0 q k i bb bf bn
   split at h
   ·rename_i ts fs
    split at h
    ·rename_i w p ws v b t
     split at h
     ·rename_i nt no by_
      obtain ⟨hc, hx⟩ := need_some h
      clear h
      obtain ⟨h0, h1, h2, h3⟩ := of_decide_eq_true hc
      subst h2
      obtain ⟨i, rfl⟩ := Int.eq_ofNat_of_zero_le h0
      simp only [ntN] at h1 hx
      exact ins2_loop ts fs w p ws v b t l k0 i0 q nt no by_ h3 i h1 ex d' hx
     ·cases h
    ·cases h
   ·cases h
  ·cases h
theorem sins17 : Contract Tryz.prog 84 (Ent.rd1 insG).F := by
 refine fun_contract' (KnowsL.cons (enters_fn Tryz.func38 (by kernel_rfl) (by kernel_rfl)) sat (KnowsL.cons (enters_fn Tryz.func78 (by kernel_rfl) (by kernel_rfl)) l1In (KnowsL.cons (enters_fn Tryz.func99 (by kernel_rfl) (by kernel_rfl)) sisv KnowsL.nil))).knows (Λ := (look [(2, insE), (11, in2E)])) Tryz.func84 (c := Tryz.f84.body.getD .skip) (by kernel_rfl) fun vs bs r hq hv hb => ?_
 unfold Ent.F insG at hq
 dsimp only at hq
 split at hq
 ·rename_i ts fs w p ws v b t
  obtain ⟨hc, hx⟩ := need_some hq
  refine ⟨ins_ok, (ins_tree ts fs w p ws v b t).trans (Eq.trans ?_ hx)⟩
  try dsimp only [shr]
  show _ = some _
  rw [hc, ifT_true (show (decide ((0 : Int) ≤ 0 ∧ 0 ≤ b.length ∧ (b.length : Int) = b.length ∧ eqT (List Nt) b b) && true) = true by rw [Bool.and_true]; exact dcT ⟨by omega, by omega, rfl, rfl⟩)]
  cases insB ts v b 0 with
  | false => rfl
  | true =>
   by_cases q : b.length ≤ 10
   ·rw [dcT q, dcT (by omega)]; rfl
   ·rw [dcF q, dcF (by omega)]; rfl
 ·cases hq

theorem tp_no35 {l : List (List UInt8)} (h : tpB l = true) : ∀ y ∈ l, y ≠ [35] := by
 rw [tpB_eq, anE, List.all_eq_true] at h
 intro y hy e
 have := h.1 y hy
 rw [e, lev35] at this
 cases this
theorem tkS_fit : ∀ (p t : List (List UInt8)), (∀ y ∈ t, y ≠ [35]) → tkS fitL p t = tkS inL p t
 | [], _, _ => rfl
 | x :: p, [], _ => rfl
 | x :: p, y :: t, h => by
  have hy : (y == [35]) = false := beq_false_of_ne (h y (by simp))
  have e : fitL x y = inL x y := by unfold fitL inL; rw [hy]; simp [Bool.or_comm]
  rw [tkS_cons, tkS_cons]
  dsimp only
  rw [e, tkS_fit p t (fun z hz => h z (by simp [hz]))]
theorem tk_fit {p t : List (List UInt8)} (h : tpB t = true) : tk fitL p t = tk inL p t := by
 unfold tk; rw [tkS_fit p t (tp_no35 h)]
theorem tp_lv {l : List (List UInt8)} (h : tpB l = true) : lvB l = true := by
 unfold tpB at h; exact (anE _ _ ▸ h).1
def viewB (p : List UInt8) (z : Rose Lab) (t : Tp) : Bool := !(tk inL (cut 47 p) (cut 47 t.1) && !subR z (t2L t.2.1.1 0))
def tssB (ts : List Tp) : Bool := decide (ts.length ≤ 4000000000) && (ts.all szTB && ts.all tOK)
def fanI (ts : List Tp) (w : Int) (p : List UInt8) (ws : List Wt) (v : List Ty) (b : List Nt) (t : Int) : Bool := decide (0 ≤ w ∧ w ≤ 100) && (lvB (cut 47 p) && (goodFB ws && (kindB v && (decide (0 ≤ t ∧ t ≤ 100000) && (ts.all (viewB p (t2L v 0)) && (inbI ts (t2L v 0) [] b && decide (b.length ≤ 10)))))))
def fanNd (ts : List Tp) (p : List UInt8) (v : List Ty) (b : List Nt) : Bool := tssB ts && (decide (p.length ≤ 4000000000 ∧ v.length ≤ 4000000000) && (nmL v && ntsB b))
def fanOG : List V → List Blk → Br (V × List (Option Blk))
 | [.bx [.sl (.pair .str (.pair (.pair (.slice (.pair (.int .i64) (.pair .str (.pair (.int .i64) (.pair .bool (.pair (.int .i64) (.pair (.int .i64) .unit))))))) .unit) (.pair (.int .i64) .unit))) ts, .sl (.pair (.int .i64) (.pair .str (.pair (.pair (.slice (.pair (.int .i64) (.pair (.int .i64) (.pair (.int .i64) (.pair .str (.pair (.int .i64) (.pair (.int .i64) .unit))))))) .unit) (.pair (.pair (.slice (.pair (.int .i64) (.pair .str (.pair (.int .i64) (.pair .bool (.pair (.int .i64) (.pair (.int .i64) .unit))))))) .unit) (.pair (.slice (.pair .str (.pair (.int .i64) (.pair .str .unit)))) (.pair (.int .i64) .unit)))))) fs] 0, .agg [.i .i64 w, .s p, .sl (.pair (.int .i64) (.pair (.int .i64) (.pair (.int .i64) (.pair .str (.pair (.int .i64) (.pair (.int .i64) .unit)))))) ws, .sl (.pair (.int .i64) (.pair .str (.pair (.int .i64) (.pair .bool (.pair (.int .i64) (.pair (.int .i64) .unit)))))) v, .sl (.pair .str (.pair (.int .i64) (.pair .str .unit))) b, .i .i64 t]], [] => .need (fanNd ts p v b) (.leaf (.b (fanI ts w p ws v b t), []))
 | _, _ => .no
def fnE : LoopEnt := ⟨67, [0,3,5,40,41,42], [0,3,5], [4], fun
 | ([.bx [.sl (.pair .str (.pair (.pair (.slice (.pair (.int .i64) (.pair .str (.pair (.int .i64) (.pair .bool (.pair (.int .i64) (.pair (.int .i64) .unit))))))) .unit) (.pair (.int .i64) .unit))) ts, .sl (.pair (.int .i64) (.pair .str (.pair (.pair (.slice (.pair (.int .i64) (.pair (.int .i64) (.pair (.int .i64) (.pair .str (.pair (.int .i64) (.pair (.int .i64) .unit))))))) .unit) (.pair (.pair (.slice (.pair (.int .i64) (.pair .str (.pair (.int .i64) (.pair .bool (.pair (.int .i64) (.pair (.int .i64) .unit))))))) .unit) (.pair (.slice (.pair .str (.pair (.int .i64) (.pair .str .unit)))) (.pair (.int .i64) .unit)))))) fs] 0, .ptr 0 0, .ptr 1 0, .sl (.pair .str (.pair (.pair (.slice (.pair (.int .i64) (.pair .str (.pair (.int .i64) (.pair .bool (.pair (.int .i64) (.pair (.int .i64) .unit))))))) .unit) (.pair (.int .i64) .unit))) l, .i .i64 k, .i .i64 i], [bf, bk, br]) => (match bf with
  | some (.box [.i .i64 w, .s p, .sl (.pair (.int .i64) (.pair (.int .i64) (.pair (.int .i64) (.pair .str (.pair (.int .i64) (.pair (.int .i64) .unit)))))) ws, .sl (.pair (.int .i64) (.pair .str (.pair (.int .i64) (.pair .bool (.pair (.int .i64) (.pair (.int .i64) .unit)))))) v, .sl (.pair .str (.pair (.int .i64) (.pair .str .unit))) b, .i .i64 t]) => (match bk with
   | some (.box [.i .i64 x0, .s x1, .i .i64 x2, .b x3, .i .i64 x4, .ref 2 0 n]) => (match br with
    | some (.row false none (.tree (.pair (.int .i64) (.pair .str (.pair (.int .i64) (.pair .bool (.pair (.int .i64) .unit)))))) ks) => .need (decide (n = ks.length) && (decide (0 ≤ i ∧ i.toNat ≤ l.length ∧ k = l.length ∧ eqT (List Tp) l ts ∧ goodR (.node (x0, x1, x2, x3, x4, ()) ks : Rose Lab) = true ∧ lvB (cut 47 p) = true ∧ p.length ≤ 4000000000) && tssB l)) (.br ((l.drop i.toNat).all (viewB p (.node (x0, x1, x2, x3, x4, ()) ks : Rose Lab))) (.leaf (.exit 0, ([.bx [.sl (.pair .str (.pair (.pair (.slice (.pair (.int .i64) (.pair .str (.pair (.int .i64) (.pair .bool (.pair (.int .i64) (.pair (.int .i64) .unit))))))) .unit) (.pair (.int .i64) .unit))) ts, .sl (.pair (.int .i64) (.pair .str (.pair (.pair (.slice (.pair (.int .i64) (.pair (.int .i64) (.pair (.int .i64) (.pair .str (.pair (.int .i64) (.pair (.int .i64) .unit))))))) .unit) (.pair (.pair (.slice (.pair (.int .i64) (.pair .str (.pair (.int .i64) (.pair .bool (.pair (.int .i64) (.pair (.int .i64) .unit))))))) .unit) (.pair (.slice (.pair .str (.pair (.int .i64) (.pair .str .unit)))) (.pair (.int .i64) .unit)))))) fs] 0, .ptr 0 0, .ptr 1 0], [some (.box [.i .i64 w, .s p, .sl (.pair (.int .i64) (.pair (.int .i64) (.pair (.int .i64) (.pair .str (.pair (.int .i64) (.pair (.int .i64) .unit)))))) ws, .sl (.pair (.int .i64) (.pair .str (.pair (.int .i64) (.pair .bool (.pair (.int .i64) (.pair (.int .i64) .unit)))))) v, .sl (.pair .str (.pair (.int .i64) (.pair .str .unit))) b, .i .i64 t]), some (.box [.i .i64 (.node (x0, x1, x2, x3, x4, ()) ks : Rose Lab).lab.1, .s (.node (x0, x1, x2, x3, x4, ()) ks : Rose Lab).lab.2.1, .i .i64 (.node (x0, x1, x2, x3, x4, ()) ks : Rose Lab).lab.2.2.1, .b (.node (x0, x1, x2, x3, x4, ()) ks : Rose Lab).lab.2.2.2.1, .i .i64 (.node (x0, x1, x2, x3, x4, ()) ks : Rose Lab).lab.2.2.2.2.1, .ref 2 0 (.node (x0, x1, x2, x3, x4, ()) ks : Rose Lab).kids.length]), some (.row false none (.tree (.pair (.int .i64) (.pair .str (.pair (.int .i64) (.pair .bool (.pair (.int .i64) .unit)))))) (.node (x0, x1, x2, x3, x4, ()) ks : Rose Lab).kids)]))) (.leaf (.ret, ([.b false], []))))
    | _ => .no)
   | _ => .no)
  | _ => .no)
 | _ => .no⟩

abbrev Lqd4 : FuncId → Option Ent := look [(92, .rd1 kindOfG), (88, .rd1 withinG), (93, .rd1 gpatG), (94, .rd1 goodFG), (96, .rd1 levelsG), (95, .rd1 inG), (97, .rd1 (undN 1000000)), (98, .rd1 inbG)]
theorem fn_round2 (ts : List Tp) (fs : List Fa) (w : Int) (p : List UInt8) (ws : List Wt) (v : List Ty) (b : List Nt) (t : Int) (z : Rose Lab) (l : List Tp) (k i : Int) : roundK Tryz.prog Lqd4 (look [(5, fnE)]) 0 (body Tryz.f43 0) fnE ([.bx [.sl TPd ts, .sl FNd fs] 0, .ptr 0 0, .ptr 1 0, .sl TPd l, .j k, .j i], [some (.box [.j w, .s p, .sl WCd ws, .sl TCd v, .sl NTd b, .j t]), some (.box [.j z.lab.1, .s z.lab.2.1, .j z.lab.2.2.1, .b z.lab.2.2.2.1, .j z.lab.2.2.2.2.1, .ref 2 0 z.kids.length]), some (.row false none (.tree LCd) z.kids)]) =
 ((ifB (decide (i < k)) (ifT (decide ((0 : Int) ≤ i) && decide (i < (↑l.length : Int))) (ifSome l[i.toNat]? fun z_1 => ifT (decide (p.length ≤ (4000000000 : Nat))) (ifB (lvB
 (cut (47 : UInt8) p)) (ifT (decide (List.length z_1.fst ≤ (4000000000 : Nat))) (ifB (lvB (cut (47 : UInt8) z_1.fst)) (ifB (tk inL (List.take (cut (47 : UInt8) p).length
 (List.drop (0 : Nat) (cut (47 : UInt8) p))) (List.take (cut (47 : UInt8) z_1.fst).length (List.drop (0 : Nat) (cut (47 : UInt8) z_1.fst)))) (ifT (decide (List.length
 z_1.snd.fst.fst ≤ (4000000000 : Nat)) && nmL z_1.snd.fst.fst) (ifB (kindB z_1.snd.fst.fst) (ifT (decide (rightR (Rose.node ((kf z_1.snd.fst.fst (0 : Nat)).fst.lab.fst,
 (kf z_1.snd.fst.fst (0 : Nat)).fst.lab.snd.fst, (kf z_1.snd.fst.fst (0 : Nat)).fst.lab.snd.snd.fst, (kf z_1.snd.fst.fst (0 : Nat)).fst.lab.snd.snd.snd.fst, (kf
 z_1.snd.fst.fst (0 : Nat)).fst.lab.snd.snd.snd.snd.fst, ()) (List.take (kf z_1.snd.fst.fst (0 : Nat)).fst.kids.length (List.drop (0 : Nat) (kf z_1.snd.fst.fst (0 :
 Nat)).fst.kids))) = true ∧ rightR (Rose.node (z.lab.fst, z.lab.snd.fst, z.lab.snd.snd.fst, z.lab.snd.snd.snd.fst, z.lab.snd.snd.snd.snd.fst, ()) (List.take z.kids.length
 (List.drop (0 : Nat) z.kids))) = true ∧ cntR (Rose.node (z.lab.fst, z.lab.snd.fst, z.lab.snd.snd.fst, z.lab.snd.snd.snd.fst, z.lab.snd.snd.snd.snd.fst, ()) (List.take
 z.kids.length (List.drop (0 : Nat) z.kids))) ≤ (1000000 : Nat) ∧ cntR (Rose.node (z.lab.fst, z.lab.snd.fst, z.lab.snd.snd.fst, z.lab.snd.snd.snd.fst,
 z.lab.snd.snd.snd.snd.fst, ()) (List.take z.kids.length (List.drop (0 : Nat) z.kids))) ≤ (1000000 : Nat) ∧ cntR (Rose.node ((kf z_1.snd.fst.fst (0 : Nat)).fst.lab.fst,
 (kf z_1.snd.fst.fst (0 : Nat)).fst.lab.snd.fst, (kf z_1.snd.fst.fst (0 : Nat)).fst.lab.snd.snd.fst, (kf z_1.snd.fst.fst (0 : Nat)).fst.lab.snd.snd.snd.fst, (kf
 z_1.snd.fst.fst (0 : Nat)).fst.lab.snd.snd.snd.snd.fst, ()) (List.take (kf z_1.snd.fst.fst (0 : Nat)).fst.kids.length (List.drop (0 : Nat) (kf z_1.snd.fst.fst (0 :
 Nat)).fst.kids))) ≤ (1000000 : Nat))) (ifB (!subR (Rose.node (z.lab.fst, z.lab.snd.fst, z.lab.snd.snd.fst, z.lab.snd.snd.snd.fst, z.lab.snd.snd.snd.snd.fst, ())
 (List.take z.kids.length (List.drop (0 : Nat) z.kids))) (Rose.node ((kf z_1.snd.fst.fst (0 : Nat)).fst.lab.fst, (kf z_1.snd.fst.fst (0 : Nat)).fst.lab.snd.fst, (kf
 z_1.snd.fst.fst (0 : Nat)).fst.lab.snd.snd.fst, (kf z_1.snd.fst.fst (0 : Nat)).fst.lab.snd.snd.snd.fst, (kf z_1.snd.fst.fst (0 : Nat)).fst.lab.snd.snd.snd.snd.fst, ())
 (List.take (kf z_1.snd.fst.fst (0 : Nat)).fst.kids.length (List.drop (0 : Nat) (kf z_1.snd.fst.fst (0 : Nat)).fst.kids)))) (some (Ex.ret, [V.b false], [])) (some
 (Ex.normal, [V.bx [V.sl TPd ts, V.sl FNd fs] (0 : Nat), V.ptr 0 0, V.ptr 1 0, V.sl TPd l, V.j k, V.j (IntKind.i64.wrap (i + (1 : Int)))], [some (Blk.box [V.i
 .i64 w, V.s p, V.sl WCd ws, V.sl TCd v, V.sl NTd b, V.j t]), some (Blk.box [V.j z.lab.fst, V.s z.lab.snd.fst, V.j z.lab.snd.snd.fst, V.b
 z.lab.snd.snd.snd.fst, V.j z.lab.snd.snd.snd.snd.fst, V.ref 2 0 z.kids.length]), some (Blk.row false none LCd.tree z.kids)])))) none)) (some (Ex.normal, [V.bx [V.sl
 TPd ts, V.sl FNd fs] (0 : Nat), V.ptr 0 0, V.ptr 1 0, V.sl TPd l, V.j k, V.j (IntKind.i64.wrap (i + (1 : Int)))], [some (Blk.box [V.j w, V.s p, V.sl WCd
 ws, V.sl TCd v, V.sl NTd b, V.j t]), some (Blk.box [V.j z.lab.fst, V.s z.lab.snd.fst, V.j z.lab.snd.snd.fst, V.b z.lab.snd.snd.snd.fst, V.i .i64
 z.lab.snd.snd.snd.snd.fst, V.ref 2 0 z.kids.length]), some (Blk.row false none LCd.tree z.kids)]))) (ifB (tk inL (List.take (cut (47 : UInt8) p).length (List.drop (0 :
 Nat) (cut (47 : UInt8) p))) (nilT Cd.str.den)) (ifT (decide (List.length z_1.snd.fst.fst ≤ (4000000000 : Nat)) && nmL z_1.snd.fst.fst) (ifB (kindB z_1.snd.fst.fst) (ifT
 (decide (rightR (Rose.node ((kf z_1.snd.fst.fst (0 : Nat)).fst.lab.fst, (kf z_1.snd.fst.fst (0 : Nat)).fst.lab.snd.fst, (kf z_1.snd.fst.fst (0 :
 Nat)).fst.lab.snd.snd.fst, (kf z_1.snd.fst.fst (0 : Nat)).fst.lab.snd.snd.snd.fst, (kf z_1.snd.fst.fst (0 : Nat)).fst.lab.snd.snd.snd.snd.fst, ()) (List.take (kf
 z_1.snd.fst.fst (0 : Nat)).fst.kids.length (List.drop (0 : Nat) (kf z_1.snd.fst.fst (0 : Nat)).fst.kids))) = true ∧ rightR (Rose.node (z.lab.fst, z.lab.snd.fst,
 z.lab.snd.snd.fst, z.lab.snd.snd.snd.fst, z.lab.snd.snd.snd.snd.fst, ()) (List.take z.kids.length (List.drop (0 : Nat) z.kids))) = true ∧ cntR (Rose.node (z.lab.fst,
 z.lab.snd.fst, z.lab.snd.snd.fst, z.lab.snd.snd.snd.fst, z.lab.snd.snd.snd.snd.fst, ()) (List.take z.kids.length (List.drop (0 : Nat) z.kids))) ≤ (1000000 : Nat) ∧ cntR
 (Rose.node (z.lab.fst, z.lab.snd.fst, z.lab.snd.snd.fst, z.lab.snd.snd.snd.fst, z.lab.snd.snd.snd.snd.fst, ()) (List.take z.kids.length (List.drop (0 : Nat) z.kids))) ≤
 (1000000 : Nat) ∧ cntR (Rose.node ((kf z_1.snd.fst.fst (0 : Nat)).fst.lab.fst, (kf z_1.snd.fst.fst (0 : Nat)).fst.lab.snd.fst, (kf z_1.snd.fst.fst (0 :
 Nat)).fst.lab.snd.snd.fst, (kf z_1.snd.fst.fst (0 : Nat)).fst.lab.snd.snd.snd.fst, (kf z_1.snd.fst.fst (0 : Nat)).fst.lab.snd.snd.snd.snd.fst, ()) (List.take (kf
 z_1.snd.fst.fst (0 : Nat)).fst.kids.length (List.drop (0 : Nat) (kf z_1.snd.fst.fst (0 : Nat)).fst.kids))) ≤ (1000000 : Nat))) (ifB (!subR (Rose.node (z.lab.fst,
 z.lab.snd.fst, z.lab.snd.snd.fst, z.lab.snd.snd.snd.fst, z.lab.snd.snd.snd.snd.fst, ()) (List.take z.kids.length (List.drop (0 : Nat) z.kids))) (Rose.node ((kf
 z_1.snd.fst.fst (0 : Nat)).fst.lab.fst, (kf z_1.snd.fst.fst (0 : Nat)).fst.lab.snd.fst, (kf z_1.snd.fst.fst (0 : Nat)).fst.lab.snd.snd.fst, (kf z_1.snd.fst.fst (0 :
 Nat)).fst.lab.snd.snd.snd.fst, (kf z_1.snd.fst.fst (0 : Nat)).fst.lab.snd.snd.snd.snd.fst, ()) (List.take (kf z_1.snd.fst.fst (0 : Nat)).fst.kids.length (List.drop (0 :
 Nat) (kf z_1.snd.fst.fst (0 : Nat)).fst.kids)))) (some (Ex.ret, [V.b false], [])) (some (Ex.normal, [V.bx [V.sl TPd ts, V.sl FNd fs] (0 : Nat), V.ptr 0 0, V.ptr 1 0, V.sl
 TPd l, V.j k, V.j (IntKind.i64.wrap (i + (1 : Int)))], [some (Blk.box [V.j w, V.s p, V.sl WCd ws, V.sl TCd v, V.sl NTd b, V.j t]), some (Blk.box [V.i
 .i64 z.lab.fst, V.s z.lab.snd.fst, V.j z.lab.snd.snd.fst, V.b z.lab.snd.snd.snd.fst, V.j z.lab.snd.snd.snd.snd.fst, V.ref 2 0 z.kids.length]), some (Blk.row
 false none LCd.tree z.kids)])))) none)) (some (Ex.normal, [V.bx [V.sl TPd ts, V.sl FNd fs] (0 : Nat), V.ptr 0 0, V.ptr 1 0, V.sl TPd l, V.j k, V.i .i64
 (IntKind.i64.wrap (i + (1 : Int)))], [some (Blk.box [V.j w, V.s p, V.sl WCd ws, V.sl TCd v, V.sl NTd b, V.j t]), some (Blk.box [V.j z.lab.fst, V.s
 z.lab.snd.fst, V.j z.lab.snd.snd.fst, V.b z.lab.snd.snd.snd.fst, V.j z.lab.snd.snd.snd.snd.fst, V.ref 2 0 z.kids.length]), some (Blk.row false none LCd.tree
 z.kids)]))))) (ifT (decide (List.length z_1.fst ≤ (4000000000 : Nat))) (ifB (lvB (cut (47 : UInt8) z_1.fst)) (ifB (tk inL (nilT Cd.str.den) (List.take (cut (47 : UInt8)
 z_1.fst).length (List.drop (0 : Nat) (cut (47 : UInt8) z_1.fst)))) (ifT (decide (List.length z_1.snd.fst.fst ≤ (4000000000 : Nat)) && nmL z_1.snd.fst.fst) (ifB (kindB
 z_1.snd.fst.fst) (ifT (decide (rightR (Rose.node ((kf z_1.snd.fst.fst (0 : Nat)).fst.lab.fst, (kf z_1.snd.fst.fst (0 : Nat)).fst.lab.snd.fst, (kf z_1.snd.fst.fst (0 :
 Nat)).fst.lab.snd.snd.fst, (kf z_1.snd.fst.fst (0 : Nat)).fst.lab.snd.snd.snd.fst, (kf z_1.snd.fst.fst (0 : Nat)).fst.lab.snd.snd.snd.snd.fst, ()) (List.take (kf
 z_1.snd.fst.fst (0 : Nat)).fst.kids.length (List.drop (0 : Nat) (kf z_1.snd.fst.fst (0 : Nat)).fst.kids))) = true ∧ rightR (Rose.node (z.lab.fst, z.lab.snd.fst,
 z.lab.snd.snd.fst, z.lab.snd.snd.snd.fst, z.lab.snd.snd.snd.snd.fst, ()) (List.take z.kids.length (List.drop (0 : Nat) z.kids))) = true ∧ cntR (Rose.node (z.lab.fst,
 z.lab.snd.fst, z.lab.snd.snd.fst, z.lab.snd.snd.snd.fst, z.lab.snd.snd.snd.snd.fst, ()) (List.take z.kids.length (List.drop (0 : Nat) z.kids))) ≤ (1000000 : Nat) ∧ cntR
 (Rose.node (z.lab.fst, z.lab.snd.fst, z.lab.snd.snd.fst, z.lab.snd.snd.snd.fst, z.lab.snd.snd.snd.snd.fst, ()) (List.take z.kids.length (List.drop (0 : Nat) z.kids))) ≤
 (1000000 : Nat) ∧ cntR (Rose.node ((kf z_1.snd.fst.fst (0 : Nat)).fst.lab.fst, (kf z_1.snd.fst.fst (0 : Nat)).fst.lab.snd.fst, (kf z_1.snd.fst.fst (0 :
 Nat)).fst.lab.snd.snd.fst, (kf z_1.snd.fst.fst (0 : Nat)).fst.lab.snd.snd.snd.fst, (kf z_1.snd.fst.fst (0 : Nat)).fst.lab.snd.snd.snd.snd.fst, ()) (List.take (kf
 z_1.snd.fst.fst (0 : Nat)).fst.kids.length (List.drop (0 : Nat) (kf z_1.snd.fst.fst (0 : Nat)).fst.kids))) ≤ (1000000 : Nat))) (ifB (!subR (Rose.node (z.lab.fst,
 z.lab.snd.fst, z.lab.snd.snd.fst, z.lab.snd.snd.snd.fst, z.lab.snd.snd.snd.snd.fst, ()) (List.take z.kids.length (List.drop (0 : Nat) z.kids))) (Rose.node ((kf
 z_1.snd.fst.fst (0 : Nat)).fst.lab.fst, (kf z_1.snd.fst.fst (0 : Nat)).fst.lab.snd.fst, (kf z_1.snd.fst.fst (0 : Nat)).fst.lab.snd.snd.fst, (kf z_1.snd.fst.fst (0 :
 Nat)).fst.lab.snd.snd.snd.fst, (kf z_1.snd.fst.fst (0 : Nat)).fst.lab.snd.snd.snd.snd.fst, ()) (List.take (kf z_1.snd.fst.fst (0 : Nat)).fst.kids.length (List.drop (0 :
 Nat) (kf z_1.snd.fst.fst (0 : Nat)).fst.kids)))) (some (Ex.ret, [V.b false], [])) (some (Ex.normal, [V.bx [V.sl TPd ts, V.sl FNd fs] (0 : Nat), V.ptr 0 0, V.ptr 1 0, V.sl
 TPd l, V.j k, V.j (IntKind.i64.wrap (i + (1 : Int)))], [some (Blk.box [V.j w, V.s p, V.sl WCd ws, V.sl TCd v, V.sl NTd b, V.j t]), some (Blk.box [V.i
 .i64 z.lab.fst, V.s z.lab.snd.fst, V.j z.lab.snd.snd.fst, V.b z.lab.snd.snd.snd.fst, V.j z.lab.snd.snd.snd.snd.fst, V.ref 2 0 z.kids.length]), some (Blk.row
 false none LCd.tree z.kids)])))) none)) (some (Ex.normal, [V.bx [V.sl TPd ts, V.sl FNd fs] (0 : Nat), V.ptr 0 0, V.ptr 1 0, V.sl TPd l, V.j k, V.i .i64
 (IntKind.i64.wrap (i + (1 : Int)))], [some (Blk.box [V.j w, V.s p, V.sl WCd ws, V.sl TCd v, V.sl NTd b, V.j t]), some (Blk.box [V.j z.lab.fst, V.s
 z.lab.snd.fst, V.j z.lab.snd.snd.fst, V.b z.lab.snd.snd.snd.fst, V.j z.lab.snd.snd.snd.snd.fst, V.ref 2 0 z.kids.length]), some (Blk.row false none LCd.tree
 z.kids)]))) (ifT (decide (List.length z_1.snd.fst.fst ≤ (4000000000 : Nat)) && nmL z_1.snd.fst.fst) (ifB (kindB z_1.snd.fst.fst) (ifT (decide (rightR (Rose.node ((kf
 z_1.snd.fst.fst (0 : Nat)).fst.lab.fst, (kf z_1.snd.fst.fst (0 : Nat)).fst.lab.snd.fst, (kf z_1.snd.fst.fst (0 : Nat)).fst.lab.snd.snd.fst, (kf z_1.snd.fst.fst (0 :
 Nat)).fst.lab.snd.snd.snd.fst, (kf z_1.snd.fst.fst (0 : Nat)).fst.lab.snd.snd.snd.snd.fst, ()) (List.take (kf z_1.snd.fst.fst (0 : Nat)).fst.kids.length (List.drop (0 :
 Nat) (kf z_1.snd.fst.fst (0 : Nat)).fst.kids))) = true ∧ rightR (Rose.node (z.lab.fst, z.lab.snd.fst, z.lab.snd.snd.fst, z.lab.snd.snd.snd.fst, z.lab.snd.snd.snd.snd.fst,
 ()) (List.take z.kids.length (List.drop (0 : Nat) z.kids))) = true ∧ cntR (Rose.node (z.lab.fst, z.lab.snd.fst, z.lab.snd.snd.fst, z.lab.snd.snd.snd.fst,
 z.lab.snd.snd.snd.snd.fst, ()) (List.take z.kids.length (List.drop (0 : Nat) z.kids))) ≤ (1000000 : Nat) ∧ cntR (Rose.node (z.lab.fst, z.lab.snd.fst, z.lab.snd.snd.fst,
 z.lab.snd.snd.snd.fst, z.lab.snd.snd.snd.snd.fst, ()) (List.take z.kids.length (List.drop (0 : Nat) z.kids))) ≤ (1000000 : Nat) ∧ cntR (Rose.node ((kf z_1.snd.fst.fst (0
 : Nat)).fst.lab.fst, (kf z_1.snd.fst.fst (0 : Nat)).fst.lab.snd.fst, (kf z_1.snd.fst.fst (0 : Nat)).fst.lab.snd.snd.fst, (kf z_1.snd.fst.fst (0 :
 Nat)).fst.lab.snd.snd.snd.fst, (kf z_1.snd.fst.fst (0 : Nat)).fst.lab.snd.snd.snd.snd.fst, ()) (List.take (kf z_1.snd.fst.fst (0 : Nat)).fst.kids.length (List.drop (0 :
 Nat) (kf z_1.snd.fst.fst (0 : Nat)).fst.kids))) ≤ (1000000 : Nat))) (ifB (!subR (Rose.node (z.lab.fst, z.lab.snd.fst, z.lab.snd.snd.fst, z.lab.snd.snd.snd.fst,
 z.lab.snd.snd.snd.snd.fst, ()) (List.take z.kids.length (List.drop (0 : Nat) z.kids))) (Rose.node ((kf z_1.snd.fst.fst (0 : Nat)).fst.lab.fst, (kf z_1.snd.fst.fst (0 :
 Nat)).fst.lab.snd.fst, (kf z_1.snd.fst.fst (0 : Nat)).fst.lab.snd.snd.fst, (kf z_1.snd.fst.fst (0 : Nat)).fst.lab.snd.snd.snd.fst, (kf z_1.snd.fst.fst (0 :
 Nat)).fst.lab.snd.snd.snd.snd.fst, ()) (List.take (kf z_1.snd.fst.fst (0 : Nat)).fst.kids.length (List.drop (0 : Nat) (kf z_1.snd.fst.fst (0 : Nat)).fst.kids)))) (some
 (Ex.ret, [V.b false], [])) (some (Ex.normal, [V.bx [V.sl TPd ts, V.sl FNd fs] (0 : Nat), V.ptr 0 0, V.ptr 1 0, V.sl TPd l, V.j k, V.j (IntKind.i64.wrap (i + (1
 : Int)))], [some (Blk.box [V.j w, V.s p, V.sl WCd ws, V.sl TCd v, V.sl NTd b, V.j t]), some (Blk.box [V.j z.lab.fst, V.s z.lab.snd.fst, V.i .i64
 z.lab.snd.snd.fst, V.b z.lab.snd.snd.snd.fst, V.j z.lab.snd.snd.snd.snd.fst, V.ref 2 0 z.kids.length]), some (Blk.row false none LCd.tree z.kids)])))) none)))))))
 (some (Ex.exit 0, [V.bx [V.sl TPd ts, V.sl FNd fs] (0 : Nat), V.ptr 0 0, V.ptr 1 0], [some (Blk.box [V.j w, V.s p, V.sl WCd ws, V.sl TCd v, V.sl NTd b, V.j t]),
 some (Blk.box [V.j z.lab.fst, V.s z.lab.snd.fst, V.j z.lab.snd.snd.fst, V.b z.lab.snd.snd.snd.fst, V.j z.lab.snd.snd.snd.snd.fst, V.ref 2 0
 z.kids.length]), some (Blk.row false none LCd.tree z.kids)]))) : _) := by kernel_rfl
theorem fn_tree (ts : List Tp) (fs : List Fa) (w : Int) (p : List UInt8) (ws : List Wt) (v : List Ty) (b : List Nt) (t : Int) : funK Tryz.prog Lqd4 (look [(5, fnE)]) Tryz.f43 [.bx [.sl TPd ts, .sl FNd fs] 0, .agg [.j w, .s p, .sl WCd ws, .sl TCd v, .sl NTd b, .j t]] [] =
 ((ifT (decide (v.length ≤ (4000000000 : Nat)) && nmL v) (ifB (kindB v) (ifB (!decide ((0 : Int) ≤ w ∧ w ≤ (100 : Int))) (some (V.b false, [])) (ifT (decide (p.length ≤
 (4000000000 : Nat))) (ifB (!lvB (cut (47 : UInt8) p)) (some (V.b false, [])) (ifB (!goodFB ws) (some (V.b false, [])) (ifB (!decide ((0 : Int) ≤ t ∧ t ≤ (100000 : Int)))
 (some (V.b false, [])) (ifT (decide ((kf v (0 : Nat)).fst.kids.length = (kf v (0 : Nat)).fst.kids.length) && (decide ((0 : Int) ≤ (0 : Int) ∧ (0 : Nat) ≤ ts.length ∧
 (↑ts.length : Int) = (↑ts.length : Int) ∧ eqT (List Tp) ts ts ∧ goodR (Rose.node ((kf v (0 : Nat)).fst.lab.fst, (kf v (0 : Nat)).fst.lab.snd.fst, (kf v (0 :
 Nat)).fst.lab.snd.snd.fst, (kf v (0 : Nat)).fst.lab.snd.snd.snd.fst, (kf v (0 : Nat)).fst.lab.snd.snd.snd.snd.fst, ()) (kf v (0 : Nat)).fst.kids) = true ∧ lvB (cut (47 :
 UInt8) p) = true ∧ p.length ≤ (4000000000 : Nat)) && tssB ts)) (ifB ((List.drop (0 : Nat) ts).all (viewB p (Rose.node ((kf v (0 : Nat)).fst.lab.fst, (kf v (0 :
 Nat)).fst.lab.snd.fst, (kf v (0 : Nat)).fst.lab.snd.snd.fst, (kf v (0 : Nat)).fst.lab.snd.snd.snd.fst, (kf v (0 : Nat)).fst.lab.snd.snd.snd.snd.fst, ()) (kf v (0 :
 Nat)).fst.kids))) (ifT (decide (goodR (Rose.node ((Rose.node ((kf v (0 : Nat)).fst.lab.fst, (kf v (0 : Nat)).fst.lab.snd.fst, (kf v (0 : Nat)).fst.lab.snd.snd.fst, (kf v
 (0 : Nat)).fst.lab.snd.snd.snd.fst, (kf v (0 : Nat)).fst.lab.snd.snd.snd.snd.fst, ()) (kf v (0 : Nat)).fst.kids).lab.fst, (Rose.node ((kf v (0 : Nat)).fst.lab.fst, (kf v
 (0 : Nat)).fst.lab.snd.fst, (kf v (0 : Nat)).fst.lab.snd.snd.fst, (kf v (0 : Nat)).fst.lab.snd.snd.snd.fst, (kf v (0 : Nat)).fst.lab.snd.snd.snd.snd.fst, ()) (kf v (0 :
 Nat)).fst.kids).lab.snd.fst, (Rose.node ((kf v (0 : Nat)).fst.lab.fst, (kf v (0 : Nat)).fst.lab.snd.fst, (kf v (0 : Nat)).fst.lab.snd.snd.fst, (kf v (0 :
 Nat)).fst.lab.snd.snd.snd.fst, (kf v (0 : Nat)).fst.lab.snd.snd.snd.snd.fst, ()) (kf v (0 : Nat)).fst.kids).lab.snd.snd.fst, (Rose.node ((kf v (0 : Nat)).fst.lab.fst, (kf
 v (0 : Nat)).fst.lab.snd.fst, (kf v (0 : Nat)).fst.lab.snd.snd.fst, (kf v (0 : Nat)).fst.lab.snd.snd.snd.fst, (kf v (0 : Nat)).fst.lab.snd.snd.snd.snd.fst, ()) (kf v (0 :
 Nat)).fst.kids).lab.snd.snd.snd.fst, (Rose.node ((kf v (0 : Nat)).fst.lab.fst, (kf v (0 : Nat)).fst.lab.snd.fst, (kf v (0 : Nat)).fst.lab.snd.snd.fst, (kf v (0 :
 Nat)).fst.lab.snd.snd.snd.fst, (kf v (0 : Nat)).fst.lab.snd.snd.snd.snd.fst, ()) (kf v (0 : Nat)).fst.kids).lab.snd.snd.snd.snd.fst, ()) (List.take (Rose.node ((kf v (0 :
 Nat)).fst.lab.fst, (kf v (0 : Nat)).fst.lab.snd.fst, (kf v (0 : Nat)).fst.lab.snd.snd.fst, (kf v (0 : Nat)).fst.lab.snd.snd.snd.fst, (kf v (0 :
 Nat)).fst.lab.snd.snd.snd.snd.fst, ()) (kf v (0 : Nat)).fst.kids).kids.length (List.drop (0 : Nat) (Rose.node ((kf v (0 : Nat)).fst.lab.fst, (kf v (0 :
 Nat)).fst.lab.snd.fst, (kf v (0 : Nat)).fst.lab.snd.snd.fst, (kf v (0 : Nat)).fst.lab.snd.snd.snd.fst, (kf v (0 : Nat)).fst.lab.snd.snd.snd.snd.fst, ()) (kf v (0 :
 Nat)).fst.kids).kids))) = true) && ntsB b) (some (V.b (inbI ts (Rose.node ((Rose.node ((kf v (0 : Nat)).fst.lab.fst, (kf v (0 : Nat)).fst.lab.snd.fst, (kf v (0 :
 Nat)).fst.lab.snd.snd.fst, (kf v (0 : Nat)).fst.lab.snd.snd.snd.fst, (kf v (0 : Nat)).fst.lab.snd.snd.snd.snd.fst, ()) (kf v (0 : Nat)).fst.kids).lab.fst, (Rose.node ((kf
 v (0 : Nat)).fst.lab.fst, (kf v (0 : Nat)).fst.lab.snd.fst, (kf v (0 : Nat)).fst.lab.snd.snd.fst, (kf v (0 : Nat)).fst.lab.snd.snd.snd.fst, (kf v (0 :
 Nat)).fst.lab.snd.snd.snd.snd.fst, ()) (kf v (0 : Nat)).fst.kids).lab.snd.fst, (Rose.node ((kf v (0 : Nat)).fst.lab.fst, (kf v (0 : Nat)).fst.lab.snd.fst, (kf v (0 :
 Nat)).fst.lab.snd.snd.fst, (kf v (0 : Nat)).fst.lab.snd.snd.snd.fst, (kf v (0 : Nat)).fst.lab.snd.snd.snd.snd.fst, ()) (kf v (0 : Nat)).fst.kids).lab.snd.snd.fst,
 (Rose.node ((kf v (0 : Nat)).fst.lab.fst, (kf v (0 : Nat)).fst.lab.snd.fst, (kf v (0 : Nat)).fst.lab.snd.snd.fst, (kf v (0 : Nat)).fst.lab.snd.snd.snd.fst, (kf v (0 :
 Nat)).fst.lab.snd.snd.snd.snd.fst, ()) (kf v (0 : Nat)).fst.kids).lab.snd.snd.snd.fst, (Rose.node ((kf v (0 : Nat)).fst.lab.fst, (kf v (0 : Nat)).fst.lab.snd.fst, (kf v
 (0 : Nat)).fst.lab.snd.snd.fst, (kf v (0 : Nat)).fst.lab.snd.snd.snd.fst, (kf v (0 : Nat)).fst.lab.snd.snd.snd.snd.fst, ()) (kf v (0 :
 Nat)).fst.kids).lab.snd.snd.snd.snd.fst, ()) (List.take (Rose.node ((kf v (0 : Nat)).fst.lab.fst, (kf v (0 : Nat)).fst.lab.snd.fst, (kf v (0 : Nat)).fst.lab.snd.snd.fst,
 (kf v (0 : Nat)).fst.lab.snd.snd.snd.fst, (kf v (0 : Nat)).fst.lab.snd.snd.snd.snd.fst, ()) (kf v (0 : Nat)).fst.kids).kids.length (List.drop (0 : Nat) (Rose.node ((kf v
 (0 : Nat)).fst.lab.fst, (kf v (0 : Nat)).fst.lab.snd.fst, (kf v (0 : Nat)).fst.lab.snd.snd.fst, (kf v (0 : Nat)).fst.lab.snd.snd.snd.fst, (kf v (0 :
 Nat)).fst.lab.snd.snd.snd.snd.fst, ()) (kf v (0 : Nat)).fst.kids).kids))) (nilT (List UInt8 × Int)) b && decide (b.length ≤ (10 : Nat))), []))) (some (V.b false,
 []))))))))) (ifB (!decide ((0 : Int) ≤ w ∧ w ≤ (100 : Int))) (some (V.b false, [])) (ifT (decide (p.length ≤ (4000000000 : Nat))) (ifB (!lvB (cut (47 : UInt8) p)) (some
 (V.b false, [])) (ifB (!goodFB ws) (some (V.b false, [])) (some (V.b false, [])))))))) : _) := by kernel_rfl
theorem tss_all {ts : List Tp} (h : tssB ts = true) : ts.length ≤ 4000000000 ∧ ts.all szTB = true ∧ (∀ t ∈ ts, (t.1.length ≤ 4000000000 ∧ t.2.1.1.length ≤ 4000000000 ∧ nmL t.2.1.1 = true) ∧ tpB (cut 47 t.1) = true ∧ kindB t.2.1.1 = true ∧ 0 ≤ t.2.2.1 ∧ t.2.2.1 ≤ 1000) := by
 unfold tssB at h
 rw [anE, anE, dcE] at h
 obtain ⟨h1, h2, h3⟩ := h
 refine ⟨h1, h2, fun t ht => ?_⟩
 have a := List.all_eq_true.1 h2 t ht
 have b := List.all_eq_true.1 h3 t ht
 unfold szTB at a
 unfold tOK at b
 simp only [anE, dcE] at a b
 exact ⟨⟨a.1, a.2.1, a.2.2⟩, b.1, b.2.1, b.2.2⟩
theorem fn_loop (l : List Tp) (fs : List Fa) (w : Int) (p : List UInt8) (ws : List Wt) (v : List Ty) (b : List Nt) (t : Int) (z : Rose Lab) (hz : goodR z = true) (hlv : lvB (cut 47 p) = true) (hp : p.length ≤ 4000000000) (ht : tssB l = true) (i : Nat) (h1 : i ≤ l.length) (ex : Ex) (d' : Dt)
  (hx : (Br.br ((l.drop i).all (viewB p z)) (.leaf ((.exit 0 : Ex), ([.bx [.sl TPd l, .sl FNd fs] 0, .ptr 0 0, .ptr 1 0], [some (.box [.j w, .s p, .sl WCd ws, .sl TCd v, .sl NTd b, .j t]), some (.box [.j z.lab.1, .s z.lab.2.1, .j z.lab.2.2.1, .b z.lab.2.2.2.1, .j z.lab.2.2.2.2.1, .ref 2 0 z.kids.length]), some (.row false none (.tree LCd) z.kids)]))) (.leaf ((.ret : Ex), ([.b false], []))) : Br (Ex × Dt)).run = some (ex, d')) : Runs Tryz.prog Lqd4 (look [(5, fnE)]) 0 (body Tryz.f43 0) fnE ([.bx [.sl TPd l, .sl FNd fs] 0, .ptr 0 0, .ptr 1 0, .sl TPd l, .j (l.length : Int), .j (i : Int)], [some (.box [.j w, .s p, .sl WCd ws, .sl TCd v, .sl NTd b, .j t]), some (.box [.j z.lab.1, .s z.lab.2.1, .j z.lab.2.2.1, .b z.lab.2.2.2.1, .j z.lab.2.2.2.2.1, .ref 2 0 z.kids.length]), some (.row false none (.tree LCd) z.kids)]) ex d' := by
 have hM : maxI = 9223372036854775807 := rfl
 obtain ⟨hl, _, hall⟩ := tss_all ht
 refine runs_all (l := l) (viewB p z) (fun i => ([.bx [.sl TPd l, .sl FNd fs] 0, .ptr 0 0, .ptr 1 0, .sl TPd l, .j (l.length : Int), .j (i : Int)], [some (.box [.j w, .s p, .sl WCd ws, .sl TCd v, .sl NTd b, .j t]), some (.box [.j z.lab.1, .s z.lab.2.1, .j z.lab.2.2.1, .b z.lab.2.2.2.1, .j z.lab.2.2.2.2.1, .ref 2 0 z.kids.length]), some (.row false none (.tree LCd) z.kids)])) (ex := ((.exit 0 : Ex), ([.bx [.sl TPd l, .sl FNd fs] 0, .ptr 0 0, .ptr 1 0], [some (.box [.j w, .s p, .sl WCd ws, .sl TCd v, .sl NTd b, .j t]), some (.box [.j z.lab.1, .s z.lab.2.1, .j z.lab.2.2.1, .b z.lab.2.2.2.1, .j z.lab.2.2.2.2.1, .ref 2 0 z.kids.length]), some (.row false none (.tree LCd) z.kids)]))) (rt := ((.ret : Ex), ([.b false], []))) (by simp) (by simp) (fun n hlt => ?_) ?_ (l.length - i) i (by omega) ex d' hx
 ·have hr := fn_round2 l fs w p ws v b t z l l.length n
  try dsimp only [shr] at hr
  obtain ⟨⟨s1, s2, s3⟩, g1, g2, _⟩ := hall _ (List.getElem_mem hlt)
  obtain ⟨q1, q2, q3⟩ := good_facts hz
  rw [ifB_true (dcT (by omega)), ifT_true (by simp only [anE, dcE]; omega), ntN, gtE hlt, ifSome_s, wrap_succ (n := n) (by omega), ifT_true (dcT hp), hlv, ifB_t, ifT_true (dcT s1), tp_lv g1, ifB_t] at hr
  refine hr.trans ?_
  clear hr hall hx
  obtain ⟨m1, m2, m3⟩ := t2_good g2
  obtain ⟨r1, r2, r3⟩ := good_facts m1
  have ek := (gsch_eq l[n].2.1.1).2 g2
  simp only [List.drop_zero, List.take_length, rose_eta']
  unfold viewB
  cases h3 : tk inL (cut 47 p) (cut 47 l[n].1) with
  | false => rfl
  | true =>
   rw [ifB_t, ifT_true (by simp only [anE, dcE]; exact ⟨s2, s3⟩), g2, ifB_t, ek, ifT_true (dcT ⟨r2, q2, by omega, by omega, by omega⟩)]
   cases subR z (t2L l[n].2.1.1 0) <;> rfl
 ·have hr := fn_round2 l fs w p ws v b t z l l.length l.length
  try dsimp only [shr] at hr
  rw [ifB_false (dcF (by omega))] at hr
  exact hr
theorem fn_ok : LoopsOk Tryz.prog Lqd4 (look [(5, fnE)]) 0 (Tryz.f43.body.getD .skip) := by
 refine loopsOk_one (a := body Tryz.f43 0) (by kernel_rfl) fun d ex d' h => ?_
 unfold fnE at h
 dsimp only at h
 split at h
 ·rename_i ts fs l k i bf bk br
  split at h
  ·rename_i w p ws v b t
   split at h
   ·rename_i x0 x1 x2 x3 x4 n
    split at h
    ·rename_i ks
     obtain ⟨hc, hx⟩ := need_some h
     clear h
     rw [anE, anE, dcE] at hc
     obtain ⟨hn, hc, ht⟩ := hc
     obtain ⟨h0, h1, h2, h3, h4, h5, h6⟩ := of_decide_eq_true hc
     have h3 : l = ts := h3
     subst h3
     subst h2
     subst hn
     obtain ⟨i, rfl⟩ := Int.eq_ofNat_of_zero_le h0
     simp only [ntN] at h1 hx
     exact fn_loop l fs w p ws v b t (.node (x0, x1, x2, x3, x4, ()) ks : Rose Lab) h4 h5 h6 ht i h1 ex d' hx
    ·cases h
   ·cases h
  ·cases h
 ·cases h
theorem ifan17 : Contract Tryz.prog 43 (Ent.rd1 fanOG).F := by
 refine fun_contract' (KnowsL.cons (enters_fn Tryz.func92 (by kernel_rfl) (by kernel_rfl)) kindOf (KnowsL.cons (enters_fn Tryz.func88 (by kernel_rfl) (by kernel_rfl)) within (KnowsL.cons (enters_fn Tryz.func93 (by kernel_rfl) (by kernel_rfl)) igpat (KnowsL.cons (enters_fn Tryz.func94 (by kernel_rfl) (by kernel_rfl)) igoodF (KnowsL.cons (enters_fn Tryz.func96 (by kernel_rfl) (by kernel_rfl)) levels (KnowsL.cons (enters_fn Tryz.func95 (by kernel_rfl) (by kernel_rfl)) tin (KnowsL.cons (enters_fn Tryz.func97 (by kernel_rfl) (by kernel_rfl)) (und_all 1000000) (KnowsL.cons (enters_fn Tryz.func98 (by kernel_rfl) (by kernel_rfl)) iinb KnowsL.nil)))))))).knows (Λ := (look [(5, fnE)])) Tryz.func43 (c := Tryz.f43.body.getD .skip) (by kernel_rfl) fun vs bs r hq hv hb => ?_
 unfold Ent.F fanOG at hq
 dsimp only at hq
 split at hq
 ·rename_i ts fs w p ws v b t
  obtain ⟨hc, hx⟩ := need_some hq
  unfold fanNd at hc
  simp only [anE, dcE] at hc
  obtain ⟨ht, ⟨hp, hv⟩, hn, hb⟩ := hc
  refine ⟨fn_ok, (fn_tree ts fs w p ws v b t).trans (Eq.trans ?_ hx)⟩
  try dsimp only [shr]
  show _ = some _
  unfold fanI
  simp only [List.drop_zero, List.take_length, rose_eta']
  rw [ifT_true (by simp only [anE, dcE]; exact ⟨hv, hn⟩)]
  generalize hw : decide (0 ≤ w ∧ w ≤ 100) = c1
  generalize decide (0 ≤ t ∧ t ≤ 100000) = c2
  cases hk : kindB v with
  | false =>
   rw [ifB_f]
   cases c1 with
   | false => rfl
   | true =>
    rw [Bool.not_true, ifB_f, ifT_true (dcT hp)]
    cases lvB (cut 47 p) with
    | false => rfl
    | true => cases goodFB ws <;> rfl
  | true =>
   have ek := (gsch_eq v).2 hk
   rw [ifB_t, ek]
   cases c1 with
   | false => rfl
   | true =>
    rw [Bool.not_true, ifB_f, ifT_true (dcT hp)]
    cases hl : lvB (cut 47 p) with
    | false => rfl
    | true =>
     cases goodFB ws with
     | false => rfl
     | true =>
      cases c2 with
      | false => rfl
      | true =>
       have g := (t2_good hk).1
       rw [Bool.not_true, ifB_f, ifB_f, ifB_f, ifT_true (by rw [anE, anE]; exact ⟨dcT (by first | rfl | trivial), dcT (by refine ⟨by omega, by omega, ?_, ?_, g, ?_, hp⟩ <;> first | rfl | trivial), ht⟩)]
       cases ts.all (viewB p (t2L v 0)) with
       | false => rfl
       | true =>
        rw [ifB_t, ifT_true (by simp only [anE, dcE]; exact ⟨g, hb⟩)]
        rfl
 ·cases hq

def fanJ (ts : List Tp) (w : Int) (p : List UInt8) (ws : List Wt) (v : List Ty) (b : List Nt) (t : Int) : Bool := decide (0 ≤ w ∧ w ≤ 100) && (lvB (cut 47 p) && (goodFB ws && (kindB v && (decide (0 ≤ t ∧ t ≤ 100000) && (ts.all (viewB p (t2L v 0)) && (insB ts v b 0 && decide (b.length ≤ 10)))))))
def fanSG : List V → List Blk → Br (V × List (Option Blk))
 | [.agg [.sl (.pair .str (.pair (.pair (.slice (.pair (.int .i64) (.pair .str (.pair (.int .i64) (.pair .bool (.pair (.int .i64) (.pair (.int .i64) .unit))))))) .unit) (.pair (.int .i64) .unit))) ts, .sl (.pair (.int .i64) (.pair .str (.pair (.pair (.slice (.pair (.int .i64) (.pair (.int .i64) (.pair (.int .i64) (.pair .str (.pair (.int .i64) (.pair (.int .i64) .unit))))))) .unit) (.pair (.pair (.slice (.pair (.int .i64) (.pair .str (.pair (.int .i64) (.pair .bool (.pair (.int .i64) (.pair (.int .i64) .unit))))))) .unit) (.pair (.slice (.pair .str (.pair (.int .i64) (.pair .str .unit)))) (.pair (.int .i64) .unit)))))) fs], .agg [.i .i64 w, .s p, .sl (.pair (.int .i64) (.pair (.int .i64) (.pair (.int .i64) (.pair .str (.pair (.int .i64) (.pair (.int .i64) .unit)))))) ws, .sl (.pair (.int .i64) (.pair .str (.pair (.int .i64) (.pair .bool (.pair (.int .i64) (.pair (.int .i64) .unit)))))) v, .sl (.pair .str (.pair (.int .i64) (.pair .str .unit))) b, .i .i64 t]], [] => .need (fanNd ts p v b) (.leaf (.b (fanJ ts w p ws v b t), []))
 | _, _ => .no
def sfE : LoopEnt := ⟨61, [2,3,36,37,38], [2,3], [4], fun
 | ([.ptr 0 0, .ptr 1 0, .sl (.pair .str (.pair (.pair (.slice (.pair (.int .i64) (.pair .str (.pair (.int .i64) (.pair .bool (.pair (.int .i64) (.pair (.int .i64) .unit))))))) .unit) (.pair (.int .i64) .unit))) l, .i .i64 k, .i .i64 i], [bb, bf]) => (match bb with
  | some (.box [.sl (.pair .str (.pair (.pair (.slice (.pair (.int .i64) (.pair .str (.pair (.int .i64) (.pair .bool (.pair (.int .i64) (.pair (.int .i64) .unit))))))) .unit) (.pair (.int .i64) .unit))) ts, .sl (.pair (.int .i64) (.pair .str (.pair (.pair (.slice (.pair (.int .i64) (.pair (.int .i64) (.pair (.int .i64) (.pair .str (.pair (.int .i64) (.pair (.int .i64) .unit))))))) .unit) (.pair (.pair (.slice (.pair (.int .i64) (.pair .str (.pair (.int .i64) (.pair .bool (.pair (.int .i64) (.pair (.int .i64) .unit))))))) .unit) (.pair (.slice (.pair .str (.pair (.int .i64) (.pair .str .unit)))) (.pair (.int .i64) .unit)))))) fs]) => (match bf with
   | some (.box [.i .i64 w, .s p, .sl (.pair (.int .i64) (.pair (.int .i64) (.pair (.int .i64) (.pair .str (.pair (.int .i64) (.pair (.int .i64) .unit)))))) ws, .sl (.pair (.int .i64) (.pair .str (.pair (.int .i64) (.pair .bool (.pair (.int .i64) (.pair (.int .i64) .unit)))))) v, .sl (.pair .str (.pair (.int .i64) (.pair .str .unit))) b, .i .i64 t]) => .need (decide (0 ≤ i ∧ i.toNat ≤ l.length ∧ k = l.length ∧ eqT (List Tp) l ts ∧ kindB v = true ∧ p.length ≤ 4000000000 ∧ v.length ≤ 4000000000) && tssB l) (.br ((l.drop i.toNat).all (viewB p (t2L v 0))) (.leaf ((.exit 0 : Ex), ([.ptr 0 0, .ptr 1 0], [some (.box [.sl (.pair .str (.pair (.pair (.slice (.pair (.int .i64) (.pair .str (.pair (.int .i64) (.pair .bool (.pair (.int .i64) (.pair (.int .i64) .unit))))))) .unit) (.pair (.int .i64) .unit))) ts, .sl (.pair (.int .i64) (.pair .str (.pair (.pair (.slice (.pair (.int .i64) (.pair (.int .i64) (.pair (.int .i64) (.pair .str (.pair (.int .i64) (.pair (.int .i64) .unit))))))) .unit) (.pair (.pair (.slice (.pair (.int .i64) (.pair .str (.pair (.int .i64) (.pair .bool (.pair (.int .i64) (.pair (.int .i64) .unit))))))) .unit) (.pair (.slice (.pair .str (.pair (.int .i64) (.pair .str .unit)))) (.pair (.int .i64) .unit)))))) fs]), some (.box [.i .i64 w, .s p, .sl (.pair (.int .i64) (.pair (.int .i64) (.pair (.int .i64) (.pair .str (.pair (.int .i64) (.pair (.int .i64) .unit)))))) ws, .sl (.pair (.int .i64) (.pair .str (.pair (.int .i64) (.pair .bool (.pair (.int .i64) (.pair (.int .i64) .unit)))))) v, .sl (.pair .str (.pair (.int .i64) (.pair .str .unit))) b, .i .i64 t])]))) (.leaf (.ret, ([.b false], []))))
   | _ => .no)
  | _ => .no)
 | _ => .no⟩

abbrev Lqd5 : FuncId → Option Ent := look [(78, .rd1 withinG), (79, .rd1 gpatG), (80, .rd1 goodFG), (77, .rd1 gschG), (81, .rd1 l17FG), (83, .rd1 l2TreeG), (82, .rd1 (ssbN 1000000)), (84, .rd1 insG)]
theorem sf17_round (ts : List Tp) (fs : List Fa) (w : Int) (p : List UInt8) (ws : List Wt) (v : List Ty) (b : List Nt) (t : Int) (l : List Tp) (k i : Int) : roundK Tryz.prog Lqd5 (look [(4, sfE)]) 0 (body Tryz.f39 0) sfE ([.ptr 0 0, .ptr 1 0, .sl TPd l, .j k, .j i], [some (.box [.sl TPd ts, .sl FNd fs]), some (.box [.j w, .s p, .sl WCd ws, .sl TCd v, .sl NTd b, .j t])]) =
 ((ifB (decide (i < k)) (ifT (decide ((0 : Int) ≤ i) && decide (i < (↑l.length : Int))) (ifSome l[i.toNat]? fun z => ifT (decide (p.length ≤ (4000000000 : Nat) ∧ List.length
 z.fst ≤ (4000000000 : Nat))) (ifB (tk fitL (cut (47 : UInt8) p) (cut (47 : UInt8) z.fst)) (ifT (decide ((0 : Int) ≤ (0 : Int) ∧ (0 : Nat) < List.length z.snd.fst.fst ∧
 List.length z.snd.fst.fst ≤ (4000000000 : Nat))) (ifT (decide ((0 : Int) ≤ (0 : Int) ∧ (0 : Nat) < v.length ∧ v.length ≤ (4000000000 : Nat))) (ifT (decide (rightR
 (Rose.node ((t2L z.snd.fst.fst (0 : Nat)).lab.fst, (t2L z.snd.fst.fst (0 : Nat)).lab.snd.fst, (t2L z.snd.fst.fst (0 : Nat)).lab.snd.snd.fst, (t2L z.snd.fst.fst (0 :
 Nat)).lab.snd.snd.snd.fst, (t2L z.snd.fst.fst (0 : Nat)).lab.snd.snd.snd.snd.fst, ()) (List.take (t2L z.snd.fst.fst (0 : Nat)).kids.length (List.drop (0 : Nat) (t2L
 z.snd.fst.fst (0 : Nat)).kids))) = true ∧ rightR (Rose.node ((t2L v (0 : Nat)).lab.fst, (t2L v (0 : Nat)).lab.snd.fst, (t2L v (0 : Nat)).lab.snd.snd.fst, (t2L v (0 :
 Nat)).lab.snd.snd.snd.fst, (t2L v (0 : Nat)).lab.snd.snd.snd.snd.fst, ()) (List.take (t2L v (0 : Nat)).kids.length (List.drop (0 : Nat) (t2L v (0 : Nat)).kids))) = true ∧
 cntR (Rose.node ((t2L v (0 : Nat)).lab.fst, (t2L v (0 : Nat)).lab.snd.fst, (t2L v (0 : Nat)).lab.snd.snd.fst, (t2L v (0 : Nat)).lab.snd.snd.snd.fst, (t2L v (0 :
 Nat)).lab.snd.snd.snd.snd.fst, ()) (List.take (t2L v (0 : Nat)).kids.length (List.drop (0 : Nat) (t2L v (0 : Nat)).kids))) ≤ (1000000 : Nat) ∧ cntR (Rose.node ((t2L v (0
 : Nat)).lab.fst, (t2L v (0 : Nat)).lab.snd.fst, (t2L v (0 : Nat)).lab.snd.snd.fst, (t2L v (0 : Nat)).lab.snd.snd.snd.fst, (t2L v (0 : Nat)).lab.snd.snd.snd.snd.fst, ())
 (List.take (t2L v (0 : Nat)).kids.length (List.drop (0 : Nat) (t2L v (0 : Nat)).kids))) ≤ (1000000 : Nat) ∧ cntR (Rose.node ((t2L z.snd.fst.fst (0 : Nat)).lab.fst, (t2L
 z.snd.fst.fst (0 : Nat)).lab.snd.fst, (t2L z.snd.fst.fst (0 : Nat)).lab.snd.snd.fst, (t2L z.snd.fst.fst (0 : Nat)).lab.snd.snd.snd.fst, (t2L z.snd.fst.fst (0 :
 Nat)).lab.snd.snd.snd.snd.fst, ()) (List.take (t2L z.snd.fst.fst (0 : Nat)).kids.length (List.drop (0 : Nat) (t2L z.snd.fst.fst (0 : Nat)).kids))) ≤ (1000000 : Nat)))
 (ifB (!subR (Rose.node ((t2L v (0 : Nat)).lab.fst, (t2L v (0 : Nat)).lab.snd.fst, (t2L v (0 : Nat)).lab.snd.snd.fst, (t2L v (0 : Nat)).lab.snd.snd.snd.fst, (t2L v (0 :
 Nat)).lab.snd.snd.snd.snd.fst, ()) (List.take (t2L v (0 : Nat)).kids.length (List.drop (0 : Nat) (t2L v (0 : Nat)).kids))) (Rose.node ((t2L z.snd.fst.fst (0 :
 Nat)).lab.fst, (t2L z.snd.fst.fst (0 : Nat)).lab.snd.fst, (t2L z.snd.fst.fst (0 : Nat)).lab.snd.snd.fst, (t2L z.snd.fst.fst (0 : Nat)).lab.snd.snd.snd.fst, (t2L
 z.snd.fst.fst (0 : Nat)).lab.snd.snd.snd.snd.fst, ()) (List.take (t2L z.snd.fst.fst (0 : Nat)).kids.length (List.drop (0 : Nat) (t2L z.snd.fst.fst (0 : Nat)).kids))))
 (some (Ex.ret, [V.b false], [])) (some (Ex.normal, [V.ptr 0 0, V.ptr 1 0, V.sl TPd l, V.j k, V.j (IntKind.i64.wrap (i + (1 : Int)))], [some (Blk.box [V.sl TPd
 ts, V.sl FNd fs]), some (Blk.box [V.j w, V.s p, V.sl WCd ws, V.sl TCd v, V.sl NTd b, V.j t])])))))) (some (Ex.normal, [V.ptr 0 0, V.ptr 1 0, V.sl TPd l, V.i
 .i64 k, V.j (IntKind.i64.wrap (i + (1 : Int)))], [some (Blk.box [V.sl TPd ts, V.sl FNd fs]), some (Blk.box [V.j w, V.s p, V.sl WCd ws, V.sl TCd v, V.sl NTd b,
 V.j t])]))))) (some (Ex.exit 0, [V.ptr 0 0, V.ptr 1 0], [some (Blk.box [V.sl TPd ts, V.sl FNd fs]), some (Blk.box [V.j w, V.s p, V.sl WCd ws, V.sl TCd v, V.sl
 NTd b, V.j t])]))) : _) := by kernel_rfl
theorem sf17_tree (ts : List Tp) (fs : List Fa) (w : Int) (p : List UInt8) (ws : List Wt) (v : List Ty) (b : List Nt) (t : Int) : funK Tryz.prog Lqd5 (look [(4, sfE)]) Tryz.f39 [.agg [.sl TPd ts, .sl FNd fs], .agg [.j w, .s p, .sl WCd ws, .sl TCd v, .sl NTd b, .j t]] [] =
 ((ifB (!decide ((0 : Int) ≤ w ∧ w ≤ (100 : Int))) (some (V.b false, [])) (ifT (decide (p.length ≤ (4000000000 : Nat))) (ifB (!lvB (cut (47 : UInt8) p)) (some (V.b false,
 [])) (ifB (!goodFB ws) (some (V.b false, [])) (ifT (decide (v.length ≤ (4000000000 : Nat)) && nmL v) (ifB (!kindB v) (some (V.b false, [])) (ifB (!decide ((0 : Int) ≤ t ∧
 t ≤ (100000 : Int))) (some (V.b false, [])) (ifT (decide ((0 : Int) ≤ (0 : Int) ∧ (0 : Nat) ≤ ts.length ∧ (↑ts.length : Int) = (↑ts.length : Int) ∧ eqT (List Tp) ts ts ∧
 kindB v = true ∧ p.length ≤ (4000000000 : Nat) ∧ v.length ≤ (4000000000 : Nat)) && tssB ts) (ifB ((List.drop (0 : Nat) ts).all (viewB p (t2L v (0 : Nat)))) (ifT (decide
 (v.length ≤ (4000000000 : Nat)) && (nmL v && ntsB b)) (some (V.b (insB ts v b (0 : Nat) && decide (b.length ≤ (10 : Nat))), []))) (some (V.b false, []))))))))))) : _) := by kernel_rfl
theorem sf17_loop (l : List Tp) (fs : List Fa) (w : Int) (p : List UInt8) (ws : List Wt) (v : List Ty) (b : List Nt) (t : Int) (hk : kindB v = true) (hp : p.length ≤ 4000000000) (hv : v.length ≤ 4000000000) (ht : tssB l = true) (i : Nat) (h1 : i ≤ l.length) (ex : Ex) (d' : Dt)
  (hx : (Br.br ((l.drop i).all (viewB p (t2L v 0))) (.leaf ((.exit 0 : Ex), ([.ptr 0 0, .ptr 1 0], [some (.box [.sl TPd l, .sl FNd fs]), some (.box [.j w, .s p, .sl WCd ws, .sl TCd v, .sl NTd b, .j t])]))) (.leaf ((.ret : Ex), ([.b false], []))) : Br (Ex × Dt)).run = some (ex, d')) : Runs Tryz.prog Lqd5 (look [(4, sfE)]) 0 (body Tryz.f39 0) sfE ([.ptr 0 0, .ptr 1 0, .sl TPd l, .j (l.length : Int), .j (i : Int)], [some (.box [.sl TPd l, .sl FNd fs]), some (.box [.j w, .s p, .sl WCd ws, .sl TCd v, .sl NTd b, .j t])]) ex d' := by
 have hM : maxI = 9223372036854775807 := rfl
 obtain ⟨hl, _, hall⟩ := tss_all ht
 refine runs_all (l := l) (viewB p (t2L v 0)) (fun i => ([.ptr 0 0, .ptr 1 0, .sl TPd l, .j (l.length : Int), .j (i : Int)], [some (.box [.sl TPd l, .sl FNd fs]), some (.box [.j w, .s p, .sl WCd ws, .sl TCd v, .sl NTd b, .j t])])) (ex := ((.exit 0 : Ex), ([.ptr 0 0, .ptr 1 0], [some (.box [.sl TPd l, .sl FNd fs]), some (.box [.j w, .s p, .sl WCd ws, .sl TCd v, .sl NTd b, .j t])]))) (rt := ((.ret : Ex), ([.b false], []))) (by simp) (by simp) (fun n hlt => ?_) ?_ (l.length - i) i (by omega) ex d' hx
 ·have hr := sf17_round l fs w p ws v b t l l.length n
  try dsimp only [shr] at hr
  obtain ⟨⟨s1, s2, s3⟩, g1, g2, _⟩ := hall _ (List.getElem_mem hlt)
  obtain ⟨z1, z2, z3⟩ := t2_good hk
  obtain ⟨q1, q2, q3⟩ := good_facts z1
  rw [ifB_true (dcT (by omega)), ifT_true (by simp only [anE, dcE]; omega), ntN, gtE hlt, ifSome_s, wrap_succ (n := n) (by omega), ifT_true (dcT ⟨hp, s1⟩), tk_fit g1] at hr
  refine hr.trans ?_
  clear hr hall hx
  obtain ⟨m1, m2, m3⟩ := t2_good g2
  obtain ⟨r1, r2, r3⟩ := good_facts m1
  rw [ifT_true (dcT ⟨by omega, by omega, s2⟩), ifT_true (dcT ⟨by omega, by omega, hv⟩)]
  simp only [List.drop_zero, List.take_length, rose_eta']
  unfold viewB
  cases h3 : tk inL (cut 47 p) (cut 47 l[n].1) with
  | false => rfl
  | true =>
   rw [ifB_t, ifT_true (dcT ⟨r2, q2, by omega, by omega, by omega⟩)]
   cases subR (t2L v 0) (t2L l[n].2.1.1 0) <;> rfl
 ·have hr := sf17_round l fs w p ws v b t l l.length l.length
  try dsimp only [shr] at hr
  rw [ifB_false (dcF (by omega))] at hr
  exact hr
theorem sf17_ok : LoopsOk Tryz.prog Lqd5 (look [(4, sfE)]) 0 (Tryz.f39.body.getD .skip) := by
 refine loopsOk_one (a := body Tryz.f39 0) (by kernel_rfl) fun d ex d' h => ?_
 unfold sfE at h
 dsimp only at h
 split at h
 ·rename_i l k i bb bf
  split at h
  ·rename_i ts fs
   split at h
   ·rename_i w p ws v b t
    obtain ⟨hc, hx⟩ := need_some h
    clear h
    rw [anE] at hc
    obtain ⟨hc, ht⟩ := hc
    obtain ⟨h0, h1, h2, h3, h4, h5, h6⟩ := of_decide_eq_true hc
    have h3 : l = ts := h3
    subst h3
    subst h2
    obtain ⟨i, rfl⟩ := Int.eq_ofNat_of_zero_le h0
    simp only [ntN] at h1 hx
    exact sf17_loop l fs w p ws v b t h4 h5 h6 ht i h1 ex d' hx
   ·cases h
  ·cases h
 ·cases h
theorem sfan17 : Contract Tryz.prog 39 (Ent.rd1 fanSG).F := by
 refine fun_contract' (KnowsL.cons (enters_fn Tryz.func78 (by kernel_rfl) (by kernel_rfl)) l1In (KnowsL.cons (enters_fn Tryz.func79 (by kernel_rfl) (by kernel_rfl)) sgpat (KnowsL.cons (enters_fn Tryz.func80 (by kernel_rfl) (by kernel_rfl)) sgoodF (KnowsL.cons (enters_fn Tryz.func77 (by kernel_rfl) (by kernel_rfl)) sgsch (KnowsL.cons (enters_fn Tryz.func81 (by kernel_rfl) (by kernel_rfl)) l17F (KnowsL.cons (enters_fn Tryz.func83 (by kernel_rfl) (by kernel_rfl)) l2Tree (KnowsL.cons (enters_fn Tryz.func82 (by kernel_rfl) (by kernel_rfl)) (ssb_all 1000000) (KnowsL.cons (enters_fn Tryz.func84 (by kernel_rfl) (by kernel_rfl)) sins17 KnowsL.nil)))))))).knows (Λ := (look [(4, sfE)])) Tryz.func39 (c := Tryz.f39.body.getD .skip) (by kernel_rfl) fun vs bs r hq hv hb => ?_
 unfold Ent.F fanSG at hq
 dsimp only at hq
 split at hq
 ·rename_i ts fs w p ws v b t
  obtain ⟨hc, hx⟩ := need_some hq
  unfold fanNd at hc
  simp only [anE, dcE] at hc
  obtain ⟨ht, ⟨hp, hv⟩, hn, hb⟩ := hc
  refine ⟨sf17_ok, (sf17_tree ts fs w p ws v b t).trans (Eq.trans ?_ hx)⟩
  try dsimp only [shr]
  show _ = some _
  unfold fanJ
  rw [List.drop_zero]
  generalize hw : decide (0 ≤ w ∧ w ≤ 100) = c1
  generalize decide (0 ≤ t ∧ t ≤ 100000) = c2
  cases c1 with
  | false => rfl
  | true =>
   rw [Bool.not_true, ifB_f, ifT_true (dcT hp)]
   cases hl : lvB (cut 47 p) with
   | false => rfl
   | true =>
    cases goodFB ws with
    | false => rfl
    | true =>
     rw [Bool.not_true, ifB_f, ifB_f, ifT_true (by rw [anE]; exact ⟨dcT hv, hn⟩)]
     cases hk : kindB v with
     | false => rfl
     | true =>
      cases c2 with
      | false => rfl
      | true =>
       rw [Bool.not_true, ifB_f, ifB_f, ifT_true (by rw [anE]; exact ⟨dcT (by refine ⟨by omega, by omega, ?_, ?_, ?_, hp, hv⟩ <;> first | rfl | trivial), ht⟩)]
       cases ts.all (viewB p (t2L v 0)) with
       | false => rfl
       | true =>
        rw [ifB_t, ifT_true (by rw [anE, anE]; exact ⟨dcT hv, hn, hb⟩)]
        rfl
 ·cases hq

set_option synthInstance.maxSize 2000
set_option synthInstance.maxHeartbeats 400000
instance decWt7 : DecidableEq Wt := inferInstance
instance decNt7 : DecidableEq Nt := inferInstance
instance decFa70 : DecidableEq (List Nt × Int × Unit) := inferInstance
instance decFa71 : DecidableEq ((List Ty × Unit) × List Nt × Int × Unit) := inferInstance
instance decFa7 : DecidableEq Fa := inferInstance
def fnOK (ts : List Tp) (fs : List Fa) (i : Nat) : Bool := match fs[i]? with | some f => atW fs f.1 == (i : Int) && fanI ts f.1 f.2.1 f.2.2.1.1 f.2.2.2.1.1 f.2.2.2.2.1 f.2.2.2.2.2.1 | none => true
def fansB (ts : List Tp) (fs : List Fa) (i : Nat) : Bool := ((List.range fs.length).drop i).all (fnOK ts fs)
def szFB (f : Fa) : Bool := decide (f.2.1.length ≤ 4000000000 ∧ f.2.2.2.1.1.length ≤ 4000000000) && (nmL f.2.2.2.1.1 && ntsB f.2.2.2.2.1)
def szBk (ts : List Tp) (fs : List Fa) : Bool := decide (ts.length ≤ 4000000000 ∧ fs.length ≤ 4000000000) && (ts.all szTB && fs.all szFB)
def goodBk (ts : List Tp) (fs : List Fa) : Bool := topsB ts 0 && (decide (ts.length ≤ 4) && (decide (fs.length ≤ 4) && fansB ts fs 0))
def gbkG : List V → List Blk → Br (V × List (Option Blk))
 | [.agg [.sl (.pair .str (.pair (.pair (.slice (.pair (.int .i64) (.pair .str (.pair (.int .i64) (.pair .bool (.pair (.int .i64) (.pair (.int .i64) .unit))))))) .unit) (.pair (.int .i64) .unit))) ts, .sl (.pair (.int .i64) (.pair .str (.pair (.pair (.slice (.pair (.int .i64) (.pair (.int .i64) (.pair (.int .i64) (.pair .str (.pair (.int .i64) (.pair (.int .i64) .unit))))))) .unit) (.pair (.pair (.slice (.pair (.int .i64) (.pair .str (.pair (.int .i64) (.pair .bool (.pair (.int .i64) (.pair (.int .i64) .unit))))))) .unit) (.pair (.slice (.pair .str (.pair (.int .i64) (.pair .str .unit)))) (.pair (.int .i64) .unit)))))) fs]], [] => .need (szBk ts fs) (.leaf (.b (goodBk ts fs), []))
 | _, _ => .no
def gbE : LoopEnt := ⟨32, [1,14,15,16], [], [2], fun
 | ([.ptr 0 0, .sl (.pair (.int .i64) (.pair .str (.pair (.pair (.slice (.pair (.int .i64) (.pair (.int .i64) (.pair (.int .i64) (.pair .str (.pair (.int .i64) (.pair (.int .i64) .unit))))))) .unit) (.pair (.pair (.slice (.pair (.int .i64) (.pair .str (.pair (.int .i64) (.pair .bool (.pair (.int .i64) (.pair (.int .i64) .unit))))))) .unit) (.pair (.slice (.pair .str (.pair (.int .i64) (.pair .str .unit)))) (.pair (.int .i64) .unit)))))) l, .i .i64 k, .i .i64 i], [bb]) => (match bb with
  | some (.box [.sl (.pair .str (.pair (.pair (.slice (.pair (.int .i64) (.pair .str (.pair (.int .i64) (.pair .bool (.pair (.int .i64) (.pair (.int .i64) .unit))))))) .unit) (.pair (.int .i64) .unit))) ts, .sl (.pair (.int .i64) (.pair .str (.pair (.pair (.slice (.pair (.int .i64) (.pair (.int .i64) (.pair (.int .i64) (.pair .str (.pair (.int .i64) (.pair (.int .i64) .unit))))))) .unit) (.pair (.pair (.slice (.pair (.int .i64) (.pair .str (.pair (.int .i64) (.pair .bool (.pair (.int .i64) (.pair (.int .i64) .unit))))))) .unit) (.pair (.slice (.pair .str (.pair (.int .i64) (.pair .str .unit)))) (.pair (.int .i64) .unit)))))) fs]) => .need (decide (0 ≤ i ∧ i.toNat ≤ l.length ∧ k = l.length ∧ eqT (List Fa) l fs ∧ l.length ≤ 4000000000) && (tssB ts && l.all szFB)) (.br (fansB ts fs i.toNat) (.leaf (.exit 0, ([], []))) (.leaf (.ret, ([.b false], []))))
  | _ => .no)
 | _ => .no⟩

abbrev Lqd6 : FuncId → Option Ent := look [(41, .rd1 topsG), (42, .rd1 fanG), (43, .rd1 fanOG)]
theorem gb_round (ts : List Tp) (fs : List Fa) (l : List Fa) (k i : Int) : roundK Tryz.prog Lqd6 (look [(4, gbE)]) 0 (body Tryz.f12 0) gbE ([.ptr 0 0, .sl FNd l, .j k, .j i], [some (.box [.sl TPd ts, .sl FNd fs])]) =
 ((ifB (decide (i < k)) (ifT (decide ((0 : Int) ≤ i) && decide (i < (↑l.length : Int))) (ifSome l[i.toNat]? fun z => ifB (atW fs z.fst != i) (some (Ex.ret, [V.b false], []))
 (ifT (fanNd ts z.snd.fst z.snd.snd.snd.fst.fst z.snd.snd.snd.snd.fst) (ifB (!fanI ts z.fst z.snd.fst z.snd.snd.fst.fst z.snd.snd.snd.fst.fst z.snd.snd.snd.snd.fst
 z.snd.snd.snd.snd.snd.fst) (some (Ex.ret, [V.b false], [])) (some (Ex.normal, [V.ptr 0 0, V.sl FNd l, V.j k, V.j (IntKind.i64.wrap (i + (1 : Int)))], [some
 (Blk.box [V.sl TPd ts, V.sl FNd fs])])))))) (some (Ex.exit 0, [], []))) : _) := by kernel_rfl
theorem gb_tree (ts : List Tp) (fs : List Fa) : funK Tryz.prog Lqd6 (look [(4, gbE)]) Tryz.f12 [.agg [.sl TPd ts, .sl FNd fs]] [] =
 ((ifT (decide (ts.length ≤ (4000000000 : Nat)) && ts.all szTB) (ifB (!(topsB ts (0 : Nat) && decide (ts.length ≤ (4 : Nat)))) (some (V.b false, [])) (ifB (decide
 ((↑fs.length : Int) > (4 : Int))) (some (V.b false, [])) (ifT (decide ((0 : Int) ≤ (0 : Int) ∧ (0 : Nat) ≤ fs.length ∧ (↑fs.length : Int) = (↑fs.length : Int) ∧ eqT (List
 Fa) fs fs ∧ fs.length ≤ (4000000000 : Nat)) && (tssB ts && fs.all szFB)) (ifB (fansB ts fs (0 : Nat)) (some (V.b true, [])) (some (V.b false, []))))))) : _) := by kernel_rfl
theorem gb_loop (ts : List Tp) (l : List Fa) (hl : l.length ≤ 4000000000) (ht : tssB ts = true) (hs : l.all szFB = true) (i : Nat) (h1 : i ≤ l.length) (ex : Ex) (d' : Dt)
  (hx : (Br.br (fansB ts l i) (.leaf ((.exit 0 : Ex), ([], []))) (.leaf ((.ret : Ex), ([.b false], []))) : Br (Ex × Dt)).run = some (ex, d')) : Runs Tryz.prog Lqd6 (look [(4, gbE)]) 0 (body Tryz.f12 0) gbE ([.ptr 0 0, .sl FNd l, .j (l.length : Int), .j (i : Int)], [some (.box [.sl TPd ts, .sl FNd l])]) ex d' := by
 have hM : maxI = 9223372036854775807 := rfl
 refine runs_all (l := List.range l.length) (fnOK ts l) (fun i => ([.ptr 0 0, .sl FNd l, .j (l.length : Int), .j (i : Int)], [some (.box [.sl TPd ts, .sl FNd l])])) (ex := ((.exit 0 : Ex), ([], []))) (rt := ((.ret : Ex), ([.b false], []))) (by simp) (by simp) (fun n hn' => ?_) ?_ (l.length - i) i (by simp; omega) ex d' hx
 ·have hlt : n < l.length := by simpa using hn'
  have hr := gb_round ts l l l.length n
  try dsimp only [shr] at hr
  have s1 := List.all_eq_true.1 hs _ (List.getElem_mem hlt)
  unfold szFB at s1
  rw [ifB_true (dcT (by omega)), ifT_true (by simp only [anE, dcE]; omega), ntN, gtE hlt, ifSome_s, wrap_succ (n := n) (by omega)] at hr
  refine hr.trans ?_
  clear hr hx hs
  rw [List.getElem_range]
  have e : fnOK ts l n = (atW l l[n].1 == (n : Int) && fanI ts l[n].1 l[n].2.1 l[n].2.2.1.1 l[n].2.2.2.1.1 l[n].2.2.2.2.1 l[n].2.2.2.2.2.1) := by
   unfold fnOK
   rw [gtE hlt]
  rw [e]
  generalize l[n] = f at s1 ⊢
  have s2 : fanNd ts f.2.1 f.2.2.2.1.1 f.2.2.2.2.1 = true := by
   unfold fanNd
   rw [ht, Bool.true_and]
   exact s1
  by_cases q : atW l f.1 = (n : Int)
  ·have h5 : (atW l f.1 == (n : Int)) = true := beq_iff_eq.2 q
   have h6 : (atW l f.1 != (n : Int)) = false := bne_eq_false_iff_eq.2 q
   rw [h5, h6, ifB_f, ifT_true s2]
   cases fanI ts f.1 f.2.1 f.2.2.1.1 f.2.2.2.1.1 f.2.2.2.2.1 f.2.2.2.2.2.1 <;> rfl
  ·have h5 : (atW l f.1 == (n : Int)) = false := beq_eq_false_iff_ne.2 q
   have h6 : (atW l f.1 != (n : Int)) = true := bne_iff_ne.2 q
   rw [h5, h6]
   rfl
 ·have hr := gb_round ts l l l.length l.length
  try dsimp only [shr] at hr
  rw [ifB_false (dcF (by omega))] at hr
  simp only [List.length_range]
  exact hr
theorem gb_ok : LoopsOk Tryz.prog Lqd6 (look [(4, gbE)]) 0 (Tryz.f12.body.getD .skip) := by
 refine loopsOk_one (a := body Tryz.f12 0) (by kernel_rfl) fun d ex d' h => ?_
 unfold gbE at h
 dsimp only at h
 split at h
 ·rename_i l k i bb
  split at h
  ·rename_i ts fs
   obtain ⟨hc, hx⟩ := need_some h
   clear h
   rw [anE, anE] at hc
   obtain ⟨hc, ht, hs⟩ := hc
   obtain ⟨h0, h1, h2, h3, h4⟩ := of_decide_eq_true hc
   have h3 : l = fs := h3
   subst h3
   subst h2
   obtain ⟨i, rfl⟩ := Int.eq_ofNat_of_zero_le h0
   simp only [ntN] at h1 hx
   exact gb_loop ts l h4 ht hs i h1 ex d' hx
  ·cases h
 ·cases h
theorem tops_ok_all {ts : List Tp} (h : topsB ts 0 = true) : ts.all tOK = true := by
 unfold topsB at h
 rw [List.drop_zero, List.all_eq_true] at h
 rw [List.all_eq_true]
 intro t ht
 obtain ⟨n, hn, rfl⟩ := List.mem_iff_getElem.1 ht
 have := h n (by simpa using hn)
 unfold topB at this
 rw [gtE hn] at this
 exact ((anE _ _).mp this).1
theorem igoodbk : Contract Tryz.prog 12 (Ent.rd1 gbkG).F := by
 refine fun_contract' (KnowsL.cons (enters_fn Tryz.func41 (by kernel_rfl) (by kernel_rfl)) itops (KnowsL.cons (enters_fn Tryz.func42 (by kernel_rfl) (by kernel_rfl)) ifan (KnowsL.cons (enters_fn Tryz.func43 (by kernel_rfl) (by kernel_rfl)) ifan17 KnowsL.nil))).knows (Λ := (look [(4, gbE)])) Tryz.func12 (c := Tryz.f12.body.getD .skip) (by kernel_rfl) fun vs bs r hq hv hb => ?_
 unfold Ent.F gbkG at hq
 dsimp only at hq
 split at hq
 ·rename_i ts fs
  obtain ⟨hc, hx⟩ := need_some hq
  unfold szBk at hc
  rw [anE, anE] at hc
  obtain ⟨hc, h2, h3⟩ := hc
  obtain ⟨h0, h1⟩ := of_decide_eq_true hc
  refine ⟨gb_ok, (gb_tree ts fs).trans (Eq.trans ?_ hx)⟩
  try dsimp only [shr]
  show _ = some _
  unfold goodBk
  rw [ifT_true (by rw [anE]; exact ⟨dcT h0, h2⟩)]
  cases h4 : topsB ts 0 with
  | false => rfl
  | true =>
   by_cases h5 : ts.length ≤ 4
   ·rw [dcT h5]
    by_cases h6 : fs.length ≤ 4
    ·have h7 : tssB ts = true := by unfold tssB; rw [dcT h0, h2, tops_ok_all h4]; rfl
     rw [dcT h6]
     rw [Bool.true_and, Bool.not_true, ifB_f, ifB_false (dcF (by omega)), ifT_true (by rw [anE, anE]; exact ⟨dcT (by refine ⟨by omega, by omega, ?_, ?_, h1⟩ <;> first | rfl | trivial), h7, h3⟩)]
     cases fansB ts fs 0 <;> rfl
    ·rw [dcF h6]
     rw [Bool.true_and, Bool.not_true, ifB_f, ifB_true (dcT (by omega))]
     rfl
   ·rw [dcF h5]
    rfl
 ·cases hq

def noW (w : Int) (o : Fa) : Bool := !(o.1 == w)
def fnS (ts : List Tp) (fs : List Fa) (i : Nat) : Bool := match fs[i]? with | some f => fanJ ts f.1 f.2.1 f.2.2.1.1 f.2.2.2.1.1 f.2.2.2.2.1 f.2.2.2.2.2.1 && (fs.take i).all (noW f.1) | none => true
def fansS (ts : List Tp) (fs : List Fa) (i : Nat) : Bool := ((List.range fs.length).drop i).all (fnS ts fs)
def goodBkS (ts : List Tp) (fs : List Fa) : Bool := topsB ts 0 && (decide (ts.length ≤ 4) && (decide (fs.length ≤ 4) && fansS ts fs 0))
def gbkSG : List V → List Blk → Br (V × List (Option Blk))
 | [.agg [.sl (.pair .str (.pair (.pair (.slice (.pair (.int .i64) (.pair .str (.pair (.int .i64) (.pair .bool (.pair (.int .i64) (.pair (.int .i64) .unit))))))) .unit) (.pair (.int .i64) .unit))) ts, .sl (.pair (.int .i64) (.pair .str (.pair (.pair (.slice (.pair (.int .i64) (.pair (.int .i64) (.pair (.int .i64) (.pair .str (.pair (.int .i64) (.pair (.int .i64) .unit))))))) .unit) (.pair (.pair (.slice (.pair (.int .i64) (.pair .str (.pair (.int .i64) (.pair .bool (.pair (.int .i64) (.pair (.int .i64) .unit))))))) .unit) (.pair (.slice (.pair .str (.pair (.int .i64) (.pair .str .unit)))) (.pair (.int .i64) .unit)))))) fs]], [] => .need (szBk ts fs) (.leaf (.b (goodBkS ts fs), []))
 | _, _ => .no
def sb1E : LoopEnt := ⟨67, [1,10,11,12], [1], [2], fun
 | ([.ptr 0 0, .sl (.pair .str (.pair (.pair (.slice (.pair (.int .i64) (.pair .str (.pair (.int .i64) (.pair .bool (.pair (.int .i64) (.pair (.int .i64) .unit))))))) .unit) (.pair (.int .i64) .unit))) l, .i .i64 k, .i .i64 i], [bb]) => (match bb with
  | some (.box [.sl (.pair .str (.pair (.pair (.slice (.pair (.int .i64) (.pair .str (.pair (.int .i64) (.pair .bool (.pair (.int .i64) (.pair (.int .i64) .unit))))))) .unit) (.pair (.int .i64) .unit))) ts, .sl (.pair (.int .i64) (.pair .str (.pair (.pair (.slice (.pair (.int .i64) (.pair (.int .i64) (.pair (.int .i64) (.pair .str (.pair (.int .i64) (.pair (.int .i64) .unit))))))) .unit) (.pair (.pair (.slice (.pair (.int .i64) (.pair .str (.pair (.int .i64) (.pair .bool (.pair (.int .i64) (.pair (.int .i64) .unit))))))) .unit) (.pair (.slice (.pair .str (.pair (.int .i64) (.pair .str .unit)))) (.pair (.int .i64) .unit)))))) fs]) => .need (decide (0 ≤ i ∧ i.toNat ≤ l.length ∧ k = l.length ∧ eqT (List Tp) l ts ∧ l.length ≤ 4000000000) && l.all szTB) (.br (topsB ts i.toNat) (.leaf ((.exit 0 : Ex), ([.ptr 0 0], [some (.box [.sl (.pair .str (.pair (.pair (.slice (.pair (.int .i64) (.pair .str (.pair (.int .i64) (.pair .bool (.pair (.int .i64) (.pair (.int .i64) .unit))))))) .unit) (.pair (.int .i64) .unit))) ts, .sl (.pair (.int .i64) (.pair .str (.pair (.pair (.slice (.pair (.int .i64) (.pair (.int .i64) (.pair (.int .i64) (.pair .str (.pair (.int .i64) (.pair (.int .i64) .unit))))))) .unit) (.pair (.pair (.slice (.pair (.int .i64) (.pair .str (.pair (.int .i64) (.pair .bool (.pair (.int .i64) (.pair (.int .i64) .unit))))))) .unit) (.pair (.slice (.pair .str (.pair (.int .i64) (.pair .str .unit)))) (.pair (.int .i64) .unit)))))) fs])]))) (.leaf (.ret, ([.b false], []))))
  | _ => .no)
 | _ => .no⟩
def sb2E : LoopEnt := ⟨67, [1,40,41,42], [], [2], fun
 | ([.ptr 0 0, .sl (.pair (.int .i64) (.pair .str (.pair (.pair (.slice (.pair (.int .i64) (.pair (.int .i64) (.pair (.int .i64) (.pair .str (.pair (.int .i64) (.pair (.int .i64) .unit))))))) .unit) (.pair (.pair (.slice (.pair (.int .i64) (.pair .str (.pair (.int .i64) (.pair .bool (.pair (.int .i64) (.pair (.int .i64) .unit))))))) .unit) (.pair (.slice (.pair .str (.pair (.int .i64) (.pair .str .unit)))) (.pair (.int .i64) .unit)))))) l, .i .i64 k, .i .i64 i], [bb]) => (match bb with
  | some (.box [.sl (.pair .str (.pair (.pair (.slice (.pair (.int .i64) (.pair .str (.pair (.int .i64) (.pair .bool (.pair (.int .i64) (.pair (.int .i64) .unit))))))) .unit) (.pair (.int .i64) .unit))) ts, .sl (.pair (.int .i64) (.pair .str (.pair (.pair (.slice (.pair (.int .i64) (.pair (.int .i64) (.pair (.int .i64) (.pair .str (.pair (.int .i64) (.pair (.int .i64) .unit))))))) .unit) (.pair (.pair (.slice (.pair (.int .i64) (.pair .str (.pair (.int .i64) (.pair .bool (.pair (.int .i64) (.pair (.int .i64) .unit))))))) .unit) (.pair (.slice (.pair .str (.pair (.int .i64) (.pair .str .unit)))) (.pair (.int .i64) .unit)))))) fs]) => .need (decide (0 ≤ i ∧ i.toNat ≤ l.length ∧ k = l.length ∧ eqT (List Fa) l fs ∧ l.length ≤ 4000000000) && (tssB ts && l.all szFB)) (.br (fansS ts fs i.toNat) (.leaf (.exit 2, ([], []))) (.leaf (.ret, ([.b false], []))))
  | _ => .no)
 | _ => .no⟩
def sb3E : LoopEnt := ⟨67, [1,6,40,41,42,54,55,56], [1,40,41,42], [2], fun
 | (.ptr 0 0 :: .ptr 1 0 :: .sl (.pair (.int .i64) (.pair .str (.pair (.pair (.slice (.pair (.int .i64) (.pair (.int .i64) (.pair (.int .i64) (.pair .str (.pair (.int .i64) (.pair (.int .i64) .unit))))))) .unit) (.pair (.pair (.slice (.pair (.int .i64) (.pair .str (.pair (.int .i64) (.pair .bool (.pair (.int .i64) (.pair (.int .i64) .unit))))))) .unit) (.pair (.slice (.pair .str (.pair (.int .i64) (.pair .str .unit)))) (.pair (.int .i64) .unit)))))) l :: .i .i64 k0 :: .i .i64 i0 :: vs, [bb, bf]) => (match vs with
  | [.sl (.pair (.int .i64) (.pair .str (.pair (.pair (.slice (.pair (.int .i64) (.pair (.int .i64) (.pair (.int .i64) (.pair .str (.pair (.int .i64) (.pair (.int .i64) .unit))))))) .unit) (.pair (.pair (.slice (.pair (.int .i64) (.pair .str (.pair (.int .i64) (.pair .bool (.pair (.int .i64) (.pair (.int .i64) .unit))))))) .unit) (.pair (.slice (.pair .str (.pair (.int .i64) (.pair .str .unit)))) (.pair (.int .i64) .unit)))))) q, .i .i64 k, .i .i64 i] => (match bb with
   | some (.box [.sl (.pair .str (.pair (.pair (.slice (.pair (.int .i64) (.pair .str (.pair (.int .i64) (.pair .bool (.pair (.int .i64) (.pair (.int .i64) .unit))))))) .unit) (.pair (.int .i64) .unit))) ts, .sl (.pair (.int .i64) (.pair .str (.pair (.pair (.slice (.pair (.int .i64) (.pair (.int .i64) (.pair (.int .i64) (.pair .str (.pair (.int .i64) (.pair (.int .i64) .unit))))))) .unit) (.pair (.pair (.slice (.pair (.int .i64) (.pair .str (.pair (.int .i64) (.pair .bool (.pair (.int .i64) (.pair (.int .i64) .unit))))))) .unit) (.pair (.slice (.pair .str (.pair (.int .i64) (.pair .str .unit)))) (.pair (.int .i64) .unit)))))) fs]) => (match bf with
    | some (.box [.i .i64 w, .s p, .sl (.pair (.int .i64) (.pair (.int .i64) (.pair (.int .i64) (.pair .str (.pair (.int .i64) (.pair (.int .i64) .unit)))))) ws, .sl (.pair (.int .i64) (.pair .str (.pair (.int .i64) (.pair .bool (.pair (.int .i64) (.pair (.int .i64) .unit)))))) v, .sl (.pair .str (.pair (.int .i64) (.pair .str .unit))) b, .i .i64 t]) => .need (decide (0 ≤ i ∧ i.toNat ≤ q.length ∧ k = q.length ∧ q.length ≤ 4000000000)) (.br ((q.drop i.toNat).all (noW w)) (.leaf ((.exit 4 : Ex), ([.ptr 0 0, .sl (.pair (.int .i64) (.pair .str (.pair (.pair (.slice (.pair (.int .i64) (.pair (.int .i64) (.pair (.int .i64) (.pair .str (.pair (.int .i64) (.pair (.int .i64) .unit))))))) .unit) (.pair (.pair (.slice (.pair (.int .i64) (.pair .str (.pair (.int .i64) (.pair .bool (.pair (.int .i64) (.pair (.int .i64) .unit))))))) .unit) (.pair (.slice (.pair .str (.pair (.int .i64) (.pair .str .unit)))) (.pair (.int .i64) .unit)))))) l, .i .i64 k0, .i .i64 i0], [some (.box [.sl (.pair .str (.pair (.pair (.slice (.pair (.int .i64) (.pair .str (.pair (.int .i64) (.pair .bool (.pair (.int .i64) (.pair (.int .i64) .unit))))))) .unit) (.pair (.int .i64) .unit))) ts, .sl (.pair (.int .i64) (.pair .str (.pair (.pair (.slice (.pair (.int .i64) (.pair (.int .i64) (.pair (.int .i64) (.pair .str (.pair (.int .i64) (.pair (.int .i64) .unit))))))) .unit) (.pair (.pair (.slice (.pair (.int .i64) (.pair .str (.pair (.int .i64) (.pair .bool (.pair (.int .i64) (.pair (.int .i64) .unit))))))) .unit) (.pair (.slice (.pair .str (.pair (.int .i64) (.pair .str .unit)))) (.pair (.int .i64) .unit)))))) fs])]))) (.leaf (.ret, ([.b false], []))))
    | _ => .no)
   | _ => .no)
  | _ => .no)
 | _ => .no⟩

abbrev Lqd7 : FuncId → Option Ent := look [(37, .rd1 l17TG), (38, .rd1 satG), (39, .rd1 fanSG)]
abbrev Lqd8 : Nat → Option LoopEnt := look [(2, sb1E), (10, sb2E), (15, sb3E)]
theorem sb1_round (ts : List Tp) (fs : List Fa) (l : List Tp) (k i : Int) : roundK Tryz.prog Lqd7 Lqd8 0 (body Tryz.f10 0) sb1E ([.ptr 0 0, .sl TPd l, .j k, .j i], [some (.box [.sl TPd ts, .sl FNd fs])]) =
 ((ifB (decide (i < k)) (ifT (decide ((0 : Int) ≤ i) && decide (i < (↑l.length : Int))) (ifSome l[i.toNat]? fun z => ifT (szTB (z.fst, (z.snd.fst.fst, ()), z.snd.snd.fst,
 ())) (ifB (!tOK (z.fst, (z.snd.fst.fst, ()), z.snd.snd.fst, ())) (some (Ex.ret, [V.b false], [])) (ifB (atT ts z.fst != i) (some (Ex.ret, [V.b false], [])) (some
 (Ex.normal, [V.ptr 0 0, V.sl TPd l, V.j k, V.j (IntKind.i64.wrap (i + (1 : Int)))], [some (Blk.box [V.sl TPd ts, V.sl FNd fs])])))))) (some (Ex.exit 0, [V.ptr 0
 0], [some (Blk.box [V.sl TPd ts, V.sl FNd fs])]))) : _) := by kernel_rfl
theorem sb2_round (ts : List Tp) (fs : List Fa) (l : List Fa) (k i : Int) : roundK Tryz.prog Lqd7 Lqd8 0 (body Tryz.f10 1) sb2E ([.ptr 0 0, .sl FNd l, .j k, .j i], [some (.box [.sl TPd ts, .sl FNd fs])]) =
 ((ifB (decide (i < k)) (ifT (decide ((0 : Int) ≤ i) && decide (i < (↑l.length : Int))) (ifSome l[i.toNat]? fun z => ifT (fanNd ts z.snd.fst z.snd.snd.snd.fst.fst
 z.snd.snd.snd.snd.fst) (ifB (!fanJ ts z.fst z.snd.fst z.snd.snd.fst.fst z.snd.snd.snd.fst.fst z.snd.snd.snd.snd.fst z.snd.snd.snd.snd.snd.fst) (some (Ex.ret, [V.b false],
 [])) (ifT (decide ((0 : Int) ≤ i) && decide (i ≤ (↑fs.length : Int))) (ifT (decide ((0 : Int) ≤ (0 : Int) ∧ (0 : Nat) ≤ (List.take (i.toNat - (0 : Nat)) (List.drop (0 :
 Nat) fs)).length ∧ (↑(List.take (i.toNat - (0 : Nat)) (List.drop (0 : Nat) fs)).length : Int) = (↑(List.take (i.toNat - (0 : Nat)) (List.drop (0 : Nat) fs)).length : Int)
 ∧ (List.take (i.toNat - (0 : Nat)) (List.drop (0 : Nat) fs)).length ≤ (4000000000 : Nat))) (ifB ((List.drop (0 : Nat) (List.take (i.toNat - (0 : Nat)) (List.drop (0 :
 Nat) fs))).all (noW z.fst)) (some (Ex.normal, [V.ptr 0 0, V.sl FNd l, V.j k, V.j (IntKind.i64.wrap (i + (1 : Int)))], [some (Blk.box [V.sl TPd ts, V.sl FNd
 fs])])) (some (Ex.ret, [V.b false], [])))))))) (some (Ex.exit 2, [], []))) : _) := by kernel_rfl
theorem sb3_round (ts : List Tp) (fs : List Fa) (w : Int) (p : List UInt8) (ws : List Wt) (v : List Ty) (b : List Nt) (t : Int) (l : List Fa) (k0 i0 : Int) (q : List Fa) (k i : Int) : roundK Tryz.prog Lqd7 Lqd8 0 (body Tryz.f10 2) sb3E ([.ptr 0 0, .ptr 1 0, .sl FNd l, .j k0, .j i0, .sl FNd q, .j k, .j i], [some (.box [.sl TPd ts, .sl FNd fs]), some (.box [.j w, .s p, .sl WCd ws, .sl TCd v, .sl NTd b, .j t])]) =
 ((ifB (decide (i < k)) (ifT (decide ((0 : Int) ≤ i) && decide (i < (↑q.length : Int))) (ifSome q[i.toNat]? fun z => ifB (z.fst == w) (some (Ex.ret, [V.b false], [])) (some
 (Ex.normal, [V.ptr 0 0, V.ptr 1 0, V.sl FNd l, V.j k0, V.j i0, V.sl FNd q, V.j k, V.j (IntKind.i64.wrap (i + (1 : Int)))], [some (Blk.box [V.sl TPd
 ts, V.sl FNd fs]), some (Blk.box [V.j w, V.s p, V.sl WCd ws, V.sl TCd v, V.sl NTd b, V.j t])])))) (some (Ex.exit 4, [V.ptr 0 0, V.sl FNd l, V.j k0, V.i
 .i64 i0], [some (Blk.box [V.sl TPd ts, V.sl FNd fs])]))) : _) := by kernel_rfl
theorem sb_tree (ts : List Tp) (fs : List Fa) : funK Tryz.prog Lqd7 Lqd8 Tryz.f10 [.agg [.sl TPd ts, .sl FNd fs]] [] =
 ((ifT (decide ((0 : Int) ≤ (0 : Int) ∧ (0 : Nat) ≤ ts.length ∧ (↑ts.length : Int) = (↑ts.length : Int) ∧ eqT (List Tp) ts ts ∧ ts.length ≤ (4000000000 : Nat)) && ts.all
 szTB) (ifB (topsB ts (0 : Nat)) (ifB (decide ((↑ts.length : Int) > (4 : Int))) (some (V.b false, [])) (ifB (decide ((↑fs.length : Int) > (4 : Int))) (some (V.b false,
 [])) (ifT (decide ((0 : Int) ≤ (0 : Int) ∧ (0 : Nat) ≤ fs.length ∧ (↑fs.length : Int) = (↑fs.length : Int) ∧ eqT (List Fa) fs fs ∧ fs.length ≤ (4000000000 : Nat)) &&
 (tssB ts && fs.all szFB)) (ifB (fansS ts fs (0 : Nat)) (some (V.b true, [])) (some (V.b false, [])))))) (some (V.b false, [])))) : _) := by kernel_rfl
theorem sb1_loop (l : List Tp) (fs : List Fa) (hl : l.length ≤ 4000000000) (hs : l.all szTB = true) (i : Nat) (h1 : i ≤ l.length) (ex : Ex) (d' : Dt)
  (hx : (Br.br (topsB l i) (.leaf ((.exit 0 : Ex), ([.ptr 0 0], [some (.box [.sl TPd l, .sl FNd fs])]))) (.leaf ((.ret : Ex), ([.b false], []))) : Br (Ex × Dt)).run = some (ex, d')) : Runs Tryz.prog Lqd7 Lqd8 0 (body Tryz.f10 0) sb1E ([.ptr 0 0, .sl TPd l, .j (l.length : Int), .j (i : Int)], [some (.box [.sl TPd l, .sl FNd fs])]) ex d' := by
 have hM : maxI = 9223372036854775807 := rfl
 refine runs_all (l := List.range l.length) (topB l) (fun i => ([.ptr 0 0, .sl TPd l, .j (l.length : Int), .j (i : Int)], [some (.box [.sl TPd l, .sl FNd fs])])) (ex := ((.exit 0 : Ex), ([.ptr 0 0], [some (.box [.sl TPd l, .sl FNd fs])]))) (rt := ((.ret : Ex), ([.b false], []))) (by simp) (by simp) (fun n hn' => ?_) ?_ (l.length - i) i (by simp; omega) ex d' hx
 ·have hlt : n < l.length := by simpa using hn'
  have hr := sb1_round l fs l l.length n
  try dsimp only [shr] at hr
  have s1 := List.all_eq_true.1 hs _ (List.getElem_mem hlt)
  rw [ifB_true (dcT (by omega)), ifT_true (by simp only [anE, dcE]; omega), ntN, gtE hlt, ifSome_s, wrap_succ (n := n) (by omega)] at hr
  refine hr.trans ?_
  clear hr hx hs
  rw [List.getElem_range]
  have e : topB l n = (tOK l[n] && atT l l[n].1 == (n : Int)) := by
   unfold topB
   rw [gtE hlt]
  rw [e]
  generalize l[n] = f at s1 ⊢
  obtain ⟨f1, ⟨f2, ⟨⟩⟩, f3, ⟨⟩⟩ := f
  dsimp only
  rw [ifT_true s1]
  cases tOK (f1, (f2, ()), f3, ()) with
  | false => rfl
  | true =>
   by_cases q : atT l f1 = (n : Int)
   ·rw [show (atT l f1 == (n : Int)) = true from beq_iff_eq.2 q, show (atT l f1 != (n : Int)) = false from bne_eq_false_iff_eq.2 q]
    rfl
   ·rw [show (atT l f1 == (n : Int)) = false from beq_eq_false_iff_ne.2 q, show (atT l f1 != (n : Int)) = true from bne_iff_ne.2 q]
    rfl
 ·have hr := sb1_round l fs l l.length l.length
  try dsimp only [shr] at hr
  rw [ifB_false (dcF (by omega))] at hr
  simp only [List.length_range]
  exact hr
theorem sb2_loop (ts : List Tp) (l : List Fa) (hl : l.length ≤ 4000000000) (ht : tssB ts = true) (hs : l.all szFB = true) (i : Nat) (h1 : i ≤ l.length) (ex : Ex) (d' : Dt)
  (hx : (Br.br (fansS ts l i) (.leaf ((.exit 2 : Ex), ([], []))) (.leaf ((.ret : Ex), ([.b false], []))) : Br (Ex × Dt)).run = some (ex, d')) : Runs Tryz.prog Lqd7 Lqd8 0 (body Tryz.f10 1) sb2E ([.ptr 0 0, .sl FNd l, .j (l.length : Int), .j (i : Int)], [some (.box [.sl TPd ts, .sl FNd l])]) ex d' := by
 have hM : maxI = 9223372036854775807 := rfl
 refine runs_all (l := List.range l.length) (fnS ts l) (fun i => ([.ptr 0 0, .sl FNd l, .j (l.length : Int), .j (i : Int)], [some (.box [.sl TPd ts, .sl FNd l])])) (ex := ((.exit 2 : Ex), ([], []))) (rt := ((.ret : Ex), ([.b false], []))) (by simp) (by simp) (fun n hn' => ?_) ?_ (l.length - i) i (by simp; omega) ex d' hx
 ·have hlt : n < l.length := by simpa using hn'
  have hr := sb2_round ts l l l.length n
  try dsimp only [shr] at hr
  have s1 := List.all_eq_true.1 hs _ (List.getElem_mem hlt)
  unfold szFB at s1
  rw [ifB_true (dcT (by omega)), ifT_true (by simp only [anE, dcE]; omega), ntN, gtE hlt, ifSome_s, wrap_succ (n := n) (by omega), Nat.sub_zero, List.drop_zero, List.drop_zero] at hr
  refine hr.trans ?_
  clear hr hx hs
  rw [List.getElem_range]
  have e : fnS ts l n = (fanJ ts l[n].1 l[n].2.1 l[n].2.2.1.1 l[n].2.2.2.1.1 l[n].2.2.2.2.1 l[n].2.2.2.2.2.1 && (l.take n).all (noW l[n].1)) := by
   unfold fnS
   rw [gtE hlt]
  rw [e]
  generalize l[n] = f at s1 ⊢
  have s2 : fanNd ts f.2.1 f.2.2.2.1.1 f.2.2.2.2.1 = true := by
   unfold fanNd
   rw [ht, Bool.true_and]
   exact s1
  rw [ifT_true s2]
  cases fanJ ts f.1 f.2.1 f.2.2.1.1 f.2.2.2.1.1 f.2.2.2.2.1 f.2.2.2.2.2.1 with
  | false => rfl
  | true =>
   have h9 : (l.take n).length ≤ 4000000000 := by simp; omega
   rw [Bool.not_true, ifB_f, ifT_true (show (decide (0 ≤ (n : Int)) && decide ((n : Int) ≤ (l.length : Int))) = true by simp only [anE, dcE]; omega), ifT_true (dcT ⟨by omega, by omega, rfl, h9⟩)]
   cases (l.take n).all (noW f.1) <;> rfl
 ·have hr := sb2_round ts l l l.length l.length
  try dsimp only [shr] at hr
  rw [ifB_false (dcF (by omega))] at hr
  simp only [List.length_range]
  exact hr
theorem sb3_loop (ts : List Tp) (fs : List Fa) (w : Int) (p : List UInt8) (ws : List Wt) (v : List Ty) (b : List Nt) (t : Int) (l : List Fa) (k0 i0 : Int) (q : List Fa) (hq : q.length ≤ 4000000000) (i : Nat) (h1 : i ≤ q.length) (ex : Ex) (d' : Dt)
  (hx : (Br.br ((q.drop i).all (noW w)) (.leaf ((.exit 4 : Ex), ([.ptr 0 0, .sl FNd l, .j k0, .j i0], [some (.box [.sl TPd ts, .sl FNd fs])]))) (.leaf ((.ret : Ex), ([.b false], []))) : Br (Ex × Dt)).run = some (ex, d')) : Runs Tryz.prog Lqd7 Lqd8 0 (body Tryz.f10 2) sb3E ([.ptr 0 0, .ptr 1 0, .sl FNd l, .j k0, .j i0, .sl FNd q, .j (q.length : Int), .j (i : Int)], [some (.box [.sl TPd ts, .sl FNd fs]), some (.box [.j w, .s p, .sl WCd ws, .sl TCd v, .sl NTd b, .j t])]) ex d' := by
 have hM : maxI = 9223372036854775807 := rfl
 refine runs_all (l := q) (noW w) (fun i => ([.ptr 0 0, .ptr 1 0, .sl FNd l, .j k0, .j i0, .sl FNd q, .j (q.length : Int), .j (i : Int)], [some (.box [.sl TPd ts, .sl FNd fs]), some (.box [.j w, .s p, .sl WCd ws, .sl TCd v, .sl NTd b, .j t])])) (ex := ((.exit 4 : Ex), ([.ptr 0 0, .sl FNd l, .j k0, .j i0], [some (.box [.sl TPd ts, .sl FNd fs])]))) (rt := ((.ret : Ex), ([.b false], []))) (by simp) (by simp) (fun n hlt => ?_) ?_ (q.length - i) i (by omega) ex d' hx
 ·have hr := sb3_round ts fs w p ws v b t l k0 i0 q q.length n
  try dsimp only [shr] at hr
  rw [ifB_true (dcT (by omega)), ifT_true (by simp only [anE, dcE]; omega), ntN, gtE hlt, ifSome_s, wrap_succ (n := n) (by omega)] at hr
  refine hr.trans ?_
  unfold noW
  cases q[n].1 == w <;> rfl
 ·have hr := sb3_round ts fs w p ws v b t l k0 i0 q q.length q.length
  try dsimp only [shr] at hr
  rw [ifB_false (dcF (by omega))] at hr
  exact hr
theorem sb_ok : LoopsOk Tryz.prog Lqd7 Lqd8 0 (Tryz.f10.body.getD .skip) := by
 refine LoopsI.loops (cs := [body Tryz.f10 0, body Tryz.f10 1, body Tryz.f10 2]) ?_ (by kernel_rfl)
 refine .cons (ent := sb1E) (by rfl) (fun d ex d' h => ?_) (.cons (ent := sb2E) (by rfl) (fun d ex d' h => ?_) (.cons (ent := sb3E) (by rfl) (fun d ex d' h => ?_) .nil))
 ·unfold sb1E at h
  dsimp only at h
  split at h
  ·rename_i l k i bb
   split at h
   ·rename_i ts fs
    obtain ⟨hc, hx⟩ := need_some h
    clear h
    rw [anE] at hc
    obtain ⟨hc, hs⟩ := hc
    obtain ⟨h0, h1, h2, h3, h4⟩ := of_decide_eq_true hc
    have h3 : l = ts := h3
    subst h3
    subst h2
    obtain ⟨i, rfl⟩ := Int.eq_ofNat_of_zero_le h0
    simp only [ntN] at h1 hx
    exact sb1_loop l fs h4 hs i h1 ex d' hx
   ·cases h
  ·cases h
 ·unfold sb2E at h
  dsimp only at h
  split at h
  ·rename_i l k i bb
   split at h
   ·rename_i ts fs
    obtain ⟨hc, hx⟩ := need_some h
    clear h
    rw [anE, anE] at hc
    obtain ⟨hc, ht, hs⟩ := hc
    obtain ⟨h0, h1, h2, h3, h4⟩ := of_decide_eq_true hc
    have h3 : l = fs := h3
    subst h3
    subst h2
    obtain ⟨i, rfl⟩ := Int.eq_ofNat_of_zero_le h0
    simp only [ntN] at h1 hx
    exact sb2_loop ts l h4 ht hs i h1 ex d' hx
   ·cases h
  ·cases h
 ·unfold sb3E at h
  dsimp only at h
  split at h
  ·rename_i l k0 i0 vs bb bf
   split at h
   ·rename_i q k i
    split at h
    ·rename_i ts fs
     split at h
     ·rename_i w p ws v b t
      obtain ⟨hc, hx⟩ := need_some h
      clear h
      obtain ⟨h0, h1, h2, h3⟩ := of_decide_eq_true hc
      subst h2
      obtain ⟨i, rfl⟩ := Int.eq_ofNat_of_zero_le h0
      simp only [ntN] at h1 hx
      exact sb3_loop ts fs w p ws v b t l k0 i0 q h3 i h1 ex d' hx
     ·cases h
    ·cases h
   ·cases h
  ·cases h
theorem sgoodbk : Contract Tryz.prog 10 (Ent.rd1 gbkSG).F := by
 refine fun_contract' (KnowsL.cons (enters_fn Tryz.func37 (by kernel_rfl) (by kernel_rfl)) l17T (KnowsL.cons (enters_fn Tryz.func38 (by kernel_rfl) (by kernel_rfl)) sat (KnowsL.cons (enters_fn Tryz.func39 (by kernel_rfl) (by kernel_rfl)) sfan17 KnowsL.nil))).knows (Λ := Lqd8) Tryz.func10 (c := Tryz.f10.body.getD .skip) (by kernel_rfl) fun vs bs r hq hv hb => ?_
 unfold Ent.F gbkSG at hq
 dsimp only at hq
 split at hq
 ·rename_i ts fs
  obtain ⟨hc, hx⟩ := need_some hq
  unfold szBk at hc
  rw [anE, anE] at hc
  obtain ⟨hc, h2, h3⟩ := hc
  obtain ⟨h0, h1⟩ := of_decide_eq_true hc
  refine ⟨sb_ok, (sb_tree ts fs).trans (Eq.trans ?_ hx)⟩
  try dsimp only [shr]
  show _ = some _
  unfold goodBkS
  rw [ifT_true (by rw [anE]; exact ⟨dcT (by refine ⟨by omega, by omega, ?_, ?_, h0⟩ <;> first | rfl | trivial), h2⟩)]
  cases h4 : topsB ts 0 with
  | false => rfl
  | true =>
   by_cases h5 : ts.length ≤ 4
   ·rw [dcT h5, ifB_t, ifB_false (dcF (by omega))]
    by_cases h6 : fs.length ≤ 4
    ·have h7 : tssB ts = true := by unfold tssB; rw [dcT h0, h2, tops_ok_all h4]; rfl
     rw [dcT h6]
     rw [ifB_false (dcF (by omega)), ifT_true (by rw [anE, anE]; exact ⟨dcT (by refine ⟨by omega, by omega, ?_, ?_, h1⟩ <;> first | rfl | trivial), h7, h3⟩)]
     cases fansS ts fs 0 <;> rfl
    ·rw [dcF h6, ifB_true (dcT (by omega))]
     rfl
   ·rw [dcF h5, ifB_t, ifB_true (dcT (by omega))]
    rfl
 ·cases hq

end Go.Proofs.YtcjnmdcagfgjoaaGreatDoor.Den
