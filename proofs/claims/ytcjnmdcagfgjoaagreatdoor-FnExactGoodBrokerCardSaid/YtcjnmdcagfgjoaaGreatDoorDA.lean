/- What functions of the program do, by the machine: Base Sch1 Sch2 Sch3 Sch4 Sch5 Sch6 Sch7 Sch8 Sch9 Sch10 Sch11 Sch12 Sch13 Val1 Val4 Val5 Val6 Val7 Val10. -/
import Derived.Test.YtcjnmdcagfgjoaaGreatDoorDen4
import Derived.KernelRfl
import Derived.Test.YtcjnmdcagfgjoaaGreatDoorRows
namespace Go.Proofs.YtcjnmdcagfgjoaaGreatDoor.Den
open Go.Proofs
set_option maxRecDepth 100000
abbrev LCd : Cd := .pair (.int .i64) (.pair .str (.pair (.int .i64) (.pair .bool (.pair (.int .i64) .unit))))
abbrev TCd : Cd := .pair (.int .i64) (.pair .str (.pair (.int .i64) (.pair .bool (.pair (.int .i64) (.pair (.int .i64) .unit)))))
abbrev NCd : Cd := .pair (.int .i64) (.pair .str (.pair (.int .i64) (.pair (.int .i64) (.pair .bool .unit))))
abbrev VCd : Cd := .pair (.int .i64) (.pair .str (.pair (.int .i64) (.pair .bool .unit)))
abbrev WCd : Cd := .pair (.int .i64) (.pair (.int .i64) (.pair (.int .i64) (.pair .str (.pair (.int .i64) (.pair (.int .i64) .unit)))))
abbrev NTd : Cd := .pair .str (.pair (.int .i64) (.pair .str .unit))
abbrev FCd : Cd := .pair (.int .i64) (.pair (.int .i64) (.pair (.int .i64) (.pair .str .unit)))
abbrev PCd : Cd := .pair FCd (.pair (.int .i64) .unit)
abbrev TPd : Cd := .pair .str (.pair (.pair (.slice TCd) .unit) (.pair (.int .i64) .unit))
abbrev FNd : Cd := .pair (.int .i64) (.pair .str (.pair (.pair (.slice WCd) .unit) (.pair (.pair (.slice TCd) .unit) (.pair (.slice NTd) (.pair (.int .i64) .unit)))))
abbrev V.j (n : Int) : V := .i .i64 n
theorem dcT {p : Prop} [Decidable p] (h : p) : decide p = true := decide_eq_true h
theorem dcF {p : Prop} [Decidable p] (h : ¬ p) : decide p = false := decide_eq_false h
theorem dcE {p : Prop} [Decidable p] : (decide p = true) = p := decide_eq_true_eq
theorem anE (a b : Bool) : ((a && b) = true) = (a = true ∧ b = true) := Bool.and_eq_true a b
theorem ntN (n : Nat) : (n : Int).toNat = n := Int.toNat_natCast n
theorem gtE {α : Type _} {l : List α} {i : Nat} (h : i < l.length) : l[i]? = some l[i] := List.getElem?_eq_getElem h
def withinG : List V → List Blk → Br (V × List (Option Blk))
 | [.i .i64 a, .i .i64 b, .i .i64 c], [] => .leaf (.b (decide (b ≤ a ∧ a ≤ c)), [])
 | _, _ => .no

theorem within_fun (a b c : Int) : funK Tryz.prog (look []) (look []) Tryz.f88 [.j a, .j b, .j c] [] = (.leaf (.b (decide (b ≤ a ∧ a ≤ c)), []) : Br (V × List (Option Blk))).run := by
 have e : funK Tryz.prog (look []) (look []) Tryz.f88 [.j a, .j b, .j c] [] = ((ifB (decide (a ≥ b)) (some (V.b (decide (a ≤ c)), [])) (some (V.b false, []))) : _) := by kernel_rfl
 rw [e]
 clear e
 by_cases q1 : a ≥ b <;> by_cases q2 : a ≤ c <;> simp [q1, q2, Br.run] <;> omega
theorem within : Contract Tryz.prog 88 (Ent.rd1 withinG).F := by
 refine fun_contract' KnowsL.nil.knows (Λ := look []) Tryz.func88 (c := Tryz.f88.body.getD .skip) (by kernel_rfl) fun vs bs r' hq hv hb => ?_
 unfold Ent.F withinG at hq
 dsimp only at hq
 split at hq
 ·rename_i a b c
  exact ⟨loopsOk_nil _, (within_fun a b c).trans hq⟩
 ·cases hq
theorem l1In_fun (a b c : Int) : funK Tryz.prog (look []) (look []) Tryz.f78 [.j a, .j b, .j c] [] = (.leaf (.b (decide (b ≤ a ∧ a ≤ c)), []) : Br (V × List (Option Blk))).run := by
 have e : funK Tryz.prog (look []) (look []) Tryz.f78 [.j a, .j b, .j c] [] = ((ifB (decide (a ≥ b)) (some (V.b (decide (a ≤ c)), [])) (some (V.b false, []))) : _) := by kernel_rfl
 rw [e]
 clear e
 by_cases q1 : a ≥ b <;> by_cases q2 : a ≤ c <;> simp [q1, q2, Br.run] <;> omega
theorem l1In : Contract Tryz.prog 78 (Ent.rd1 withinG).F := by
 refine fun_contract' KnowsL.nil.knows (Λ := look []) Tryz.func78 (c := Tryz.f78.body.getD .skip) (by kernel_rfl) fun vs bs r' hq hv hb => ?_
 unfold Ent.F withinG at hq
 dsimp only at hq
 split at hq
 ·rename_i a b c
  exact ⟨loopsOk_nil _, (l1In_fun a b c).trans hq⟩
 ·cases hq

abbrev Lab := Int × List UInt8 × Int × Bool × Int × Unit
abbrev Ty := Int × List UInt8 × Int × Bool × Int × Int × Unit
def lowB (b : UInt8) : Bool := decide (97 ≤ b.toNat) && decide (b.toNat ≤ 122)
def nameB (s : List UInt8) : Bool := s.all lowB && (decide (1 ≤ s.length) && decide (s.length ≤ 10))
def holdsK (k : Int) : Bool := k == 4 || k == 5
def partB (k : Int) (x : Lab) : Bool := if k = 5 then nameB x.2.1 && (decide (1 ≤ x.2.2.1) && decide (x.2.2.1 ≤ 30)) else x.2.1 == [] && x.2.2.1 == 0 && !x.2.2.2.1
def nameG : List V → List Blk → Br (V × List (Option Blk))
 | [.s s], [] => .need (decide (s.length ≤ maxI)) (.leaf (.b (nameB s), []))
 | _, _ => .no
def kholdsG : List V → List Blk → Br (V × List (Option Blk))
 | [.tp (.pair (.int .i64) (.pair .str (.pair (.int .i64) (.pair .bool (.pair (.int .i64) .unit))))) z 0], [] => .leaf (.b (holdsK z.lab.1), [])
 | _, _ => .no
def l2HoldsG : List V → List Blk → Br (V × List (Option Blk))
 | [.i .i64 k], [] => .leaf (.b (holdsK k), [])
 | _, _ => .no
def partOfG : List V → List Blk → Br (V × List (Option Blk))
 | [.tp (.pair (.int .i64) (.pair .str (.pair (.int .i64) (.pair .bool (.pair (.int .i64) .unit))))) z 0, .i .i64 k], [] => .need (decide (z.lab.2.1.length ≤ maxI)) (.leaf (.b (partB k z.lab), []))
 | _, _ => .no
def inameE : LoopEnt := ⟨23, [0,5,6], [0], [2], fun
 | ([.s s, .i .i64 m, .i .i64 i], []) => .need (decide (0 ≤ i ∧ i.toNat ≤ s.length ∧ s.length ≤ maxI ∧ m = s.length)) (.br ((s.drop i.toNat).all lowB) (.leaf (.exit 0, ([.s s], []))) (.leaf (.ret, ([.b false], []))))
 | _ => .no⟩
def snameE : LoopEnt := ⟨23, [0,3], [0], [2], fun
 | ([.s s, .i .i64 i], []) => .need (decide (0 ≤ i ∧ i.toNat ≤ s.length ∧ s.length ≤ maxI)) (.br ((s.drop i.toNat).all lowB) (.leaf (.exit 0, ([.s s], []))) (.leaf (.ret, ([.b false], []))))
 | _ => .no⟩

theorem iname_round (s : List UInt8) (m i : Int) : roundK Tryz.prog (look [(88, .rd1 withinG)]) (look [(2, inameE)]) 0 (body Tryz.f227 0) inameE ([.s s, .j m, .j i], []) =
 ((ifB (decide (i < m)) (ifT (decide ((0 : Int) ≤ i)) (ifSome s[i.toNat]? fun z => ifB (decide ((↑z.toNat : Int) < (97 : Int))) (some (Ex.ret, [V.b false], [])) (ifT (decide
 ((0 : Int) ≤ i)) (ifSome s[i.toNat]? fun z => ifB (decide ((↑z.toNat : Int) > (122 : Int))) (some (Ex.ret, [V.b false], [])) (some (Ex.normal, [V.s s, V.j m, V.i
 .i64 (IntKind.i64.wrap (i + (1 : Int)))], [])))))) (some (Ex.exit 0, [V.s s], []))) : _) := by kernel_rfl
theorem iname_ok : LoopsOk Tryz.prog (look [(88, .rd1 withinG)]) (look [(2, inameE)]) 0 (Tryz.f227.body.getD .skip) := by
 refine loopsOk_one (a := body Tryz.f227 0) (by kernel_rfl) fun d e d' h => ?_
 unfold inameE at h
 dsimp only at h
 split at h
 ·rename_i s m i
  obtain ⟨hc, hx⟩ := need_some h
  clear h
  obtain ⟨h0, h1, h2, rfl⟩ := of_decide_eq_true hc
  obtain ⟨i, rfl⟩ := Int.eq_ofNat_of_zero_le h0
  rw [ntN] at h1 hx
  refine runs_all (l := s) lowB (fun i => ([.s s, .j (↑s.length : Int), .j (i : Int)], [])) (ex := (.exit 0, ([.s s], []))) (rt := (.ret, ([.b false], []))) (by simp) (by simp) (fun i hi => ?_) ?_ (s.length - i) i (by omega) e d' hx
  ·have hr := iname_round s s.length i
   rw [ifB_true (dcT (by omega))] at hr
   simp only [ntN, gtE hi, ifSome_s, wrap_succ (n := i) (by omega)] at hr
   refine hr.trans ?_
   have hb := s[i].toNat_lt
   have hz : (0 : Int) ≤ (i : Int) := by omega
   simp only [hz, decide_true, ifT_t]
   unfold lowB
   generalize s[i].toNat = b at *
   have c1 : decide ((b : Int) < 97) = !decide (97 ≤ b) := by rw [← decide_not]; exact decide_eq_decide.2 (by omega)
   have c2 : decide ((b : Int) > 122) = !decide (b ≤ 122) := by rw [← decide_not]; exact decide_eq_decide.2 (by omega)
   simp only [c1, c2]
   cases decide (97 ≤ b) <;> cases decide (b ≤ 122) <;> rfl
  ·have hr := iname_round s s.length s.length
   rw [ifB_false (dcF (by omega))] at hr
   exact hr
 ·cases h
theorem iname_fun (s : List UInt8) (hc : s.length ≤ maxI) : funK Tryz.prog (look [(88, .rd1 withinG)]) (look [(2, inameE)]) Tryz.f227 [.s s] [] = some (.b (nameB s), []) := by
 have e : funK Tryz.prog (look [(88, .rd1 withinG)]) (look [(2, inameE)]) Tryz.f227 [.s s] [] = ((ifT (decide ((0 : Int) ≤ (0 : Int) ∧ (0 : Nat) ≤ s.length ∧ s.length ≤ maxI ∧ (↑s.length : Int) = (↑s.length : Int))) (ifB ((List.drop (0 : Nat) s).all lowB) (some (V.b
 (decide ((1 : Int) ≤ (↑s.length : Int) ∧ (↑s.length : Int) ≤ (10 : Int))), [])) (some (V.b false, [])))) : _) := by kernel_rfl
 rw [e]
 clear e
 have hM : maxI = 9223372036854775807 := rfl
 rw [ifT_true (dcT (by simp; try omega))]
 simp only [Int.toNat_zero, List.drop_zero]
 unfold nameB
 have d1 : decide (1 ≤ (s.length : Int) ∧ (s.length : Int) ≤ 10) = (decide (1 ≤ s.length) && decide (s.length ≤ 10)) := by
  rw [← Bool.decide_and]; exact decide_eq_decide.2 (by omega)
 cases s.all lowB
 ·rfl
 ·rw [ifB_t, d1]; rfl
theorem iname : Contract Tryz.prog 227 (Ent.rd1 nameG).F := by
 refine fun_contract' (KnowsL.cons (enters_fn Tryz.func88 (by kernel_rfl) (by kernel_rfl)) within KnowsL.nil).knows (Λ := (look [(2, inameE)])) Tryz.func227 (c := Tryz.f227.body.getD .skip) (by kernel_rfl) fun vs bs r hq hv hb => ?_
 unfold Ent.F nameG at hq
 dsimp only at hq
 split at hq
 ·rename_i s
  obtain ⟨hc, hx⟩ := need_some hq
  exact ⟨iname_ok, (iname_fun s (of_decide_eq_true hc)).trans hx⟩
 ·cases hq
theorem sname_round (s : List UInt8) (i : Int) : roundK Tryz.prog (look [(78, .rd1 withinG)]) (look [(2, snameE)]) 0 (body Tryz.f164 0) snameE ([.s s, .j i], []) =
 ((ifB (decide (i < (↑s.length : Int))) (ifT (decide ((0 : Int) ≤ i)) (ifSome s[i.toNat]? fun z => ifB (decide ((↑z.toNat : Int) < (97 : Int))) (some (Ex.ret, [V.b false],
 [])) (ifT (decide ((0 : Int) ≤ i)) (ifSome s[i.toNat]? fun z => ifB (decide ((↑z.toNat : Int) > (122 : Int))) (some (Ex.ret, [V.b false], [])) (some (Ex.normal, [V.s s,
 V.j (IntKind.i64.wrap (i + (1 : Int)))], [])))))) (some (Ex.exit 0, [V.s s], []))) : _) := by kernel_rfl
theorem sname_ok : LoopsOk Tryz.prog (look [(78, .rd1 withinG)]) (look [(2, snameE)]) 0 (Tryz.f164.body.getD .skip) := by
 refine loopsOk_one (a := body Tryz.f164 0) (by kernel_rfl) fun d e d' h => ?_
 unfold snameE at h
 dsimp only at h
 split at h
 ·rename_i s i
  obtain ⟨hc, hx⟩ := need_some h
  clear h
  obtain ⟨h0, h1, h2⟩ := of_decide_eq_true hc
  obtain ⟨i, rfl⟩ := Int.eq_ofNat_of_zero_le h0
  rw [ntN] at h1 hx
  refine runs_all (l := s) lowB (fun i => ([.s s, .j (i : Int)], [])) (ex := (.exit 0, ([.s s], []))) (rt := (.ret, ([.b false], []))) (by simp) (by simp) (fun i hi => ?_) ?_ (s.length - i) i (by omega) e d' hx
  ·have hr := sname_round s i
   rw [ifB_true (dcT (by omega))] at hr
   simp only [ntN, gtE hi, ifSome_s, wrap_succ (n := i) (by omega)] at hr
   refine hr.trans ?_
   have hb := s[i].toNat_lt
   have hz : (0 : Int) ≤ (i : Int) := by omega
   simp only [hz, decide_true, ifT_t]
   unfold lowB
   generalize s[i].toNat = b at *
   have c1 : decide ((b : Int) < 97) = !decide (97 ≤ b) := by rw [← decide_not]; exact decide_eq_decide.2 (by omega)
   have c2 : decide ((b : Int) > 122) = !decide (b ≤ 122) := by rw [← decide_not]; exact decide_eq_decide.2 (by omega)
   simp only [c1, c2]
   cases decide (97 ≤ b) <;> cases decide (b ≤ 122) <;> rfl
  ·have hr := sname_round s s.length
   rw [ifB_false (dcF (by omega))] at hr
   exact hr
 ·cases h
theorem sname_fun (s : List UInt8) (hc : s.length ≤ maxI) : funK Tryz.prog (look [(78, .rd1 withinG)]) (look [(2, snameE)]) Tryz.f164 [.s s] [] = some (.b (nameB s), []) := by
 have e : funK Tryz.prog (look [(78, .rd1 withinG)]) (look [(2, snameE)]) Tryz.f164 [.s s] [] = ((ifT (decide ((0 : Int) ≤ (0 : Int) ∧ (0 : Nat) ≤ s.length ∧ s.length ≤ maxI)) (ifB ((List.drop (0 : Nat) s).all lowB) (some (V.b (decide ((1 : Int) ≤ (↑s.length : Int) ∧
 (↑s.length : Int) ≤ (10 : Int))), [])) (some (V.b false, [])))) : _) := by kernel_rfl
 rw [e]
 clear e
 have hM : maxI = 9223372036854775807 := rfl
 rw [ifT_true (dcT (by simp; try omega))]
 simp only [Int.toNat_zero, List.drop_zero]
 unfold nameB
 have d1 : decide (1 ≤ (s.length : Int) ∧ (s.length : Int) ≤ 10) = (decide (1 ≤ s.length) && decide (s.length ≤ 10)) := by
  rw [← Bool.decide_and]; exact decide_eq_decide.2 (by omega)
 cases s.all lowB
 ·rfl
 ·rw [ifB_t, d1]; rfl
theorem sname : Contract Tryz.prog 164 (Ent.rd1 nameG).F := by
 refine fun_contract' (KnowsL.cons (enters_fn Tryz.func78 (by kernel_rfl) (by kernel_rfl)) l1In KnowsL.nil).knows (Λ := (look [(2, snameE)])) Tryz.func164 (c := Tryz.f164.body.getD .skip) (by kernel_rfl) fun vs bs r hq hv hb => ?_
 unfold Ent.F nameG at hq
 dsimp only at hq
 split at hq
 ·rename_i s
  obtain ⟨hc, hx⟩ := need_some hq
  exact ⟨sname_ok, (sname_fun s (of_decide_eq_true hc)).trans hx⟩
 ·cases hq
theorem kholds_fun (z : Rose Lab) : funK Tryz.prog (look []) (look []) Tryz.f169 [.tp LCd z 0] [] = (.leaf (.b (holdsK z.lab.1), []) : Br (V × List (Option Blk))).run := by
 have e : funK Tryz.prog (look []) (look []) Tryz.f169 [.tp LCd z 0] [] = ((ifB (z.lab.fst == (4 : Int)) (some (V.b true, [])) (some (V.b (z.lab.fst == (5 : Int)), []))) : _) := by kernel_rfl
 rw [e]
 clear e
 unfold holdsK
 cases z.lab.1 == 4 <;> rfl
theorem kholds : Contract Tryz.prog 169 (Ent.rd1 kholdsG).F := by
 refine fun_contract' KnowsL.nil.knows (Λ := look []) Tryz.func169 (c := Tryz.f169.body.getD .skip) (by kernel_rfl) fun vs bs r' hq hv hb => ?_
 unfold Ent.F kholdsG at hq
 dsimp only at hq
 split at hq
 ·rename_i z
  exact ⟨loopsOk_nil _, (kholds_fun z).trans hq⟩
 ·cases hq
theorem l2Holds_fun (k : Int) : funK Tryz.prog (look []) (look []) Tryz.f162 [.j k] [] = (.leaf (.b (holdsK k), []) : Br (V × List (Option Blk))).run := by
 have e : funK Tryz.prog (look []) (look []) Tryz.f162 [.j k] [] = ((ifB (k == (4 : Int)) (some (V.b true, [])) (some (V.b (k == (5 : Int)), []))) : _) := by kernel_rfl
 rw [e]
 clear e
 unfold holdsK
 cases k == 4 <;> rfl
theorem l2Holds : Contract Tryz.prog 162 (Ent.rd1 l2HoldsG).F := by
 refine fun_contract' KnowsL.nil.knows (Λ := look []) Tryz.func162 (c := Tryz.f162.body.getD .skip) (by kernel_rfl) fun vs bs r' hq hv hb => ?_
 unfold Ent.F l2HoldsG at hq
 dsimp only at hq
 split at hq
 ·rename_i k
  exact ⟨loopsOk_nil _, (l2Holds_fun k).trans hq⟩
 ·cases hq
theorem partOf_fun (z : Rose Lab) (k : Int) (hc : z.lab.2.1.length ≤ maxI) : funK Tryz.prog (look [(227, .rd1 nameG), (88, .rd1 withinG)]) (look []) Tryz.f205 [.tp LCd z 0, .j k] [] = some (.b (partB k z.lab), []) := by
 have e : funK Tryz.prog (look [(227, .rd1 nameG), (88, .rd1 withinG)]) (look []) Tryz.f205 [.tp LCd z 0, .j k] [] = ((ifB (k == (5 : Int)) (ifT (decide (List.length z.lab.snd.fst ≤ maxI)) (ifB (nameB z.lab.snd.fst) (some (V.b (decide ((1 : Int) ≤ z.lab.snd.snd.fst ∧ z.lab.snd.snd.fst ≤
 (30 : Int))), [])) (some (V.b false, [])))) (ifB (z.lab.snd.fst == nilT UInt8) (ifB (z.lab.snd.snd.fst == (0 : Int)) (some (V.b !z.lab.snd.snd.snd.fst, [])) (some (V.b
 false, []))) (some (V.b false, [])))) : _) := by kernel_rfl
 rw [e]
 clear e
 rw [dcT hc]
 unfold partB
 have d1 : decide (1 ≤ z.lab.2.2.1 ∧ z.lab.2.2.1 ≤ 30) = (decide (1 ≤ z.lab.2.2.1) && decide (z.lab.2.2.1 ≤ 30)) := Bool.decide_and ..
 by_cases q : k = 5
 ·subst q
  rw [ifB_true (by rfl), if_pos rfl, d1]
  cases nameB z.lab.2.1 <;> rfl
 ·rw [ifB_false (beq_false_of_ne q), if_neg q]
  cases z.lab.2.1 == [] <;> cases z.lab.2.2.1 == 0 <;> rfl
theorem partOf : Contract Tryz.prog 205 (Ent.rd1 partOfG).F := by
 refine fun_contract' (KnowsL.cons (enters_fn Tryz.func227 (by kernel_rfl) (by kernel_rfl)) iname (KnowsL.cons (enters_fn Tryz.func88 (by kernel_rfl) (by kernel_rfl)) within KnowsL.nil)).knows (Λ := look []) Tryz.func205 (c := Tryz.f205.body.getD .skip) (by kernel_rfl) fun vs bs r hq hv hb => ?_
 unfold Ent.F partOfG at hq
 dsimp only at hq
 split at hq
 ·rename_i z k
  obtain ⟨hc, hx⟩ := need_some hq
  exact ⟨loopsOk_nil _, (partOf_fun z k (of_decide_eq_true hc)).trans hx⟩
 ·cases hq

def upAt (l : List Ty) (i : Nat) : Option Int := (l[i]?).map fun x => x.2.2.2.2.1
def labAt (l : List Ty) (i : Nat) : Lab := match l[i]? with | some x => (x.1, x.2.1, x.2.2.1, x.2.2.2.1, x.2.2.2.2.2.1, ()) | none => (0, [], 0, false, 0, ())
def kloop (g : Nat → Rose Lab × Nat) (l : List Ty) (a : Nat) : Nat → Nat → List (Rose Lab) → List (Rose Lab) × Nat
 | 0, e, ks => (ks, e)
 | n + 1, e, ks => if upAt l e = some (a : Int) then kloop g l a n (g e).2 (ks ++ [(g e).1]) else (ks, e)
def kfr (l : List Ty) : Nat → Nat → Rose Lab × Nat
 | 0, a => (.node (labAt l a) [], a + 1)
 | f + 1, a =>
  let r := bif holdsK (labAt l a).1 then kloop (kfr l f) l a l.length (a + 1) [] else ([], a + 1)
  (.node (labAt l a) r.1, r.2)
def kf (l : List Ty) (a : Nat) : Rose Lab × Nat := kfr l l.length a
def kfG (n : Nat) : List V → List Blk → Br (V × List (Option Blk))
 | [.sl (.pair (.int .i64) (.pair .str (.pair (.int .i64) (.pair .bool (.pair (.int .i64) (.pair (.int .i64) .unit)))))) l, .i .i64 a], [] => .need (decide (0 ≤ a ∧ a.toNat < l.length ∧ l.length ≤ 4000000000 ∧ l.length - a.toNat ≤ n)) (.leaf (.tup [.ptr 0 0, .i .i64 ((kf l a.toNat).2 : Int)], [some (.box [.i .i64 (kf l a.toNat).1.lab.1, .s (kf l a.toNat).1.lab.2.1, .i .i64 (kf l a.toNat).1.lab.2.2.1, .b (kf l a.toNat).1.lab.2.2.2.1, .i .i64 (kf l a.toNat).1.lab.2.2.2.2.1, .ref 1 0 (kf l a.toNat).1.kids.length]), some (.row false none (.tree (.pair (.int .i64) (.pair .str (.pair (.int .i64) (.pair .bool (.pair (.int .i64) .unit)))))) (kf l a.toNat).1.kids)]))
 | _, _ => .no
def kindFromG : List V → List Blk → Br (V × List (Option Blk))
 | [.sl (.pair (.int .i64) (.pair .str (.pair (.int .i64) (.pair .bool (.pair (.int .i64) (.pair (.int .i64) .unit)))))) l, .i .i64 a], [] => .need (decide (0 ≤ a ∧ a.toNat < l.length ∧ l.length ≤ 4000000000)) (.leaf (.tup [.ptr 0 0, .i .i64 ((kf l a.toNat).2 : Int)], [some (.box [.i .i64 (kf l a.toNat).1.lab.1, .s (kf l a.toNat).1.lab.2.1, .i .i64 (kf l a.toNat).1.lab.2.2.1, .b (kf l a.toNat).1.lab.2.2.2.1, .i .i64 (kf l a.toNat).1.lab.2.2.2.2.1, .ref 1 0 (kf l a.toNat).1.kids.length]), some (.row false none (.tree (.pair (.int .i64) (.pair .str (.pair (.int .i64) (.pair .bool (.pair (.int .i64) .unit)))))) (kf l a.toNat).1.kids)]))
 | _, _ => .no
def kfE (n : Nat) : LoopEnt := ⟨65, [0,1,7,8], [7,8], [], fun
 | ([.sl (.pair (.int .i64) (.pair .str (.pair (.int .i64) (.pair .bool (.pair (.int .i64) (.pair (.int .i64) .unit)))))) l, .i .i64 a, .ptr 0 0, .i .i64 e], [some (.box [.i .i64 x0, .s x1, .i .i64 x2, .b x3, .i .i64 x4, .ref 1 0 k]), some (.row false none (.tree (.pair (.int .i64) (.pair .str (.pair (.int .i64) (.pair .bool (.pair (.int .i64) .unit)))))) ks)]) => .need (decide (0 ≤ a ∧ a < e ∧ a.toNat < l.length ∧ e.toNat ≤ l.length ∧ l.length ≤ 4000000000 ∧ k = ks.length ∧ ks.length ≤ e.toNat ∧ l.length - a.toNat ≤ n + 1)) (.leaf (.exit 0, ([.ptr 0 0, .i .i64 ((bif holdsK x0 then kloop (kf l) l a.toNat l.length e.toNat ks else (ks, e.toNat)).2 : Int)], [some (.box [.i .i64 x0, .s x1, .i .i64 x2, .b x3, .i .i64 x4, .ref 1 0 (bif holdsK x0 then kloop (kf l) l a.toNat l.length e.toNat ks else (ks, e.toNat)).1.length]), some (.row false none (.tree (.pair (.int .i64) (.pair .str (.pair (.int .i64) (.pair .bool (.pair (.int .i64) .unit)))))) (bif holdsK x0 then kloop (kf l) l a.toNat l.length e.toNat ks else (ks, e.toNat)).1)])))
 | _ => .no⟩

abbrev Lqa0 (n : Nat) : FuncId → Option Ent := look [(134, .rd1 (kfG n)), (169, .rd1 kholdsG)]
theorem kf_round (n : Nat) (l : List Ty) (a e : Int) (x0 : Int) (x1 : List UInt8) (x2 : Int) (x3 : Bool) (x4 : Int) (k : Nat) (ks : List (Rose Lab)) : roundK Tryz.prog (Lqa0 n) (look [(4, kfE n)]) 0 (body Tryz.f134 0) (kfE n) ([.sl TCd l, .j a, .ptr 0 0, .j e], [some (.box [.j x0, .s x1, .j x2, .b x3, .j x4, .ref 1 0 k]), some (.row false none (.tree LCd) ks)]) =
 ((ifB (holdsK (Rose.node (x0, x1, x2, x3, x4, ()) (List.take k (List.drop (0 : Nat) ks))).lab.fst) (ifB (decide (e < (↑l.length : Int))) (ifT (decide ((0 : Int) ≤ e) &&
 decide (e < (↑l.length : Int))) (ifSome l[e.toNat]? fun z => ifB (z.snd.snd.snd.snd.fst == a) (ifT (decide ((0 : Int) ≤ e ∧ e.toNat < l.length ∧ l.length ≤ (4000000000 :
 Nat) ∧ l.length - e.toNat ≤ n)) (ifT (decide ((k + (1 : Nat)) * (8 : Nat) ≤ (140737488355328 : Nat)) && decide (k + (1 : Nat) ≤ maxI)) (some (Ex.normal, [V.sl TCd l, V.i
 .i64 a, V.ptr 0 0, V.j (↑(kf l e.toNat).snd : Int)], [some (Blk.box [V.j x0, V.s x1, V.j x2, V.b x3, V.j x4, V.ref 1 0 (k + (1 : Nat))]), some
 (Blk.row false none LCd.tree (List.take k (List.drop (0 : Nat) ks) ++ Rose.node ((kf l e.toNat).fst.lab.fst, (kf l e.toNat).fst.lab.snd.fst, (kf l
 e.toNat).fst.lab.snd.snd.fst, (kf l e.toNat).fst.lab.snd.snd.snd.fst, (kf l e.toNat).fst.lab.snd.snd.snd.snd.fst, ()) (List.take (kf l e.toNat).fst.kids.length (List.drop
 (0 : Nat) (kf l e.toNat).fst.kids)) :: nilT LCd.tree.den))])))) (some (Ex.exit 0, [V.ptr 0 0, V.j e], [some (Blk.box [V.j x0, V.s x1, V.j x2, V.b x3, V.i
 .i64 x4, V.ref 1 0 k]), some (Blk.row false none LCd.tree ks)])))) (some (Ex.exit 0, [V.ptr 0 0, V.j e], [some (Blk.box [V.j x0, V.s x1, V.j x2, V.b x3,
 V.j x4, V.ref 1 0 k]), some (Blk.row false none LCd.tree ks)]))) (some (Ex.exit 0, [V.ptr 0 0, V.j e], [some (Blk.box [V.j x0, V.s x1, V.j x2, V.b x3,
 V.j x4, V.ref 1 0 k]), some (Blk.row false none LCd.tree ks)]))) : _) := by kernel_rfl
theorem kf_tree (n : Nat) (l : List Ty) (a : Int) : funN Tryz.prog (Lqa0 n) (look [(4, kfE n)]) Tryz.f134 [.sl TCd l, .j a] [] =
 ((ifT (decide ((0 : Int) ≤ a) && decide (a < (↑l.length : Int))) (ifSome l[a.toNat]? fun z => ifT (decide ((0 : Int) ≤ a ∧ a < IntKind.i64.wrap (a + (1 : Int)) ∧ a.toNat <
 l.length ∧ (IntKind.i64.wrap (a + (1 : Int))).toNat ≤ l.length ∧ l.length ≤ (4000000000 : Nat) ∧ (0 : Nat) = (0 : Nat) ∧ (0 : Nat) ≤ (IntKind.i64.wrap (a + (1 :
 Int))).toNat ∧ l.length - a.toNat ≤ n + (1 : Nat))) (some (V.tup [V.ptr 0 0, V.j (↑(bif holdsK z.fst then kloop (kf l) l a.toNat l.length (IntKind.i64.wrap (a + (1 :
 Int))).toNat (nilT LCd.tree.den) else (nilT LCd.tree.den, (IntKind.i64.wrap (a + (1 : Int))).toNat)).snd : Int)], [some (Blk.box [V.j z.fst, V.s z.snd.fst, V.i .i64
 z.snd.snd.fst, V.b z.snd.snd.snd.fst, V.j z.snd.snd.snd.snd.snd.fst, V.ref 1 0 (bif holdsK z.fst then kloop (kf l) l a.toNat l.length (IntKind.i64.wrap (a + (1 :
 Int))).toNat (nilT LCd.tree.den) else (nilT LCd.tree.den, (IntKind.i64.wrap (a + (1 : Int))).toNat)).fst.length]), some (Blk.row false none LCd.tree (bif holdsK z.fst
 then kloop (kf l) l a.toNat l.length (IntKind.i64.wrap (a + (1 : Int))).toNat (nilT LCd.tree.den) else (nilT LCd.tree.den, (IntKind.i64.wrap (a + (1 :
 Int))).toNat)).fst)])))) : _) := by kernel_rfl
theorem up_lt {l : List Ty} {e : Nat} {a : Int} (h : upAt l e = some a) : e < l.length := by
 unfold upAt at h
 obtain ⟨x, h1, _⟩ := Option.map_eq_some_iff.1 h
 exact (List.getElem?_eq_some_iff.1 h1).1
theorem rose_eta (z : Rose Lab) : Rose.node (z.lab.1, z.lab.2.1, z.lab.2.2.1, z.lab.2.2.2.1, z.lab.2.2.2.2.1, ()) (List.take z.kids.length (List.drop 0 z.kids)) = z := by
 obtain ⟨⟨_, _, _, _, _, ⟨⟩⟩, ks⟩ := z
 simp [Rose.lab, Rose.kids]
def goesOn (l : List Ty) (g : Nat → Rose Lab × Nat) : Prop := ∀ e, e < l.length → e < (g e).2 ∧ (g e).2 ≤ l.length
theorem kloop_bnd {l : List Ty} {g : Nat → Rose Lab × Nat} {a : Nat} (hg : goesOn l g) : ∀ (n e : Nat) (ks : List (Rose Lab)), e ≤ l.length → e ≤ (kloop g l a n e ks).2 ∧ (kloop g l a n e ks).2 ≤ l.length
 | 0, e, ks, h => ⟨Nat.le_refl _, h⟩
 | n + 1, e, ks, h => by
  unfold kloop
  split
  ·rename_i hu
   obtain ⟨h1, h2⟩ := hg e (up_lt hu)
   obtain ⟨h3, h4⟩ := kloop_bnd hg n (g e).2 (ks ++ [(g e).1]) h2
   exact ⟨by omega, h4⟩
  ·exact ⟨Nat.le_refl _, h⟩
theorem kfr_bnd (l : List Ty) : ∀ f, goesOn l (kfr l f)
 | 0, a, h => ⟨Nat.lt_succ_self _, h⟩
 | f + 1, a, h => by
  unfold kfr
  dsimp only
  cases holdsK (labAt l a).1 with
  | true =>
   obtain ⟨h3, h4⟩ := kloop_bnd (a := a) (kfr_bnd l f) l.length (a + 1) [] h
   exact ⟨by rw [cond_true]; omega, by rw [cond_true]; exact h4⟩
  | false => exact ⟨Nat.lt_succ_self _, h⟩
theorem kloop_congr {l : List Ty} {g g' : Nat → Rose Lab × Nat} {a e0 : Nat} (hg : goesOn l g) (h : ∀ e, e0 ≤ e → e < l.length → g e = g' e) : ∀ (n e : Nat) (ks : List (Rose Lab)), e0 ≤ e → kloop g l a n e ks = kloop g' l a n e ks
 | 0, e, ks, _ => rfl
 | n + 1, e, ks, he => by
  unfold kloop
  split
  ·rename_i hu
   have hl := up_lt hu
   rw [← h e he hl]
   exact kloop_congr hg h n _ _ (by have := (hg e hl).1; omega)
  ·rfl
theorem kloop_fuel {l : List Ty} {g : Nat → Rose Lab × Nat} {a : Nat} (hg : goesOn l g) : ∀ (n m e : Nat) (ks : List (Rose Lab)), l.length - e ≤ n → l.length - e ≤ m → kloop g l a n e ks = kloop g l a m e ks
 | 0, 0, e, ks, _, _ => rfl
 | 0, m + 1, e, ks, h, _ => by
  unfold kloop
  split
  ·rename_i hu; have := up_lt hu; omega
  ·rfl
 | n + 1, 0, e, ks, _, h => by
  unfold kloop
  split
  ·rename_i hu; have := up_lt hu; omega
  ·rfl
 | n + 1, m + 1, e, ks, h1, h2 => by
  unfold kloop
  split
  ·rename_i hu
   have hl := up_lt hu
   have := (hg e hl).1
   exact kloop_fuel hg n m _ _ (by omega) (by omega)
  ·rfl
theorem kfr_fuel (l : List Ty) : ∀ (f f' a : Nat), l.length - a ≤ f → l.length - a ≤ f' → a < l.length → kfr l f a = kfr l f' a
 | 0, f', a, h1, _, h => by omega
 | f + 1, 0, a, _, h1, h => by omega
 | f + 1, f' + 1, a, h1, h2, h => by
  unfold kfr
  dsimp only
  rw [kloop_congr (kfr_bnd l f) (fun e he hl => kfr_fuel l f f' e (by omega) (by omega) hl) l.length (a + 1) [] (Nat.le_refl _)]
theorem kf_bnd (l : List Ty) : goesOn l (kf l) := kfr_bnd l l.length
theorem kf_eq {l : List Ty} {a : Nat} (h : a < l.length) : kf l a = (.node (labAt l a) (bif holdsK (labAt l a).1 then kloop (kf l) l a l.length (a + 1) [] else ([], a + 1)).1, (bif holdsK (labAt l a).1 then kloop (kf l) l a l.length (a + 1) [] else ([], a + 1)).2) := by
 obtain ⟨m, hm⟩ : ∃ m, l.length = m + 1 := ⟨l.length - 1, by omega⟩
 have e1 : kloop (kfr l m) l a l.length (a + 1) [] = kloop (kf l) l a l.length (a + 1) [] := kloop_congr (kfr_bnd l m) (fun e he hl => kfr_fuel l m l.length e (by omega) (by omega) hl) l.length (a + 1) [] (Nat.le_refl _)
 rw [← e1]
 unfold kf
 conv => lhs; rw [hm]
 rfl
theorem kloop_step {l : List Ty} {a e : Nat} {ks : List (Rose Lab)} (h : upAt l e = some (a : Int)) : kloop (kf l) l a l.length e ks = kloop (kf l) l a l.length (kf l e).2 (ks ++ [(kf l e).1]) := by
 have hl := up_lt h
 obtain ⟨m, hm⟩ : ∃ m, l.length = m + 1 := ⟨l.length - 1, by omega⟩
 conv => lhs; rw [hm]
 show (if upAt l e = some (a : Int) then kloop (kf l) l a m (kf l e).2 (ks ++ [(kf l e).1]) else (ks, e)) = _
 rw [if_pos h]
 have := (kf_bnd l e hl).1
 exact kloop_fuel (kf_bnd l) m l.length _ _ (by omega) (by omega)
theorem kloop_stop {l : List Ty} {a e n : Nat} {ks : List (Rose Lab)} (h : upAt l e ≠ some (a : Int)) : kloop (kf l) l a n e ks = (ks, e) := by
 cases n with
 | zero => rfl
 | succ n => unfold kloop; rw [if_neg h]
theorem kf_loop (n : Nat) (l : List Ty) (a : Nat) (x0 : Int) (x1 : List UInt8) (x2 : Int) (x3 : Bool) (x4 : Int) (hal : a < l.length) (hl : l.length ≤ 4000000000) (hn : l.length - a ≤ n + 1) : ∀ (j e : Nat) (ks : List (Rose Lab)), e + j = l.length → a < e → ks.length ≤ e →
  Runs Tryz.prog (Lqa0 n) (look [(4, kfE n)]) 0 (body Tryz.f134 0) (kfE n) ([.sl TCd l, .j (a : Int), .ptr 0 0, .j (e : Int)], [some (.box [.j x0, .s x1, .j x2, .b x3, .j x4, .ref 1 0 ks.length]), some (.row false none (.tree LCd) ks)]) (.exit 0) ([.ptr 0 0, .j ((bif holdsK x0 then kloop (kf l) l a l.length e ks else (ks, e)).2 : Int)], [some (.box [.j x0, .s x1, .j x2, .b x3, .j x4, .ref 1 0 (bif holdsK x0 then kloop (kf l) l a l.length e ks else (ks, e)).1.length]), some (.row false none (.tree LCd) (bif holdsK x0 then kloop (kf l) l a l.length e ks else (ks, e)).1)]) := by
 intro j
 induction j using Nat.strongRecOn with
 | ind j ih =>
  intro e ks he hae hk
  have hM : maxI = 9223372036854775807 := rfl
  have hr := kf_round n l a e x0 x1 x2 x3 x4 ks.length ks
  have hlab : (Rose.node (x0, x1, x2, x3, x4, ()) (List.take ks.length (List.drop 0 ks)) : Rose Lab).lab.1 = x0 := rfl
  simp only [hlab] at hr
  cases hx : holdsK x0 with
  | false =>
   rw [hx, ifB_f] at hr
   rw [cond_false]
   exact .stop _ _ _ hr (by simp)
  | true =>
   rw [hx, ifB_t] at hr
   rw [cond_true]
   by_cases h1 : e < l.length
   ·rw [ifB_true (dcT (by omega)), ifT_true (by simp only [anE, dcE]; omega)] at hr
    simp only [ntN, gtE h1, ifSome_s, List.drop_zero, List.take_length] at hr
    by_cases h2 : l[e].2.2.2.2.1 = (a : Int)
    ·have hu : upAt l e = some (a : Int) := by unfold upAt; rw [gtE h1, Option.map_some, h2]
     rw [ifB_true (by rw [h2]; exact beq_self_eq_true _), ifT_true (dcT ⟨by omega, h1, hl, by omega⟩), ifT_true (by simp only [anE, dcE]; omega)] at hr
     obtain ⟨b1, b2⟩ := kf_bnd l e h1
     rw [kloop_step hu]
     have ht := rose_eta (kf l e).1
     rw [List.drop_zero, List.take_length] at ht
     rw [ht] at hr
     have hlen : (ks ++ [(kf l e).1]).length = ks.length + 1 := by simp
     have ih2 := ih (l.length - (kf l e).2) (by omega) (kf l e).2 (ks ++ [(kf l e).1]) (by omega) (by omega) (by rw [hlen]; omega)
     simp only [hx, cond_true] at ih2
     refine .step _ _ _ _ (hr.trans ?_) ih2
     rw [hlen]
    ·have hu : upAt l e ≠ some (a : Int) := by unfold upAt; rw [gtE h1, Option.map_some]; exact fun h => h2 (Option.some.inj h)
     rw [ifB_false (beq_false_of_ne h2)] at hr
     rw [kloop_stop hu]
     exact .stop _ _ _ hr (by simp)
   ·rw [ifB_false (dcF (by omega))] at hr
    rw [kloop_stop (fun h => h1 (up_lt h))]
    exact .stop _ _ _ hr (by simp)
theorem kf_ok (n : Nat) : LoopsOk Tryz.prog (Lqa0 n) (look [(4, kfE n)]) 0 (Tryz.f134.body.getD .skip) := by
 refine loopsOk_one (a := body Tryz.f134 0) (by kernel_rfl) fun d ex d' h => ?_
 unfold kfE at h
 dsimp only at h
 split at h
 ·rename_i l a e x0 x1 x2 x3 x4 k ks
  obtain ⟨hc, hx⟩ := need_some h
  clear h
  obtain ⟨h0, h1, h2, h3, h4, rfl, h6, h7⟩ := of_decide_eq_true hc
  obtain ⟨a, rfl⟩ := Int.eq_ofNat_of_zero_le h0
  obtain ⟨e, rfl⟩ := Int.eq_ofNat_of_zero_le (by omega : 0 ≤ e)
  simp only [ntN] at h2 h3 h6 h7 hx
  have h8 := leaf_some hx
  obtain ⟨rfl, rfl⟩ := Prod.mk.inj h8
  exact kf_loop n l a x0 x1 x2 x3 x4 h2 h4 h7 (l.length - e) e ks (by omega) (by omega) h6
 ·cases h
theorem kf_fun (n : Nat) (l : List Ty) (a : Int) (hc : 0 ≤ a ∧ a.toNat < l.length ∧ l.length ≤ 4000000000 ∧ l.length - a.toNat ≤ n + 1) : funN Tryz.prog (Lqa0 n) (look [(4, kfE n)]) Tryz.f134 [.sl TCd l, .j a] [] = some (.tup [.ptr 0 0, .j ((kf l a.toNat).2 : Int)], [some (.box [.j (kf l a.toNat).1.lab.1, .s (kf l a.toNat).1.lab.2.1, .j (kf l a.toNat).1.lab.2.2.1, .b (kf l a.toNat).1.lab.2.2.2.1, .j (kf l a.toNat).1.lab.2.2.2.2.1, .ref 1 0 (kf l a.toNat).1.kids.length]), some (.row false none (.tree LCd) (kf l a.toNat).1.kids)]) := by
 rw [kf_tree]
 obtain ⟨h0, h1, h2, h3⟩ := hc
 obtain ⟨a, rfl⟩ := Int.eq_ofNat_of_zero_le h0
 rw [ntN] at h1 h3
 have hM : maxI = 9223372036854775807 := rfl
 have hw : IntKind.i64.wrap ((a : Int) + 1) = ((a + 1 : Nat) : Int) := wrap_succ (by omega)
 rw [ifT_true (by simp only [anE, dcE]; omega)]
 simp only [ntN, gtE h1, ifSome_s, hw]
 rw [ifT_true (dcT ⟨by omega, by omega, h1, by omega, h2, trivial, by omega, by omega⟩)]
 have hk := kf_eq h1
 have hlab : labAt l a = (l[a].1, l[a].2.1, l[a].2.2.1, l[a].2.2.2.1, l[a].2.2.2.2.2.1, ()) := by unfold labAt; rw [gtE h1]
 rw [hk, hlab]
 rfl
theorem kf_con : ∀ n, (∀ m, m < n → Contract Tryz.prog 134 (Ent.rd1 (kfG m)).F) → Contract Tryz.prog 134 (Ent.rd1 (kfG n)).F
 | 0, _ => contract_no fun vs bs => by
  unfold Ent.F kfG
  dsimp only
  split
  ·rename_i l a
   have : decide (0 ≤ a ∧ a.toNat < l.length ∧ l.length ≤ 4000000000 ∧ l.length - a.toNat ≤ 0) = false := dcF (by omega)
   rw [this]; rfl
  ·rfl
 | n + 1, ih => by
  refine fun_contractN' (KnowsL.cons (enters_fn Tryz.func134 (by kernel_rfl) (by kernel_rfl)) (ih n (Nat.lt_succ_self n)) (KnowsL.cons (enters_fn Tryz.func169 (by kernel_rfl) (by kernel_rfl)) kholds KnowsL.nil)).knows (Λ := (look [(4, kfE n)])) Tryz.func134 (c := Tryz.f134.body.getD .skip) (by kernel_rfl) fun vs bs r hq hv hb => ?_
  unfold Ent.F kfG at hq
  dsimp only at hq
  split at hq
  ·rename_i l a
   obtain ⟨hc, hx⟩ := need_some hq
   exact ⟨kf_ok n, (kf_fun n l a (of_decide_eq_true hc)).trans hx⟩
  ·cases hq
theorem kindFrom : Contract Tryz.prog 134 (Ent.rd1 kindFromG).F := by
 refine contract_rec (F := fun n => (Ent.rd1 (kfG n)).F) kf_con fun vs bs r h => ?_
 unfold Ent.F kindFromG at h
 dsimp only at h
 split at h
 ·rename_i l a
  obtain ⟨hc, hx⟩ := need_some h
  obtain ⟨h0, h1, h2⟩ := of_decide_eq_true hc
  refine ⟨l.length, ?_⟩
  unfold Ent.F kfG
  dsimp only
  have : decide (0 ≤ a ∧ a.toNat < l.length ∧ l.length ≤ 4000000000 ∧ l.length - a.toNat ≤ l.length) = true := dcT ⟨h0, h1, h2, by omega⟩
  rw [this]
  exact hx
 ·cases h

mutual
def cntR : Rose Lab → Nat
 | .node _ ks => cntL ks + 1
def cntL : List (Rose Lab) → Nat
 | [] => 0
 | z :: l => cntR z + cntL l
end
mutual
def deepR : Rose Lab → Nat
 | .node x ks => deepL ks + (bif holdsK x.1 then 1 else 0)
def deepL : List (Rose Lab) → Nat
 | [] => 0
 | z :: l => max (deepR z) (deepL l)
end
def kcountN (n : Nat) : List V → List Blk → Br (V × List (Option Blk))
 | [.tp (.pair (.int .i64) (.pair .str (.pair (.int .i64) (.pair .bool (.pair (.int .i64) .unit))))) z 0], [] => .need (decide (cntR z ≤ n ∧ cntR z ≤ 1000000)) (.leaf (.i .i64 (cntR z : Int), []))
 | _, _ => .no
def kcountG : List V → List Blk → Br (V × List (Option Blk))
 | [.tp (.pair (.int .i64) (.pair .str (.pair (.int .i64) (.pair .bool (.pair (.int .i64) .unit))))) z 0], [] => .need (decide (cntR z ≤ 1000000)) (.leaf (.i .i64 (cntR z : Int), []))
 | _, _ => .no
def kcountE (n : Nat) : LoopEnt := ⟨21, [3,9,10,11], [3], [], fun
 | ([.i .i64 m, .sl (.tree (.pair (.int .i64) (.pair .str (.pair (.int .i64) (.pair .bool (.pair (.int .i64) .unit)))))) ks, .i .i64 k, .i .i64 i], []) => .need (decide (0 ≤ m ∧ m ≤ 1000001 ∧ 0 ≤ i ∧ i.toNat ≤ ks.length ∧ k = ks.length ∧ cntL ks ≤ n ∧ cntL ks ≤ 1000000 ∧ m.toNat + cntL (ks.drop i.toNat) ≤ 1000001)) (.leaf (.exit 0, ([.i .i64 ((m.toNat + cntL (ks.drop i.toNat) : Nat) : Int)], [])))
 | _ => .no⟩
def kdeepN (n : Nat) : List V → List Blk → Br (V × List (Option Blk))
 | [.tp (.pair (.int .i64) (.pair .str (.pair (.int .i64) (.pair .bool (.pair (.int .i64) .unit))))) z 0], [] => .need (decide (cntR z ≤ n ∧ cntR z ≤ 1000000)) (.leaf (.i .i64 (deepR z : Int), []))
 | _, _ => .no
def kdeepG : List V → List Blk → Br (V × List (Option Blk))
 | [.tp (.pair (.int .i64) (.pair .str (.pair (.int .i64) (.pair .bool (.pair (.int .i64) .unit))))) z 0], [] => .need (decide (cntR z ≤ 1000000)) (.leaf (.i .i64 (deepR z : Int), []))
 | _, _ => .no
def kdeepE (n : Nat) : LoopEnt := ⟨25, [0,3,9,10,11], [0,3], [], fun
 | ([.tp (.pair (.int .i64) (.pair .str (.pair (.int .i64) (.pair .bool (.pair (.int .i64) .unit))))) y 0, .i .i64 m, .sl (.tree (.pair (.int .i64) (.pair .str (.pair (.int .i64) (.pair .bool (.pair (.int .i64) .unit)))))) ks, .i .i64 k, .i .i64 i], []) => .need (decide (0 ≤ m ∧ m ≤ 1000001 ∧ 0 ≤ i ∧ i.toNat ≤ ks.length ∧ k = ks.length ∧ cntL ks ≤ n ∧ cntL ks ≤ 1000000)) (.leaf (.exit 0, ([.tp (.pair (.int .i64) (.pair .str (.pair (.int .i64) (.pair .bool (.pair (.int .i64) .unit))))) y 0, .i .i64 ((max m.toNat (deepL (ks.drop i.toNat)) : Nat) : Int)], [])))
 | _ => .no⟩

theorem cnt_mem {z : Rose Lab} : ∀ {l : List (Rose Lab)}, z ∈ l → cntR z ≤ cntL l
 | [], h => by cases h
 | y :: l, h => by
  rw [cntL]
  rcases List.mem_cons.1 h with rfl | h
  ·omega
  ·have := cnt_mem h; omega
theorem cnt_pos (z : Rose Lab) : 1 ≤ cntR z := by cases z; rw [cntR]; omega
theorem cnt_len : ∀ (l : List (Rose Lab)), l.length ≤ cntL l
 | [] => Nat.le_refl _
 | z :: l => by have := cnt_len l; have := cnt_pos z; rw [cntL, List.length_cons]; omega
theorem cnt_kids (z : Rose Lab) : cntR z = cntL z.kids + 1 := by cases z; rw [cntR]; rfl
mutual
theorem deep_cnt : ∀ z : Rose Lab, deepR z ≤ cntR z
 | .node x ks => by rw [deepR, cntR]; have := deepL_cnt ks; cases holdsK x.1 <;> simp <;> omega
theorem deepL_cnt : ∀ l : List (Rose Lab), deepL l ≤ cntL l
 | [] => Nat.le_refl _
 | z :: l => by rw [deepL, cntL]; have := deep_cnt z; have := deepL_cnt l; omega
end
theorem kcount_round (n : Nat) (m : Int) (ks : List (Rose Lab)) (k i : Int) : roundK Tryz.prog (look [(172, .rd1 (kcountN n))]) (look [(3, kcountE n)]) 0 (body Tryz.f172 0) (kcountE n) ([.j m, .sl (.tree LCd) ks, .j k, .j i], []) =
 ((ifB (decide (i < k)) (ifT (decide ((0 : Int) ≤ i) && decide (i < (↑ks.length : Int))) (ifSome ks[i.toNat]? fun z => ifT (decide (cntR z ≤ n ∧ cntR z ≤ (1000000 : Nat)))
 (some (Ex.normal, [V.j (IntKind.i64.wrap (m + (↑(cntR z) : Int))), V.sl LCd.tree ks, V.j k, V.j (IntKind.i64.wrap (i + (1 : Int)))], [])))) (some (Ex.exit
 0, [V.j m], []))) : _) := by kernel_rfl
theorem kcount_tree (n : Nat) (z : Rose Lab) : funK Tryz.prog (look [(172, .rd1 (kcountN n))]) (look [(3, kcountE n)]) Tryz.f172 [.tp LCd z 0] [] =
 ((ifT (decide ((0 : Int) ≤ (1 : Int) ∧ (1 : Int) ≤ (1000001 : Int) ∧ (0 : Int) ≤ (0 : Int) ∧ (0 : Nat) ≤ z.kids.length ∧ (↑z.kids.length : Int) = (↑z.kids.length : Int) ∧
 cntL z.kids ≤ n ∧ cntL z.kids ≤ (1000000 : Nat) ∧ (1 : Nat) + cntL (List.drop (0 : Nat) z.kids) ≤ (1000001 : Nat))) (some (V.j (↑((1 : Nat) + cntL (List.drop (0 :
 Nat) z.kids)) : Int), []))) : _) := by kernel_rfl
theorem kcount_loop (n : Nat) (ks : List (Rose Lab)) (h1 : cntL ks ≤ n) (h2 : cntL ks ≤ 1000000) : ∀ (j i m : Nat), i + j = ks.length → m ≤ 1000001 → m + cntL (ks.drop i) ≤ 1000001 →
  Runs Tryz.prog (look [(172, .rd1 (kcountN n))]) (look [(3, kcountE n)]) 0 (body Tryz.f172 0) (kcountE n) ([.j (m : Int), .sl (.tree LCd) ks, .j (ks.length : Int), .j (i : Int)], []) (.exit 0) ([.j ((m + cntL (ks.drop i) : Nat) : Int)], [])
 | 0, i, m, hi, hm, hs => by
  have hr := kcount_round n m ks ks.length i
  rw [ifB_false (dcF (by omega))] at hr
  have e1 : ks.drop i = [] := List.drop_eq_nil_of_le (by omega)
  rw [e1, cntL]
  exact .stop _ _ _ (hr.trans (by simp)) (by simp)
 | j + 1, i, m, hi, hm, hs => by
  have hl : i < ks.length := by omega
  have hM : maxI = 9223372036854775807 := rfl
  have hr := kcount_round n m ks ks.length i
  have hmem := cnt_mem (List.getElem_mem hl)
  have hlen := cnt_len ks
  have hdm := deep_cnt ks[i]
  rw [ifB_true (dcT (by omega)), ifT_true (by simp only [anE, dcE]; omega)] at hr
  simp only [ntN, gtE hl, ifSome_s, wrap_succ (n := i) (by omega)] at hr
  rw [ifT_true (dcT ⟨by omega, by omega⟩)] at hr
  rw [List.drop_eq_getElem_cons hl, cntL]
  rw [List.drop_eq_getElem_cons hl, cntL] at hs
  have hx : IntKind.i64.wrap ((m : Int) + (cntR ks[i] : Int)) = ((m + cntR ks[i] : Nat) : Int) := by rw [wrap_id (by omega) (by omega)]; omega
  have ih := kcount_loop n ks h1 h2 j (i + 1) (m + cntR ks[i]) (by omega) (by omega) (by omega)
  rw [← Nat.add_assoc]
  exact .step _ _ _ _ (hr.trans (by rw [hx])) ih
theorem kcount_ok (n : Nat) : LoopsOk Tryz.prog (look [(172, .rd1 (kcountN n))]) (look [(3, kcountE n)]) 0 (Tryz.f172.body.getD .skip) := by
 refine loopsOk_one (a := body Tryz.f172 0) (by kernel_rfl) fun d ex d' h => ?_
 unfold kcountE at h
 dsimp only at h
 split at h
 ·rename_i m ks k i
  obtain ⟨hc, hx⟩ := need_some h
  clear h
  obtain ⟨h0, h1, h2, h3, rfl, h5, h6, h7⟩ := of_decide_eq_true hc
  obtain ⟨m, rfl⟩ := Int.eq_ofNat_of_zero_le h0
  obtain ⟨i, rfl⟩ := Int.eq_ofNat_of_zero_le h2
  simp only [ntN] at h3 hx h7
  have h8 := leaf_some hx
  obtain ⟨rfl, rfl⟩ := Prod.mk.inj h8
  exact kcount_loop n ks h5 h6 (ks.length - i) i m (by omega) (by omega) h7
 ·cases h
theorem kcount_fun (n : Nat) (z : Rose Lab) (hc : cntR z ≤ n + 1 ∧ cntR z ≤ 1000000) : funK Tryz.prog (look [(172, .rd1 (kcountN n))]) (look [(3, kcountE n)]) Tryz.f172 [.tp LCd z 0] [] = some (.j (cntR z : Int), []) := by
 rw [kcount_tree]
 obtain ⟨x, ks⟩ := z
 obtain ⟨h1, h2⟩ := hc
 rw [cntR] at h1 h2
 have hd : List.drop (Int.toNat 0) ks = ks := rfl
 simp only [Rose.kids, Rose.lab] at *
 rw [ifT_true (dcT (by refine ⟨by omega, by omega, by omega, by simp, by trivial, by omega, by omega, ?_⟩; simp; omega))]
 rw [cntR]
 simp only [Int.toNat_one, Int.toNat_zero, List.drop_zero]
 rw [Nat.add_comm]
theorem kcount_con : ∀ n, (∀ m, m < n → Contract Tryz.prog 172 (Ent.rd1 (kcountN m)).F) → Contract Tryz.prog 172 (Ent.rd1 (kcountN n)).F
 | 0, _ => contract_no fun vs bs => by
  unfold Ent.F kcountN
  dsimp only
  split
  ·rename_i z
   have := cnt_pos z
   have : decide (cntR z ≤ 0 ∧ cntR z ≤ 1000000) = false := dcF (by omega)
   rw [this]; rfl
  ·rfl
 | n + 1, ih => by
  refine fun_contract' (KnowsL.cons (enters_fn Tryz.func172 (by kernel_rfl) (by kernel_rfl)) (ih n (Nat.lt_succ_self n)) KnowsL.nil).knows (Λ := (look [(3, kcountE n)])) Tryz.func172 (c := Tryz.f172.body.getD .skip) (by kernel_rfl) fun vs bs r hq hv hb => ?_
  unfold Ent.F kcountN at hq
  dsimp only at hq
  split at hq
  ·rename_i z
   obtain ⟨hc, hx⟩ := need_some hq
   exact ⟨kcount_ok n, (kcount_fun n z (of_decide_eq_true hc)).trans hx⟩
  ·cases hq
theorem kcount : Contract Tryz.prog 172 (Ent.rd1 kcountG).F := by
 refine contract_rec (F := fun n => (Ent.rd1 (kcountN n)).F) kcount_con fun vs bs r h => ?_
 unfold Ent.F kcountG at h
 dsimp only at h
 split at h
 ·rename_i z
  obtain ⟨hc, hx⟩ := need_some h
  have hc := of_decide_eq_true hc
  refine ⟨1000000, ?_⟩
  show (Br.need (decide (cntR z ≤ 1000000 ∧ cntR z ≤ 1000000)) (.leaf (.j (cntR z : Int), []))).run = some r
  rw [dcT (show cntR z ≤ 1000000 ∧ cntR z ≤ 1000000 from ⟨hc, hc⟩)]
  exact hx
 ·cases h
abbrev Lqa1 (n : Nat) : FuncId → Option Ent := look [(171, .rd1 (kdeepN n)), (169, .rd1 kholdsG)]
theorem kdeep_round (n : Nat) (y : Rose Lab) (m : Int) (ks : List (Rose Lab)) (k i : Int) : roundK Tryz.prog (Lqa1 n) (look [(3, kdeepE n)]) 0 (body Tryz.f171 0) (kdeepE n) ([.tp LCd y 0, .j m, .sl (.tree LCd) ks, .j k, .j i], []) =
 ((ifB (decide (i < k)) (ifT (decide ((0 : Int) ≤ i) && decide (i < (↑ks.length : Int))) (ifSome ks[i.toNat]? fun z => ifT (decide (cntR z ≤ n ∧ cntR z ≤ (1000000 : Nat)))
 (some (Ex.normal, [V.tp LCd y (0 : Nat), V.j (if (↑(deepR z) : Int) > m then (↑(deepR z) : Int) else m), V.sl LCd.tree ks, V.j k, V.j (IntKind.i64.wrap (i
 + (1 : Int)))], [])))) (some (Ex.exit 0, [V.tp LCd y (0 : Nat), V.j m], []))) : _) := by kernel_rfl
theorem kdeep_tree (n : Nat) (z : Rose Lab) : funK Tryz.prog (Lqa1 n) (look [(3, kdeepE n)]) Tryz.f171 [.tp LCd z 0] [] =
 ((ifT (decide ((0 : Int) ≤ (0 : Int) ∧ (0 : Int) ≤ (1000001 : Int) ∧ (0 : Int) ≤ (0 : Int) ∧ (0 : Nat) ≤ z.kids.length ∧ (↑z.kids.length : Int) = (↑z.kids.length : Int) ∧
 cntL z.kids ≤ n ∧ cntL z.kids ≤ (1000000 : Nat))) (ifB (holdsK z.lab.fst) (some (V.j (IntKind.i64.wrap ((↑(max (0 : Nat) (deepL (List.drop (0 : Nat) z.kids))) : Int)
 + (1 : Int))), [])) (some (V.j (↑(max (0 : Nat) (deepL (List.drop (0 : Nat) z.kids))) : Int), [])))) : _) := by kernel_rfl
theorem kdeep_loop (n : Nat) (y : Rose Lab) (ks : List (Rose Lab)) (h1 : cntL ks ≤ n) (h2 : cntL ks ≤ 1000000) : ∀ (j i m : Nat), i + j = ks.length → m ≤ 1000001 →
  Runs Tryz.prog (Lqa1 n) (look [(3, kdeepE n)]) 0 (body Tryz.f171 0) (kdeepE n) ([.tp LCd y 0, .j (m : Int), .sl (.tree LCd) ks, .j (ks.length : Int), .j (i : Int)], []) (.exit 0) ([.tp LCd y 0, .j ((max m (deepL (ks.drop i)) : Nat) : Int)], [])
 | 0, i, m, hi, hm => by
  have hr := kdeep_round n y m ks ks.length i
  rw [ifB_false (dcF (by omega))] at hr
  have e1 : ks.drop i = [] := List.drop_eq_nil_of_le (by omega)
  rw [e1, deepL]
  exact .stop _ _ _ (hr.trans (by simp)) (by simp)
 | j + 1, i, m, hi, hm => by
  have hl : i < ks.length := by omega
  have hM : maxI = 9223372036854775807 := rfl
  have hr := kdeep_round n y m ks ks.length i
  have hmem := cnt_mem (List.getElem_mem hl)
  have hlen := cnt_len ks
  have hdm := deep_cnt ks[i]
  rw [ifB_true (dcT (by omega)), ifT_true (by simp only [anE, dcE]; omega)] at hr
  simp only [ntN, gtE hl, ifSome_s, wrap_succ (n := i) (by omega)] at hr
  rw [ifT_true (dcT ⟨by omega, by omega⟩)] at hr
  rw [List.drop_eq_getElem_cons hl, deepL]
  have hx : (if (deepR ks[i] : Int) > (m : Int) then (deepR ks[i] : Int) else (m : Int)) = ((max m (deepR ks[i]) : Nat) : Int) := by split <;> omega
  have ih := kdeep_loop n y ks h1 h2 j (i + 1) (max m (deepR ks[i])) (by omega) (by omega)
  rw [← Nat.max_assoc]
  exact .step _ _ _ _ (hr.trans (by rw [hx])) ih
theorem kdeep_ok (n : Nat) : LoopsOk Tryz.prog (Lqa1 n) (look [(3, kdeepE n)]) 0 (Tryz.f171.body.getD .skip) := by
 refine loopsOk_one (a := body Tryz.f171 0) (by kernel_rfl) fun d ex d' h => ?_
 unfold kdeepE at h
 dsimp only at h
 split at h
 ·rename_i y m ks k i
  obtain ⟨hc, hx⟩ := need_some h
  clear h
  obtain ⟨h0, h1, h2, h3, rfl, h5, h6⟩ := of_decide_eq_true hc
  obtain ⟨m, rfl⟩ := Int.eq_ofNat_of_zero_le h0
  obtain ⟨i, rfl⟩ := Int.eq_ofNat_of_zero_le h2
  simp only [ntN] at h3 hx
  have h8 := leaf_some hx
  obtain ⟨rfl, rfl⟩ := Prod.mk.inj h8
  exact kdeep_loop n y ks h5 h6 (ks.length - i) i m (by omega) (by omega)
 ·cases h
theorem kdeep_fun (n : Nat) (z : Rose Lab) (hc : cntR z ≤ n + 1 ∧ cntR z ≤ 1000000) : funK Tryz.prog (Lqa1 n) (look [(3, kdeepE n)]) Tryz.f171 [.tp LCd z 0] [] = some (.j (deepR z : Int), []) := by
 rw [kdeep_tree]
 obtain ⟨x, ks⟩ := z
 obtain ⟨h1, h2⟩ := hc
 rw [cntR] at h1 h2
 have hd : List.drop (Int.toNat 0) ks = ks := rfl
 simp only [Rose.kids, Rose.lab] at *
 rw [ifT_true (dcT (by refine ⟨by omega, by omega, by omega, by simp, by trivial, by omega, by omega⟩))]
 have hdp := deepL_cnt ks
 rw [deepR]
 simp only [Int.toNat_zero, List.drop_zero, Nat.zero_max]
 cases hx : holdsK x.1 with
 | true => rw [ifB_t, wrap_id (by omega) (by omega)]; simp
 | false => rw [ifB_f]; simp
theorem kdeep_con : ∀ n, (∀ m, m < n → Contract Tryz.prog 171 (Ent.rd1 (kdeepN m)).F) → Contract Tryz.prog 171 (Ent.rd1 (kdeepN n)).F
 | 0, _ => contract_no fun vs bs => by
  unfold Ent.F kdeepN
  dsimp only
  split
  ·rename_i z
   have := cnt_pos z
   have : decide (cntR z ≤ 0 ∧ cntR z ≤ 1000000) = false := dcF (by omega)
   rw [this]; rfl
  ·rfl
 | n + 1, ih => by
  refine fun_contract' (KnowsL.cons (enters_fn Tryz.func171 (by kernel_rfl) (by kernel_rfl)) (ih n (Nat.lt_succ_self n)) (KnowsL.cons (enters_fn Tryz.func169 (by kernel_rfl) (by kernel_rfl)) kholds KnowsL.nil)).knows (Λ := (look [(3, kdeepE n)])) Tryz.func171 (c := Tryz.f171.body.getD .skip) (by kernel_rfl) fun vs bs r hq hv hb => ?_
  unfold Ent.F kdeepN at hq
  dsimp only at hq
  split at hq
  ·rename_i z
   obtain ⟨hc, hx⟩ := need_some hq
   exact ⟨kdeep_ok n, (kdeep_fun n z (of_decide_eq_true hc)).trans hx⟩
  ·cases hq
theorem kdeep : Contract Tryz.prog 171 (Ent.rd1 kdeepG).F := by
 refine contract_rec (F := fun n => (Ent.rd1 (kdeepN n)).F) kdeep_con fun vs bs r h => ?_
 unfold Ent.F kdeepG at h
 dsimp only at h
 split at h
 ·rename_i z
  obtain ⟨hc, hx⟩ := need_some h
  have hc := of_decide_eq_true hc
  refine ⟨1000000, ?_⟩
  show (Br.need (decide (cntR z ≤ 1000000 ∧ cntR z ≤ 1000000)) (.leaf (.j (deepR z : Int), []))).run = some r
  rw [dcT (show cntR z ≤ 1000000 ∧ cntR z ≤ 1000000 from ⟨hc, hc⟩)]
  exact hx
 ·cases h

def prevGe (zk : List (Rose Lab)) (i : Nat) (n : Int) : Bool := match i with
 | 0 => false
 | i + 1 => match zk[i]? with | some y => decide (y.lab.2.2.1 ≥ n) | none => false
def msgL (zk : List (Rose Lab)) : Nat → List (List UInt8 × Bool) → List (Rose Lab) → Bool
 | _, _, [] => true
 | i, seen, z :: l => if ((mget .str seen z.lab.2.1).getD false || prevGe zk i z.lab.2.2.1) = true then false else msgL zk (i + 1) (mput .str seen z.lab.2.1 true) l
def partsB (x : Lab) (ks : List (Rose Lab)) : Bool :=
 if x.1 = 1 ∨ x.1 = 2 then x.2.2.2.2.1 == 0 && ks.length == 0
 else if x.1 = 3 then decide (0 ≤ x.2.2.2.2.1 ∧ x.2.2.2.2.1 ≤ 20) && ks.length == 0
 else if x.1 = 4 then x.2.2.2.2.1 == 0 && ks.length == 1
 else if x.1 ≠ 5 ∨ x.2.2.2.2.1 ≠ 0 then false
 else msgL ks 0 [] ks
def partsOKG : List V → List Blk → Br (V × List (Option Blk))
 | [.tp (.pair (.int .i64) (.pair .str (.pair (.int .i64) (.pair .bool (.pair (.int .i64) .unit))))) z 0], [] => .need (decide (z.kids.length ≤ maxI)) (.leaf (.b (partsB z.lab z.kids), []))
 | _, _ => .no
def poE : LoopEnt := ⟨113, [0,3,72,73,74], [], [2], fun
 | ([.tp (.pair (.int .i64) (.pair .str (.pair (.int .i64) (.pair .bool (.pair (.int .i64) .unit))))) z 0, .mref 0, .sl (.tree (.pair (.int .i64) (.pair .str (.pair (.int .i64) (.pair .bool (.pair (.int .i64) .unit)))))) ks, .i .i64 k, .i .i64 i], [some (.mp .str .bool seen)]) => .need (decide (0 ≤ i ∧ i.toNat ≤ ks.length ∧ k = ks.length ∧ ks.length ≤ maxI ∧ z.kids.length = ks.length)) (.br (msgL z.kids i.toNat seen (ks.drop i.toNat)) (.leaf (.exit 1, ([], []))) (.leaf (.ret, ([.b false], []))))
 | _ => .no⟩

theorem po_round (z : Rose Lab) (ks : List (Rose Lab)) (seen : List (List UInt8 × Bool)) (k i : Int) : roundK Tryz.prog (look [(88, .rd1 withinG)]) (look [(13, poE)]) 0 (body Tryz.f202 0) poE ([.tp LCd z 0, .mref 0, .sl (.tree LCd) ks, .j k, .j i], [some (.mp .str .bool seen)]) =
 ((ifB (decide (i < k)) (ifT (decide ((0 : Int) ≤ i) && decide (i < (↑ks.length : Int))) (ifSome ks[i.toNat]? fun z_1 => ifB ((mget Cd.str seen (Rose.lab z_1).snd.fst).getD
 false) (some (Ex.ret, [V.b false], [])) (ifB (decide (i > (0 : Int))) (ifT (decide ((0 : Int) ≤ IntKind.i64.wrap (i - (1 : Int))) && decide (IntKind.i64.wrap (i - (1 :
 Int)) < (↑z.kids.length : Int))) (ifSome z.kids[(IntKind.i64.wrap (i - (1 : Int))).toNat]? fun z_2 => ifB (decide ((Rose.lab z_2).snd.snd.fst ≥ (Rose.lab
 z_1).snd.snd.fst)) (some (Ex.ret, [V.b false], [])) (some (Ex.normal, [V.tp LCd z (0 : Nat), V.mref (0 : Nat), V.sl LCd.tree ks, V.j k, V.j (IntKind.i64.wrap (i
 + (1 : Int)))], [some (Blk.mp Cd.str Cd.bool (mput Cd.str seen (Rose.lab z_1).snd.fst true))])))) (some (Ex.normal, [V.tp LCd z (0 : Nat), V.mref (0 : Nat), V.sl LCd.tree
 ks, V.j k, V.j (IntKind.i64.wrap (i + (1 : Int)))], [some (Blk.mp Cd.str Cd.bool (mput Cd.str seen (Rose.lab z_1).snd.fst true))]))))) (some (Ex.exit 1, [],
 []))) : _) := by kernel_rfl
theorem po_tree (z : Rose Lab) : funK Tryz.prog (look [(88, .rd1 withinG)]) (look [(13, poE)]) Tryz.f202 [.tp LCd z 0] [] =
 ((ifB (z.lab.fst == (1 : Int)) (ifB (z.lab.fst == (1 : Int)) (ifB (z.lab.snd.snd.snd.snd.fst == (0 : Int)) (some (V.b ((↑z.kids.length : Int) == (0 : Int)), [])) (some (V.b
 false, []))) (ifB (z.lab.fst == (3 : Int)) (ifB (decide ((0 : Int) ≤ z.lab.snd.snd.snd.snd.fst ∧ z.lab.snd.snd.snd.snd.fst ≤ (20 : Int))) (some (V.b ((↑z.kids.length :
 Int) == (0 : Int)), [])) (some (V.b false, []))) (ifB (z.lab.fst == (4 : Int)) (ifB (z.lab.snd.snd.snd.snd.fst == (0 : Int)) (some (V.b ((↑z.kids.length : Int) == (1 :
 Int)), [])) (some (V.b false, []))) (ifB (z.lab.fst != (5 : Int)) (some (V.b false, [])) (ifB (z.lab.snd.snd.snd.snd.fst != (0 : Int)) (some (V.b false, [])) (ifT (decide
 ((0 : Int) ≤ (0 : Int) ∧ (0 : Nat) ≤ z.kids.length ∧ (↑z.kids.length : Int) = (↑z.kids.length : Int) ∧ z.kids.length ≤ maxI ∧ z.kids.length = z.kids.length)) (ifB (msgL
 z.kids (0 : Nat) (nilT (Cd.str.den × Cd.bool.den)) (List.drop (0 : Nat) z.kids)) (some (V.b true, [])) (some (V.b false, []))))))))) (ifB (z.lab.fst == (2 : Int)) (ifB
 (z.lab.snd.snd.snd.snd.fst == (0 : Int)) (some (V.b ((↑z.kids.length : Int) == (0 : Int)), [])) (some (V.b false, []))) (ifB (z.lab.fst == (3 : Int)) (ifB (decide ((0 :
 Int) ≤ z.lab.snd.snd.snd.snd.fst ∧ z.lab.snd.snd.snd.snd.fst ≤ (20 : Int))) (some (V.b ((↑z.kids.length : Int) == (0 : Int)), [])) (some (V.b false, []))) (ifB (z.lab.fst
 == (4 : Int)) (ifB (z.lab.snd.snd.snd.snd.fst == (0 : Int)) (some (V.b ((↑z.kids.length : Int) == (1 : Int)), [])) (some (V.b false, []))) (ifB (z.lab.fst != (5 : Int))
 (some (V.b false, [])) (ifB (z.lab.snd.snd.snd.snd.fst != (0 : Int)) (some (V.b false, [])) (ifT (decide ((0 : Int) ≤ (0 : Int) ∧ (0 : Nat) ≤ z.kids.length ∧
 (↑z.kids.length : Int) = (↑z.kids.length : Int) ∧ z.kids.length ≤ maxI ∧ z.kids.length = z.kids.length)) (ifB (msgL z.kids (0 : Nat) (nilT (Cd.str.den × Cd.bool.den))
 (List.drop (0 : Nat) z.kids)) (some (V.b true, [])) (some (V.b false, [])))))))))) : _) := by kernel_rfl
theorem po_loop (z : Rose Lab) (ks : List (Rose Lab)) (hz : z.kids.length = ks.length) (hm : ks.length ≤ maxI) : ∀ (j i : Nat) (seen : List (List UInt8 × Bool)), i + j = ks.length → ∀ ex d, (Br.br (msgL z.kids i seen (ks.drop i)) (.leaf (.exit 1, ([], []))) (.leaf (.ret, ([.b false], []))) : Br (Ex × Dt)).run = some (ex, d) →
  Runs Tryz.prog (look [(88, .rd1 withinG)]) (look [(13, poE)]) 0 (body Tryz.f202 0) poE ([.tp LCd z 0, .mref 0, .sl (.tree LCd) ks, .j (ks.length : Int), .j (i : Int)], [some (.mp .str .bool seen)]) ex d
 | 0, i, seen, hi, ex, d, h => by
  have hr := po_round z ks seen ks.length i
  rw [ifB_false (dcF (by omega))] at hr
  have e1 : ks.drop i = [] := List.drop_eq_nil_of_le (by omega)
  rw [e1, msgL] at h
  have h8 := leaf_some h
  obtain ⟨rfl, rfl⟩ := Prod.mk.inj h8
  exact .stop _ _ _ hr (by simp)
 | j + 1, i, seen, hi, ex, d, h => by
  have hl : i < ks.length := by omega
  have hM : maxI = 9223372036854775807 := rfl
  have hr := po_round z ks seen ks.length i
  rw [ifB_true (dcT (by omega)), ifT_true (by simp only [anE, dcE]; omega)] at hr
  simp only [ntN, gtE hl, ifSome_s, wrap_succ (n := i) (by omega)] at hr
  rw [List.drop_eq_getElem_cons hl, msgL] at h
  have stop : ∀ {x : Option (Ex × Dt)}, x = some (.ret, ([.b false], [])) → (Br.br false (.leaf (.exit 1, ([], []))) (.leaf (.ret, ([.b false], []))) : Br (Ex × Dt)).run = some (ex, d) → x = some (ex, d) ∧ ex ≠ .normal := fun hx h => by
   have h8 := leaf_some h
   obtain ⟨rfl, rfl⟩ := Prod.mk.inj h8
   exact ⟨hx, by simp⟩
  cases h1 : (mget .str seen ks[i].lab.2.1).getD false with
  | true =>
   rw [h1, Bool.true_or, if_pos rfl] at h
   rw [h1, ifB_t] at hr
   obtain ⟨g1, g2⟩ := stop hr h
   exact .stop _ _ _ g1 g2
  | false =>
   rw [h1, Bool.false_or] at h
   rw [h1, ifB_f] at hr
   cases i with
   | zero =>
    rw [ifB_false (dcF (by omega))] at hr
    rw [prevGe, if_neg (by simp)] at h
    exact .step _ _ _ _ hr (po_loop z ks hz hm j 1 _ (by omega) ex d h)
   | succ i =>
    have hl' : i < z.kids.length := by omega
    have hw : IntKind.i64.wrap (((i + 1 : Nat) : Int) - 1) = (i : Int) := by rw [wrap_id (by omega) (by omega)]; omega
    rw [ifB_true (dcT (by omega)), hw, ifT_true (by simp only [anE, dcE]; omega)] at hr
    simp only [ntN, gtE hl', ifSome_s] at hr
    have hp : prevGe z.kids (i + 1) ks[i + 1].lab.2.2.1 = decide (z.kids[i].lab.2.2.1 ≥ ks[i + 1].lab.2.2.1) := by unfold prevGe; simp only [gtE hl']
    rw [hp] at h
    cases h2 : decide (z.kids[i].lab.2.2.1 ≥ ks[i + 1].lab.2.2.1) with
    | true =>
     rw [h2, if_pos rfl] at h
     rw [h2, ifB_t] at hr
     obtain ⟨g1, g2⟩ := stop hr h
     exact .stop _ _ _ g1 g2
    | false =>
     rw [h2, if_neg (by simp)] at h
     rw [h2, ifB_f] at hr
     exact .step _ _ _ _ hr (po_loop z ks hz hm j (i + 1 + 1) _ (by omega) ex d h)
theorem po_ok : LoopsOk Tryz.prog (look [(88, .rd1 withinG)]) (look [(13, poE)]) 0 (Tryz.f202.body.getD .skip) := by
 refine loopsOk_one (a := body Tryz.f202 0) (by kernel_rfl) fun d ex d' h => ?_
 unfold poE at h
 dsimp only at h
 split at h
 ·rename_i z ks k i seen
  obtain ⟨hc, hx⟩ := need_some h
  clear h
  obtain ⟨h0, h1, rfl, h3, h4⟩ := of_decide_eq_true hc
  obtain ⟨i, rfl⟩ := Int.eq_ofNat_of_zero_le h0
  simp only [ntN] at h1 hx
  exact po_loop z ks h4 h3 (ks.length - i) i seen (by omega) ex d' hx
 ·cases h
theorem partsOK_fun (z : Rose Lab) (hc : z.kids.length ≤ maxI) : funK Tryz.prog (look [(88, .rd1 withinG)]) (look [(13, poE)]) Tryz.f202 [.tp LCd z 0] [] = some (.b (partsB z.lab z.kids), []) := by
 rw [po_tree]
 have hl : ∀ n : Nat, ((z.kids.length : Int) == (n : Int)) = (z.kids.length == n) := fun n => by
  by_cases h : z.kids.length = n
  ·subst h; simp
  ·rw [beq_false_of_ne h, beq_false_of_ne (by omega)]
 have hl0 : ((z.kids.length : Int) == 0) = (z.kids.length == 0) := hl 0
 have hl1 : ((z.kids.length : Int) == 1) = (z.kids.length == 1) := hl 1
 have hd : decide ((0 : Int) ≤ 0 ∧ 0 ≤ z.kids.length ∧ (z.kids.length : Int) = (z.kids.length : Int) ∧ z.kids.length ≤ maxI ∧ z.kids.length = z.kids.length) = true := dcT ⟨by omega, by omega, rfl, hc, rfl⟩
 unfold partsB
 rw [List.drop_zero, hl0, hl1]
 by_cases a1 : z.lab.1 = 1
 ·rw [if_pos (.inl a1), a1]
  cases z.lab.2.2.2.2.1 == 0 <;> rfl
 by_cases a2 : z.lab.1 = 2
 ·rw [if_pos (.inr a2), a2]
  cases z.lab.2.2.2.2.1 == 0 <;> rfl
 rw [ifB_false (beq_false_of_ne a1), ifB_false (beq_false_of_ne a2), if_neg (by rintro (h | h); exact a1 h; exact a2 h)]
 by_cases a3 : z.lab.1 = 3
 ·rw [if_pos a3, a3, ifB_true (by rfl)]
  by_cases a5 : 0 ≤ z.lab.2.2.2.2.1 ∧ z.lab.2.2.2.2.1 ≤ 20
  ·rw [dcT a5]; rfl
  ·rw [dcF a5]; rfl
 rw [ifB_false (beq_false_of_ne a3), if_neg a3]
 by_cases a4 : z.lab.1 = 4
 ·rw [if_pos a4, a4, ifB_true (by rfl)]
  cases z.lab.2.2.2.2.1 == 0 <;> rfl
 rw [ifB_false (beq_false_of_ne a4), if_neg a4]
 by_cases a5 : z.lab.1 = 5
 ·rw [ifB_false (by rw [a5]; rfl)]
  by_cases a6 : z.lab.2.2.2.2.1 = 0
  ·rw [ifB_false (by rw [a6]; rfl), if_neg (by rintro (h | h); exact h a5; exact h a6), hd, ifT_t]
   cases msgL z.kids 0 [] z.kids <;> rfl
  ·rw [ifB_true (by simpa using a6), if_pos (.inr a6)]
 ·rw [ifB_true (by simpa using a5), if_pos (.inl a5)]
theorem partsOK : Contract Tryz.prog 202 (Ent.rd1 partsOKG).F := by
 refine fun_contract' (KnowsL.cons (enters_fn Tryz.func88 (by kernel_rfl) (by kernel_rfl)) within KnowsL.nil).knows (Λ := (look [(13, poE)])) Tryz.func202 (c := Tryz.f202.body.getD .skip) (by kernel_rfl) fun vs bs r hq hv hb => ?_
 unfold Ent.F partsOKG at hq
 dsimp only at hq
 split at hq
 ·rename_i z
  obtain ⟨hc, hx⟩ := need_some hq
  exact ⟨po_ok, (partsOK_fun z (of_decide_eq_true hc)).trans hx⟩
 ·cases hq

def firstP {α : Type} (p : α → Bool) : Nat → List α → Int
 | _, [] => -1
 | n, z :: l => if p z = true then (n : Int) else firstP p (n + 1) l
mutual
def rightR : Rose Lab → Bool
 | .node x ks => partsB x ks && rightL x.1 ks
def rightL (k : Int) : List (Rose Lab) → Bool
 | [] => true
 | z :: l => (partB k z.lab && rightR z) && rightL k l
end
mutual
def namR : Rose Lab → Bool
 | .node x ks => decide (x.2.1.length ≤ maxI) && namL ks
def namL : List (Rose Lab) → Bool
 | [] => true
 | z :: l => namR z && namL l
end
def goodR (z : Rose Lab) : Bool := z.lab.1 == 5 && z.lab.2.1 == [] && z.lab.2.2.1 == 0 && !z.lab.2.2.2.1 && rightR z && decide (deepR z ≤ 5) && decide (cntR z ≤ 30)
def badP (k : Int) (z : Rose Lab) : Bool := !(partB k z.lab && rightR z)
def kright (n : Nat) : List V → List Blk → Br (V × List (Option Blk))
 | [.tp (.pair (.int .i64) (.pair .str (.pair (.int .i64) (.pair .bool (.pair (.int .i64) .unit))))) z 0], [] => .need (decide (cntR z ≤ n ∧ cntR z ≤ 1000000 ∧ namR z = true)) (.leaf (.b (rightR z), []))
 | _, _ => .no
def krightC (n : Nat) : List V → List Blk → Br (V × List (Option Blk))
 | [.tp (.pair (.int .i64) (.pair .str (.pair (.int .i64) (.pair .bool (.pair (.int .i64) .unit))))) z 0, .bx [.tp (.pair (.int .i64) (.pair .str (.pair (.int .i64) (.pair .bool (.pair (.int .i64) .unit))))) y 0] 0], [] => .need (decide (cntR z ≤ n ∧ cntR z ≤ 1000000 ∧ namR z = true)) (.leaf (.b (badP y.lab.1 z), []))
 | _, _ => .no
def rightG : List V → List Blk → Br (V × List (Option Blk))
 | [.tp (.pair (.int .i64) (.pair .str (.pair (.int .i64) (.pair .bool (.pair (.int .i64) .unit))))) z 0], [] => .need (decide (cntR z ≤ 1000000 ∧ namR z = true)) (.leaf (.b (rightR z), []))
 | _, _ => .no
def kgoodG : List V → List Blk → Br (V × List (Option Blk))
 | [.tp (.pair (.int .i64) (.pair .str (.pair (.int .i64) (.pair .bool (.pair (.int .i64) .unit))))) z 0], [] => .need (decide (cntR z ≤ 1000000 ∧ namR z = true)) (.leaf (.b (goodR z), []))
 | _, _ => .no
def krE (n : Nat) : LoopEnt := ⟨19, [0,1,4,7,8], [], [4], fun
 | ([.sl (.tree (.pair (.int .i64) (.pair .str (.pair (.int .i64) (.pair .bool (.pair (.int .i64) .unit)))))) l, .fn 204 [] [.ptr 0 0], .i .i64 r, .i .i64 k, .i .i64 i], [some (.box [.tp (.pair (.int .i64) (.pair .str (.pair (.int .i64) (.pair .bool (.pair (.int .i64) .unit))))) y 0])]) =>
  .need (decide (0 ≤ i ∧ i.toNat ≤ l.length ∧ l.length ≤ maxI ∧ k = l.length) && l.all (fun z : Rose Lab => decide (cntR z ≤ n ∧ cntR z ≤ 1000000 ∧ namR z = true))) (.br (decide (firstP (fun z : Rose Lab => badP y.lab.1 z) i.toNat (l.drop i.toNat) < 0)) (.leaf (.exit 0, ([], [some (.box [.tp (.pair (.int .i64) (.pair .str (.pair (.int .i64) (.pair .bool (.pair (.int .i64) .unit))))) y 0])]))) (.leaf (.ret, ([.i .i64 (firstP (fun z : Rose Lab => badP y.lab.1 z) i.toNat (l.drop i.toNat))], [some (.box [.tp (.pair (.int .i64) (.pair .str (.pair (.int .i64) (.pair .bool (.pair (.int .i64) .unit))))) y 0])]))))
 | _ => .no⟩
def kriG (n : Nat) : List V → List Blk → Br (V × List (Option Blk))
 | [.sl (.tree (.pair (.int .i64) (.pair .str (.pair (.int .i64) (.pair .bool (.pair (.int .i64) .unit)))))) l, .fn 204 [] [.ptr 0 0]], [.box [.tp (.pair (.int .i64) (.pair .str (.pair (.int .i64) (.pair .bool (.pair (.int .i64) .unit))))) y 0]] => .need (l.all (fun z : Rose Lab => decide (cntR z ≤ n ∧ cntR z ≤ 1000000 ∧ namR z = true))) (.leaf (.i .i64 (firstP (fun z : Rose Lab => badP y.lab.1 z) 0 l), [some (.box [.tp (.pair (.int .i64) (.pair .str (.pair (.int .i64) (.pair .bool (.pair (.int .i64) .unit))))) y 0])]))
 | _, _ => .no
def krhG (n : Nat) : List V → List Blk → Br (V × List (Option Blk))
 | [.sl (.tree (.pair (.int .i64) (.pair .str (.pair (.int .i64) (.pair .bool (.pair (.int .i64) .unit)))))) l, .fn 204 [] [.ptr 0 0]], [.box [.tp (.pair (.int .i64) (.pair .str (.pair (.int .i64) (.pair .bool (.pair (.int .i64) .unit))))) y 0]] => .need (l.all (fun z : Rose Lab => decide (cntR z ≤ n ∧ cntR z ≤ 1000000 ∧ namR z = true))) (.leaf (.b (l.any (fun z : Rose Lab => badP y.lab.1 z)), [some (.box [.tp (.pair (.int .i64) (.pair .str (.pair (.int .i64) (.pair .bool (.pair (.int .i64) .unit))))) y 0])]))
 | _, _ => .no

theorem firstP_ge {α : Type} (p : α → Bool) : ∀ (l : List α) (n : Nat), (firstP p n l = -1 ∧ l.any p = false) ∨ ((n : Int) ≤ firstP p n l ∧ firstP p n l < n + l.length ∧ l.any p = true)
 | [], n => .inl ⟨rfl, rfl⟩
 | z :: l, n => by
  rw [firstP, List.any_cons]
  by_cases h : p z = true
  ·rw [if_pos h, h]; exact .inr ⟨Int.le_refl _, by simp; omega, rfl⟩
  ·rw [if_neg h, show p z = false by simpa using h, Bool.false_or]
   rcases firstP_ge p l (n + 1) with ⟨h1, h2⟩ | ⟨h1, h2, h3⟩
   ·exact .inl ⟨h1, h2⟩
   ·exact .inr ⟨by omega, by simp; omega, h3⟩
theorem firstP_any {α : Type} (p : α → Bool) (l : List α) (n : Nat) : decide (firstP p n l ≥ 0) = l.any p := by
 rcases firstP_ge p l n with ⟨h1, h2⟩ | ⟨h1, h2, h3⟩
 ·rw [h2]; exact dcF (by omega)
 ·rw [h3]; exact dcT (by omega)
theorem firstP_neg {α : Type} (p : α → Bool) (l : List α) (n : Nat) (h : firstP p n l < 0) : firstP p n l = -1 := by
 rcases firstP_ge p l n with ⟨h1, h2⟩ | ⟨h1, h2⟩
 ·exact h1
 ·omega
theorem firstP_at {α : Type} (p : α → Bool) : ∀ (l : List α) (n : Nat), 0 ≤ firstP p n l → ∃ i, ∃ h : i < l.length, firstP p n l = ((n + i : Nat) : Int) ∧ p l[i] = true ∧ l.find? p = some l[i]
 | [], n, h => by rw [firstP] at h; omega
 | z :: l, n, h => by
  rw [firstP] at h ⊢
  by_cases hp : p z = true
  ·rw [if_pos hp]; exact ⟨0, by simp, by simp, hp, by simp [hp]⟩
  ·rw [if_neg hp] at h ⊢
   obtain ⟨i, h1, h2, h3, h4⟩ := firstP_at p l (n + 1) h
   exact ⟨i + 1, by simp; omega, by rw [h2]; congr 1; omega, by simpa using h3, by simp [hp, h4]⟩
theorem firstP_no {α : Type} (p : α → Bool) : ∀ (l : List α) (n : Nat), firstP p n l < 0 → l.find? p = none
 | [], n, _ => rfl
 | z :: l, n, h => by
  rw [firstP] at h
  by_cases hp : p z = true
  ·rw [if_pos hp] at h; omega
  ·rw [if_neg hp] at h
   simp [hp, firstP_no p l (n + 1) h]
theorem namL_mem {z : Rose Lab} : ∀ {l : List (Rose Lab)}, namL l = true → z ∈ l → namR z = true
 | [], _, h => by cases h
 | y :: l, hn, h => by
  rw [namL, anE] at hn
  rcases List.mem_cons.1 h with rfl | h
  ·exact hn.1
  ·exact namL_mem hn.2 h
theorem namR_lab {z : Rose Lab} (h : namR z = true) : z.lab.2.1.length ≤ maxI := by
 cases z
 rw [namR, anE] at h
 exact of_decide_eq_true h.1
theorem namR_kids {z : Rose Lab} (h : namR z = true) : namL z.kids = true := by
 cases z
 rw [namR, anE] at h
 exact h.2
theorem rightL_any (k : Int) : ∀ l : List (Rose Lab), rightL k l = !(l.any fun z => badP k z)
 | [] => rfl
 | z :: l => by rw [rightL, rightL_any k l, List.any_cons, badP]; cases partB k z.lab <;> cases rightR z <;> simp
theorem krightC_con (n : Nat) (hf : Contract Tryz.prog 170 (Ent.rd1 (kright n)).F) : Contract Tryz.prog 204 (Ent.rd1 (krightC n)).F := by
 refine fun_contract' (KnowsL.cons (enters_fn Tryz.func205 (by kernel_rfl) (by kernel_rfl)) partOf (KnowsL.cons (enters_fn Tryz.func170 (by kernel_rfl) (by kernel_rfl)) hf KnowsL.nil)).knows (Λ := look []) Tryz.func204 (c := Tryz.f204.body.getD .skip) (by kernel_rfl) fun vs bs r hq hv hb => ?_
 unfold Ent.F krightC at hq
 dsimp only at hq
 split at hq
 ·rename_i z y
  obtain ⟨hc, hx⟩ := need_some hq
  refine ⟨loopsOk_nil _, Eq.trans ?_ hx⟩
  have e : funK Tryz.prog (look [(205, .rd1 partOfG), (170, .rd1 (kright n))]) (look []) Tryz.f204 [.tp LCd z 0, .bx [.tp LCd y 0] 0] [] = ((ifT (decide (List.length z.lab.snd.fst ≤ maxI)) (ifB (!partB y.lab.fst z.lab) (some (V.b true, [])) (ifT (decide (cntR z ≤ n ∧ cntR z ≤ (1000000 : Nat) ∧ namR z = true))
 (some (V.b !rightR z, []))))) : _) := by kernel_rfl
  have hn := of_decide_eq_true hc
  rw [e, ifT_true (dcT (namR_lab hn.2.2))]
  unfold badP
  cases partB y.lab.1 z.lab with
  | true => rw [ifT_true hc]; rfl
  | false => rfl
 ·cases hq
theorem kr_round (n : Nat) (y : Rose Lab) (l : List (Rose Lab)) (r k i : Int) : roundK Tryz.prog (look [(204, .rd1 (krightC n))]) (look [(2, (krE n))]) 1 (body Tryz.f177 0) (krE n) ([.sl (.tree LCd) l, .fn 204 [] [.ptr 0 0], .j r, .j k, .j i], [some (.box [.tp LCd y 0])]) =
 ((ifB (decide (i < k)) (ifT (decide ((0 : Int) ≤ i) && decide (i < (↑l.length : Int))) (ifSome l[i.toNat]? fun z => ifT (decide (cntR z ≤ n ∧ cntR z ≤ (1000000 : Nat) ∧ namR
 z = true)) (ifB (badP y.lab.fst z) (some (Ex.ret, [V.j i], [some (Blk.box [V.tp LCd y (0 : Nat)])])) (some (Ex.normal, [V.sl LCd.tree l, V.fn
 204 [] [V.ptr 0 0], V.j r, V.j k, V.j (IntKind.i64.wrap (i + (1 : Int)))], [some (Blk.box [V.tp LCd y (0 : Nat)])]))))) (some
 (Ex.exit 0, [], [some (Blk.box [V.tp LCd y (0 : Nat)])]))) : _) := by kernel_rfl
theorem kr_loop (n : Nat) (y : Rose Lab) {l : List (Rose Lab)} {r : Int} (hx : l.length ≤ maxI) (hs : (l.all (fun z : Rose Lab => decide (cntR z ≤ n ∧ cntR z ≤ 1000000 ∧ namR z = true))) = true) : ∀ (j i : Nat), i + j = l.length → ∀ e d', (.br (decide (firstP (fun z : Rose Lab => badP y.lab.1 z) i (l.drop i) < 0)) (.leaf (.exit 0, ([], [some (.box [.tp LCd y 0])]))) (.leaf (.ret, ([.j (firstP (fun z : Rose Lab => badP y.lab.1 z) i (l.drop i))], [some (.box [.tp LCd y 0])]))) : Br (Ex × Dt)).run = some (e, d') →
  Runs Tryz.prog (look [(204, .rd1 (krightC n))]) (look [(2, (krE n))]) 1 (body Tryz.f177 0) (krE n) ([.sl (.tree LCd) l, .fn 204 [] [.ptr 0 0], .j r, .j (l.length : Int), .j (i : Int)], [some (.box [.tp LCd y 0])]) e d'
 | 0, i, hi, e, d', h => by
  have e1 : l.drop i = [] := List.drop_eq_nil_of_le (by omega)
  rw [e1, br_run, firstP, if_pos (by omega)] at h
  cases h
  have hr := kr_round n y l r l.length i
  rw [ifB_false (dcF (by omega))] at hr
  exact .stop _ _ _ hr (by simp)
 | j + 1, i, hi, e, d', h => by
  have h1 : i < l.length := by omega
  have hr := kr_round n y l r l.length i
  rw [ifB_true (dcT (by omega)), ifT_true (by simp only [anE, dcE]; omega)] at hr
  simp only [ntN, gtE h1, ifSome_s, wrap_succ (n := i) (by omega)] at hr
  have hz := of_decide_eq_true (List.all_eq_true.1 hs _ (List.getElem_mem h1))
  rw [ifT_true (by simpa only [anE, dcE] using hz)] at hr
  rw [List.drop_eq_getElem_cons h1, br_run, firstP] at h
  by_cases he : (fun z : Rose Lab => badP y.lab.1 z) l[i] = true
  ·rw [if_pos he, if_neg (by omega)] at h
   cases h
   rw [ifB_true he] at hr
   exact .stop _ _ _ hr (by simp)
  ·rw [if_neg he] at h
   rw [ifB_false (by simpa using he)] at hr
   exact .step _ _ _ _ hr (kr_loop n y hx hs j (i + 1) (by omega) e d' (by rw [br_run]; exact h))
theorem kr_ok (n : Nat) : LoopsOk Tryz.prog (look [(204, .rd1 (krightC n))]) (look [(2, (krE n))]) 1 (Tryz.f177.body.getD .skip) := by
 refine loopsOk_one (a := body Tryz.f177 0) (by kernel_rfl) fun d e d' h => ?_
 unfold krE at h
 dsimp only at h
 split at h
 ·obtain ⟨hc, h'⟩ := need_some h
  rw [anE] at hc
  obtain ⟨hc, hs⟩ := hc
  obtain ⟨h0, h1, h2, rfl⟩ := of_decide_eq_true hc
  obtain ⟨i, rfl⟩ := Int.eq_ofNat_of_zero_le h0
  exact kr_loop n _  h2 hs _ i (Nat.add_sub_of_le h1) e d' h'
 ·cases h
theorem kr_fun (n : Nat) (y : Rose Lab) (l : List (Rose Lab)) (hx : l.length ≤ maxI) (hs : (l.all (fun z : Rose Lab => decide (cntR z ≤ n ∧ cntR z ≤ 1000000 ∧ namR z = true))) = true) : funK Tryz.prog (look [(204, .rd1 (krightC n))]) (look [(2, (krE n))]) Tryz.f177 [.sl (.tree LCd) l, .fn 204 [] [.ptr 0 0]] [.box [.tp LCd y 0]] = some (.j (firstP (fun z : Rose Lab => badP y.lab.1 z) 0 l), [some (.box [.tp LCd y 0])]) := by
 have e : funK Tryz.prog (look [(204, .rd1 (krightC n))]) (look [(2, (krE n))]) Tryz.f177 [.sl (.tree LCd) l, .fn 204 [] [.ptr 0 0]] [.box [.tp LCd y 0]] =
  ((ifT (decide ((0 : Int) ≤ (0 : Int) ∧ (0 : Nat) ≤ l.length ∧ l.length ≤ maxI ∧ (↑l.length : Int) = (↑l.length : Int)) && l.all fun z => decide (cntR z ≤ n ∧ cntR z ≤
 (1000000 : Nat) ∧ namR z = true)) (ifB (decide (firstP (fun z => badP y.lab.fst z) (0 : Nat) (List.drop (0 : Nat) l) < (0 : Int))) (some (V.j (-1), [some (Blk.box
 [V.tp LCd y (0 : Nat)])])) (some (V.j (firstP (fun z => badP y.lab.fst z) (0 : Nat) (List.drop (0 : Nat) l)), [some (Blk.box [V.tp LCd y (0 : Nat)])])))) : _) := by kernel_rfl
 rw [e, ifT_true (by rw [anE]; exact ⟨dcT ⟨by omega, by omega, hx, rfl⟩, hs⟩)]
 simp only [Int.toNat_zero, List.drop_zero]
 by_cases q : firstP (fun z : Rose Lab => badP y.lab.1 z) 0 l < 0
 ·rw [ifB_true (dcT q), firstP_neg _ _ _ q]
 ·rw [ifB_false (dcF q)]
theorem kr_idx (n : Nat) (hf : Contract Tryz.prog 204 (Ent.rd1 (krightC n)).F) : Contract Tryz.prog 177 (Ent.own (kriG n)).F := by
 refine fun_contract' (KnowsL.cons (enters_fn Tryz.func204 (by kernel_rfl) (by kernel_rfl)) hf KnowsL.nil).knows (Λ := (look [(2, (krE n))])) Tryz.func177 (c := Tryz.f177.body.getD .skip) (by kernel_rfl) fun vs bs r h hv hb => ?_
 unfold Ent.F kriG at h
 dsimp only at h
 split at h
 ·rename_i l y
  obtain ⟨hc, h'⟩ := need_some h
  exact ⟨kr_ok n, (kr_fun n y l (hv (.sl (.tree LCd) l) (by simp)).1 hc).trans (by cases h'; rfl)⟩
 ·cases h
theorem kr_hfun (n : Nat) (y : Rose Lab) (l : List (Rose Lab)) (hs : (l.all (fun z : Rose Lab => decide (cntR z ≤ n ∧ cntR z ≤ 1000000 ∧ namR z = true))) = true) : funK Tryz.prog (look [(177, .own (kriG n))]) (look []) Tryz.f203 [.sl (.tree LCd) l, .fn 204 [] [.ptr 0 0]] [.box [.tp LCd y 0]] = some (.b (l.any (fun z : Rose Lab => badP y.lab.1 z)), [some (.box [.tp LCd y 0])]) := by
 have e : funK Tryz.prog (look [(177, .own (kriG n))]) (look []) Tryz.f203 [.sl (.tree LCd) l, .fn 204 [] [.ptr 0 0]] [.box [.tp LCd y 0]] =
  ((ifT (l.all fun z => decide (cntR z ≤ n ∧ cntR z ≤ (1000000 : Nat) ∧ namR z = true)) (some (V.b (decide (firstP (fun z => badP y.lab.fst z) (0 : Nat) l ≥ (0 : Int))), [some
 (Blk.box [V.tp LCd y (0 : Nat)])]))) : _) := by kernel_rfl
 rw [e]
 rw [ifT_true hs]
 rw [firstP_any]
theorem kr_has (n : Nat) (hf : Contract Tryz.prog 204 (Ent.rd1 (krightC n)).F) : Contract Tryz.prog 203 (Ent.own (krhG n)).F := by
 refine fun_contract' (KnowsL.cons (enters_fn Tryz.func177 (by kernel_rfl) (by kernel_rfl)) (kr_idx n hf) KnowsL.nil).knows (Λ := look []) Tryz.func203 (c := Tryz.f203.body.getD .skip) (by kernel_rfl) fun vs bs r h hv hb => ?_
 unfold Ent.F krhG at h
 dsimp only at h
 split at h
 ·rename_i l y
  obtain ⟨hc, h'⟩ := need_some h
  exact ⟨loopsOk_nil _, (kr_hfun n y l hc).trans (by cases h'; rfl)⟩
 ·cases h
theorem kright_con : ∀ n, (∀ m, m < n → Contract Tryz.prog 170 (Ent.rd1 (kright m)).F) → Contract Tryz.prog 170 (Ent.rd1 (kright n)).F
 | 0, _ => contract_no fun vs bs => by
  unfold Ent.F kright
  dsimp only
  split
  ·rename_i z
   have := cnt_pos z
   rw [dcF (show ¬ (cntR z ≤ 0 ∧ cntR z ≤ 1000000 ∧ namR z = true) by omega)]; rfl
  ·rfl
 | n + 1, ih => by
  have hC := kr_has n (krightC_con n (ih n (Nat.lt_succ_self n)))
  refine fun_contract' (KnowsL.cons (enters_fn Tryz.func202 (by kernel_rfl) (by kernel_rfl)) partsOK (KnowsL.cons (enters_fn Tryz.func203 (by kernel_rfl) (by kernel_rfl)) hC KnowsL.nil)).knows (Λ := look []) Tryz.func170 (c := Tryz.f170.body.getD .skip) (by kernel_rfl) fun vs bs r hq hv hb => ?_
  unfold Ent.F kright at hq
  dsimp only at hq
  split at hq
  ·rename_i z
   obtain ⟨hc, hx⟩ := need_some hq
   obtain ⟨h1, h2, h3⟩ := of_decide_eq_true hc
   refine ⟨loopsOk_nil _, Eq.trans ?_ hx⟩
   have e : funK Tryz.prog (look [(202, .rd1 partsOKG), (203, .own (krhG n))]) (look []) Tryz.f170 [.tp LCd z 0] [] = ((ifT (decide (z.kids.length ≤ maxI)) (ifB (partsB z.lab z.kids) (ifT (z.kids.all fun z => decide (cntR z ≤ n ∧ cntR z ≤ (1000000 : Nat) ∧ namR z = true)) (some (V.b
 !z.kids.any fun z_1 => badP z.lab.fst z_1, []))) (some (V.b false, [])))) : _) := by kernel_rfl
   rw [cnt_kids] at h1 h2
   have hl := cnt_len z.kids
   have hM : maxI = 9223372036854775807 := rfl
   have hall : (z.kids.all fun z : Rose Lab => decide (cntR z ≤ n ∧ cntR z ≤ 1000000 ∧ namR z = true)) = true := List.all_eq_true.2 fun w hw => dcT ⟨by have := cnt_mem hw; omega, by have := cnt_mem hw; omega, namL_mem (namR_kids h3) hw⟩
   rw [e, ifT_true (dcT (by omega))]
   have hr : rightR z = (partsB z.lab z.kids && !(z.kids.any fun w => badP z.lab.1 w)) := by cases z; rw [rightR, rightL_any]; rfl
   rw [hr]
   cases partsB z.lab z.kids with
   | true => rw [ifB_t, ifT_true hall]; rfl
   | false => rfl
  ·cases hq
theorem right : Contract Tryz.prog 170 (Ent.rd1 rightG).F := by
 refine contract_rec (F := fun n => (Ent.rd1 (kright n)).F) kright_con fun vs bs r h => ?_
 unfold Ent.F rightG at h
 dsimp only at h
 split at h
 ·rename_i z
  obtain ⟨hc, hx⟩ := need_some h
  obtain ⟨h1, h2⟩ := of_decide_eq_true hc
  refine ⟨1000000, ?_⟩
  show (Br.need (decide (cntR z ≤ 1000000 ∧ cntR z ≤ 1000000 ∧ namR z = true)) (.leaf (.b (rightR z), []))).run = some r
  rw [dcT (show cntR z ≤ 1000000 ∧ cntR z ≤ 1000000 ∧ namR z = true from ⟨h1, h1, h2⟩)]
  exact hx
 ·cases h
theorem kgood : Contract Tryz.prog 135 (Ent.rd1 kgoodG).F := by
 refine fun_contract' (KnowsL.cons (enters_fn Tryz.func170 (by kernel_rfl) (by kernel_rfl)) right (KnowsL.cons (enters_fn Tryz.func171 (by kernel_rfl) (by kernel_rfl)) kdeep (KnowsL.cons (enters_fn Tryz.func172 (by kernel_rfl) (by kernel_rfl)) kcount KnowsL.nil))).knows (Λ := look []) Tryz.func135 (c := Tryz.f135.body.getD .skip) (by kernel_rfl) fun vs bs r hq hv hb => ?_
 unfold Ent.F kgoodG at hq
 dsimp only at hq
 split at hq
 ·rename_i z
  obtain ⟨hc, hx⟩ := need_some hq
  obtain ⟨h1, h2⟩ := of_decide_eq_true hc
  refine ⟨loopsOk_nil _, Eq.trans ?_ hx⟩
  have e : funK Tryz.prog (look [(170, .rd1 rightG), (171, .rd1 kdeepG), (172, .rd1 kcountG)]) (look []) Tryz.f135 [.tp LCd z 0] [] = ((ifB (z.lab.fst == (5 : Int)) (ifB (z.lab.snd.fst == nilT UInt8) (ifB (z.lab.snd.snd.fst == (0 : Int)) (ifB (!z.lab.snd.snd.snd.fst) (ifT (decide (cntR z ≤ (1000000 : Nat)
 ∧ namR z = true)) (ifB (rightR z) (ifT (decide (cntR z ≤ (1000000 : Nat))) (ifB (decide ((↑(deepR z) : Int) ≤ (5 : Int))) (ifT (decide (cntR z ≤ (1000000 : Nat))) (some
 (V.b (decide ((↑(cntR z) : Int) ≤ (30 : Int))), []))) (some (V.b false, [])))) (some (V.b false, [])))) (some (V.b false, []))) (some (V.b false, []))) (some (V.b false,
 []))) (some (V.b false, []))) : _) := by kernel_rfl
  rw [e, dcT h1, hc]
  have d1 : decide ((deepR z : Int) ≤ 5) = decide (deepR z ≤ 5) := decide_eq_decide.2 (by omega)
  have d2 : decide ((cntR z : Int) ≤ 30) = decide (cntR z ≤ 30) := decide_eq_decide.2 (by omega)
  rw [d1, d2]
  unfold goodR
  cases z.lab.1 == 5 <;> cases z.lab.2.1 == [] <;> cases z.lab.2.2.1 == 0 <;> cases z.lab.2.2.2.1 <;> cases rightR z <;> cases decide (deepR z ≤ 5) <;> rfl
 ·cases hq

def kindB (l : List Ty) : Bool := decide (1 ≤ l.length ∧ l.length ≤ 30) && decide (upAt l 0 = some (-1)) && (kf l 0).2 == l.length && goodR (kf l 0).1
def nmL (l : List Ty) : Bool := l.all fun x => decide (x.2.1.length ≤ maxI)
def kindOfG : List V → List Blk → Br (V × List (Option Blk))
 | [.agg [.sl (.pair (.int .i64) (.pair .str (.pair (.int .i64) (.pair .bool (.pair (.int .i64) (.pair (.int .i64) .unit)))))) l]], [] => .need (decide (l.length ≤ 4000000000) && nmL l) (.br (kindB l) (.leaf (.ptr 0 0, [some (.box [.i .i64 (kf l 0).1.lab.1, .s (kf l 0).1.lab.2.1, .i .i64 (kf l 0).1.lab.2.2.1, .b (kf l 0).1.lab.2.2.2.1, .i .i64 (kf l 0).1.lab.2.2.2.2.1, .ref 1 0 (kf l 0).1.kids.length]), some (.row false none (.tree (.pair (.int .i64) (.pair .str (.pair (.int .i64) (.pair .bool (.pair (.int .i64) .unit)))))) (kf l 0).1.kids)])) (.leaf (.np, [])))
 | _, _ => .no
def gschG : List V → List Blk → Br (V × List (Option Blk))
 | [.agg [.sl (.pair (.int .i64) (.pair .str (.pair (.int .i64) (.pair .bool (.pair (.int .i64) (.pair (.int .i64) .unit)))))) l]], [] => .need (decide (l.length ≤ 4000000000) && nmL l) (.leaf (.b (kindB l), []))
 | _, _ => .no

theorem kloop_cnt {l : List Ty} {g : Nat → Rose Lab × Nat} {a : Nat} (hg : ∀ e, e < l.length → e + cntR (g e).1 = (g e).2) : ∀ (n e : Nat) (ks : List (Rose Lab)), (kloop g l a n e ks).2 + cntL ks = e + cntL (kloop g l a n e ks).1
 | 0, e, ks => rfl
 | n + 1, e, ks => by
  unfold kloop
  split
  ·rename_i hu
   have h1 := hg e (up_lt hu)
   have h2 := kloop_cnt (a := a) hg n (g e).2 (ks ++ [(g e).1])
   have h3 : ∀ (ks : List (Rose Lab)) (z : Rose Lab), cntL (ks ++ [z]) = cntL ks + cntR z := fun ks z => by
    induction ks with
    | nil => simp [cntL]
    | cons y ks ih => rw [List.cons_append, cntL, cntL, ih]; omega
   rw [h3] at h2
   omega
  ·rfl
theorem kfr_cnt (l : List Ty) : ∀ f a, a < l.length → a + cntR (kfr l f a).1 = (kfr l f a).2
 | 0, a, h => by simp [kfr, cntR, cntL]
 | f + 1, a, h => by
  unfold kfr
  dsimp only
  cases holdsK (labAt l a).1 with
  | true =>
   have := kloop_cnt (a := a) (kfr_cnt l f) l.length (a + 1) []
   rw [cntL] at this
   rw [cond_true, cntR]; omega
  | false => rw [cond_false, cntR, cntL]
theorem kf_cnt {l : List Ty} {a : Nat} (h : a < l.length) : a + cntR (kf l a).1 = (kf l a).2 := kfr_cnt l l.length a h
theorem namL_app : ∀ (ks : List (Rose Lab)) (z : Rose Lab), namL ks = true → namR z = true → namL (ks ++ [z]) = true
 | [], z, _, h => by simp [namL, h]
 | y :: ks, z, h1, h2 => by
  rw [namL, anE] at h1
  rw [List.cons_append, namL, h1.1, namL_app ks z h1.2 h2]; rfl
theorem kloop_nam {l : List Ty} {g : Nat → Rose Lab × Nat} {a : Nat} (hg : ∀ e, namR (g e).1 = true) : ∀ (n e : Nat) (ks : List (Rose Lab)), namL ks = true → namL (kloop g l a n e ks).1 = true
 | 0, e, ks, h => h
 | n + 1, e, ks, h => by
  unfold kloop
  split
  ·exact kloop_nam hg n _ _ (namL_app _ _ h (hg e))
  ·exact h
theorem kfr_nam {l : List Ty} (hn : nmL l = true) : ∀ f a, namR (kfr l f a).1 = true := by
 have lab : ∀ a, (labAt l a).2.1.length ≤ maxI := fun a => by
  unfold labAt
  cases h : l[a]? with
  | none => exact Nat.zero_le _
  | some x => exact of_decide_eq_true (List.all_eq_true.1 hn x (List.mem_of_getElem? h))
 intro f
 induction f with
 | zero => intro a; simp [kfr, namR, namL, lab a]
 | succ f ih =>
  intro a
  unfold kfr
  dsimp only
  cases holdsK (labAt l a).1 with
  | true => rw [cond_true, namR, dcT (lab a), kloop_nam ih _ _ _ rfl]; rfl
  | false => rw [cond_false, namR, dcT (lab a)]; rfl
theorem kindOf_fun (l : List Ty) (h1 : l.length ≤ 4000000000) (h2 : nmL l = true) : funN Tryz.prog (look [(88, .rd1 withinG), (134, .rd1 kindFromG), (135, .rd1 kgoodG)]) (look []) Tryz.f92 [.agg [.sl TCd l]] [] = (.br (kindB l) (.leaf (.ptr 0 0, [some (.box [.j (kf l 0).1.lab.1, .s (kf l 0).1.lab.2.1, .j (kf l 0).1.lab.2.2.1, .b (kf l 0).1.lab.2.2.2.1, .j (kf l 0).1.lab.2.2.2.2.1, .ref 1 0 (kf l 0).1.kids.length]), some (.row false none (.tree LCd) (kf l 0).1.kids)])) (.leaf (.np, [])) : Br (V × List (Option Blk))).run := by
 have e : funN Tryz.prog (look [(88, .rd1 withinG), (134, .rd1 kindFromG), (135, .rd1 kgoodG)]) (look []) Tryz.f92 [.agg [.sl TCd l]] [] = ((ifB (!decide ((1 : Int) ≤ (↑l.length : Int) ∧ (↑l.length : Int) ≤ (30 : Int))) (some (V.np, [])) (ifT (decide ((0 : Int) ≤ (0 : Int)) && decide ((0 : Int) < (↑l.length :
 Int))) (ifSome l[(0 : Nat)]? fun z => ifB (z.snd.snd.snd.snd.fst != (-1 : Int)) (some (V.np, [])) (ifT (decide ((0 : Int) ≤ (0 : Int) ∧ (0 : Nat) < l.length ∧ l.length ≤
 (4000000000 : Nat))) (ifB ((↑(kf l (0 : Nat)).snd : Int) != (↑l.length : Int)) (some (V.np, [])) (ifT (decide (cntR (Rose.node ((kf l (0 : Nat)).fst.lab.fst, (kf l (0 :
 Nat)).fst.lab.snd.fst, (kf l (0 : Nat)).fst.lab.snd.snd.fst, (kf l (0 : Nat)).fst.lab.snd.snd.snd.fst, (kf l (0 : Nat)).fst.lab.snd.snd.snd.snd.fst, ()) (List.take (kf l
 (0 : Nat)).fst.kids.length (List.drop (0 : Nat) (kf l (0 : Nat)).fst.kids))) ≤ (1000000 : Nat) ∧ namR (Rose.node ((kf l (0 : Nat)).fst.lab.fst, (kf l (0 :
 Nat)).fst.lab.snd.fst, (kf l (0 : Nat)).fst.lab.snd.snd.fst, (kf l (0 : Nat)).fst.lab.snd.snd.snd.fst, (kf l (0 : Nat)).fst.lab.snd.snd.snd.snd.fst, ()) (List.take (kf l
 (0 : Nat)).fst.kids.length (List.drop (0 : Nat) (kf l (0 : Nat)).fst.kids))) = true)) (ifB (!goodR (Rose.node ((kf l (0 : Nat)).fst.lab.fst, (kf l (0 :
 Nat)).fst.lab.snd.fst, (kf l (0 : Nat)).fst.lab.snd.snd.fst, (kf l (0 : Nat)).fst.lab.snd.snd.snd.fst, (kf l (0 : Nat)).fst.lab.snd.snd.snd.snd.fst, ()) (List.take (kf l
 (0 : Nat)).fst.kids.length (List.drop (0 : Nat) (kf l (0 : Nat)).fst.kids)))) (some (V.np, [])) (some (V.ptr 0 0, [some (Blk.box [V.j (kf l (0 : Nat)).fst.lab.fst,
 V.s (kf l (0 : Nat)).fst.lab.snd.fst, V.j (kf l (0 : Nat)).fst.lab.snd.snd.fst, V.b (kf l (0 : Nat)).fst.lab.snd.snd.snd.fst, V.j (kf l (0 :
 Nat)).fst.lab.snd.snd.snd.snd.fst, V.ref 1 0 (kf l (0 : Nat)).fst.kids.length]), some (Blk.row false none LCd.tree (kf l (0 : Nat)).fst.kids)]))))))))) : _) := by kernel_rfl
 rw [e]
 clear e
 unfold kindB
 by_cases a1 : 1 ≤ l.length ∧ l.length ≤ 30
 ·have hl : 0 < l.length := by omega
  have d1 : decide ((1 : Int) ≤ (l.length : Int) ∧ (l.length : Int) ≤ 30) = true := dcT (by omega)
  have d2 : (decide ((0 : Int) ≤ 0) && decide ((0 : Int) < (l.length : Int))) = true := by simp only [anE, dcE]; omega
  have d3 : decide ((0 : Int) ≤ 0 ∧ 0 < l.length ∧ l.length ≤ 4000000000) = true := dcT ⟨by omega, hl, h1⟩
  have hc := kf_cnt hl
  have hb := kf_bnd l 0 hl
  have d4 : decide (cntR (kf l 0).1 ≤ 1000000 ∧ namR (kf l 0).1 = true) = true := dcT ⟨by omega, kfr_nam h2 _ _⟩
  have ht := rose_eta (kf l 0).1
  rw [List.drop_zero, List.take_length] at ht
  rw [d1, dcT a1]
  simp only [ifB_t, Bool.not_true, ifB_f, d2, ifT_t, Int.toNat_zero, gtE hl, ifSome_s, d3, List.drop_zero, List.take_length, ht, d4, Bool.true_and]
  have hu : upAt l 0 = some (l[0].2.2.2.2.1) := by unfold upAt; rw [gtE hl]; rfl
  rw [hu]
  by_cases a2 : l[0].2.2.2.2.1 = -1
  ·rw [a2]
   by_cases a3 : (kf l 0).2 = l.length
   ·rw [a3]
    cases goodR (kf l 0).1 <;> simp [Br.run]
   ·rw [beq_false_of_ne a3]
    have : (((kf l 0).2 : Int) != (l.length : Int)) = true := by simpa using a3
    simp [this, Br.run]
  ·have : (l[0].2.2.2.2.1 != (-1 : Int)) = true := by simpa using a2
   simp [a2, this, Br.run]
 ·have d1 : decide ((1 : Int) ≤ (l.length : Int) ∧ (l.length : Int) ≤ 30) = false := dcF (by omega)
  rw [d1, dcF a1]
  rfl
theorem kindOf : Contract Tryz.prog 92 (Ent.rd1 kindOfG).F := by
 refine fun_contractN' (KnowsL.cons (enters_fn Tryz.func88 (by kernel_rfl) (by kernel_rfl)) within (KnowsL.cons (enters_fn Tryz.func134 (by kernel_rfl) (by kernel_rfl)) kindFrom (KnowsL.cons (enters_fn Tryz.func135 (by kernel_rfl) (by kernel_rfl)) kgood KnowsL.nil))).knows (Λ := look []) Tryz.func92 (c := Tryz.f92.body.getD .skip) (by kernel_rfl) fun vs bs r hq hv hb => ?_
 unfold Ent.F kindOfG at hq
 dsimp only at hq
 split at hq
 ·rename_i l
  obtain ⟨hc, hx⟩ := need_some hq
  rw [anE] at hc
  exact ⟨loopsOk_nil _, (kindOf_fun l (of_decide_eq_true hc.1) hc.2).trans hx⟩
 ·cases hq
theorem igsch : Contract Tryz.prog 87 (Ent.rd1 gschG).F := by
 refine fun_contract' (KnowsL.cons (enters_fn Tryz.func92 (by kernel_rfl) (by kernel_rfl)) kindOf KnowsL.nil).knows (Λ := look []) Tryz.func87 (c := Tryz.f87.body.getD .skip) (by kernel_rfl) fun vs bs r hq hv hb => ?_
 unfold Ent.F gschG at hq
 dsimp only at hq
 split at hq
 ·rename_i l
  obtain ⟨hc, hx⟩ := need_some hq
  refine ⟨loopsOk_nil _, Eq.trans ?_ hx⟩
  have e : funK Tryz.prog (look [(92, .rd1 kindOfG)]) (look []) Tryz.f87 [.agg [.sl TCd l]] [] = ((ifT (decide (l.length ≤ (4000000000 : Nat)) && nmL l) (ifB (kindB l) (some (V.b true, [])) (some (V.b false, [])))) : _) := by kernel_rfl
  rw [e, ifT_true hc]
  cases kindB l <;> rfl
 ·cases hq

def kidsL (k : Int) : Nat → List Ty → List Int
 | _, [] => []
 | i, x :: l => if x.2.2.2.2.1 = k then (i : Int) :: kidsL k (i + 1) l else kidsL k (i + 1) l
def kidsAt (l : List Ty) (k : Nat) : List Int := kidsL k (k + 1) (l.drop (k + 1))
def t2 (l : List Ty) : Nat → Nat → Rose Lab
 | 0, k => .node (labAt l k) []
 | f + 1, k => .node (labAt l k) ((kidsAt l k).map fun i => t2 l f i.toNat)
def t2L (l : List Ty) (k : Nat) : Rose Lab := t2 l l.length k
def l2KidsE : LoopEnt := ⟨29, [1,2,5,6], [5], [], fun
 | ([.i .i64 k, .ptr 0 0, .ref 1 0 n, .i .i64 i], [some (.box [.sl (.pair (.int .i64) (.pair .str (.pair (.int .i64) (.pair .bool (.pair (.int .i64) (.pair (.int .i64) .unit)))))) l]), some (.row false none (.int .i64) o)]) => .need (decide (0 ≤ i ∧ i.toNat ≤ l.length ∧ l.length ≤ 4000000000 ∧ n = o.length ∧ o.length ≤ i.toNat)) (.leaf (.exit 0, ([.ref 0 0 (o ++ kidsL k i.toNat (l.drop i.toNat)).length], [some (.row false none (.int .i64) (o ++ kidsL k i.toNat (l.drop i.toNat)))])))
 | _ => .no⟩
def l2KidsG : List V → List Blk → Br (V × List (Option Blk))
 | [.agg [.sl (.pair (.int .i64) (.pair .str (.pair (.int .i64) (.pair .bool (.pair (.int .i64) (.pair (.int .i64) .unit)))))) l], .i .i64 k], [] => .need (decide (0 ≤ k ∧ k.toNat < l.length ∧ l.length ≤ 4000000000)) (.leaf (.ref 0 0 (kidsAt l k.toNat).length, [some (.row false none (.int .i64) (kidsAt l k.toNat))]))
 | _, _ => .no
def l2TreeN (n : Nat) : List V → List Blk → Br (V × List (Option Blk))
 | [.agg [.sl (.pair (.int .i64) (.pair .str (.pair (.int .i64) (.pair .bool (.pair (.int .i64) (.pair (.int .i64) .unit)))))) l], .i .i64 k], [] => .need (decide (0 ≤ k ∧ k.toNat < l.length ∧ l.length ≤ 4000000000 ∧ l.length - k.toNat ≤ n)) (.leaf (.agg [.i .i64 (t2L l k.toNat).lab.1, .s (t2L l k.toNat).lab.2.1, .i .i64 (t2L l k.toNat).lab.2.2.1, .b (t2L l k.toNat).lab.2.2.2.1, .i .i64 (t2L l k.toNat).lab.2.2.2.2.1, .ref 0 0 (t2L l k.toNat).kids.length], [some (.row false none (.rose (.pair (.int .i64) (.pair .str (.pair (.int .i64) (.pair .bool (.pair (.int .i64) .unit)))))) (t2L l k.toNat).kids)]))
 | _, _ => .no
def l2TreeG : List V → List Blk → Br (V × List (Option Blk))
 | [.agg [.sl (.pair (.int .i64) (.pair .str (.pair (.int .i64) (.pair .bool (.pair (.int .i64) (.pair (.int .i64) .unit)))))) l], .i .i64 k], [] => .need (decide (0 ≤ k ∧ k.toNat < l.length ∧ l.length ≤ 4000000000)) (.leaf (.agg [.i .i64 (t2L l k.toNat).lab.1, .s (t2L l k.toNat).lab.2.1, .i .i64 (t2L l k.toNat).lab.2.2.1, .b (t2L l k.toNat).lab.2.2.2.1, .i .i64 (t2L l k.toNat).lab.2.2.2.2.1, .ref 0 0 (t2L l k.toNat).kids.length], [some (.row false none (.rose (.pair (.int .i64) (.pair .str (.pair (.int .i64) (.pair .bool (.pair (.int .i64) .unit)))))) (t2L l k.toNat).kids)]))
 | _, _ => .no
def l2TreeE (n : Nat) : LoopEnt := ⟨43, [2,4,6,27,28,29], [4,6], [], fun
 | ([.ptr 0 0, .ptr 1 0, .ptr 2 0, .ref 3 0 p, .i .i64 m, .i .i64 i], [some (.box [.sl (.pair (.int .i64) (.pair .str (.pair (.int .i64) (.pair .bool (.pair (.int .i64) (.pair (.int .i64) .unit)))))) l]), some (.box [.i .i64 0, .s [], .i .i64 0, .b false, .i .i64 0, .ref 4 0 0]), some (.box [.i .i64 x0, .s x1, .i .i64 x2, .b x3, .i .i64 x4, .ref 5 0 k]), some (.row false none (.int .i64) q), some (.row false none (.rose (.pair (.int .i64) (.pair .str (.pair (.int .i64) (.pair .bool (.pair (.int .i64) .unit)))))) []), some (.row false none (.rose (.pair (.int .i64) (.pair .str (.pair (.int .i64) (.pair .bool (.pair (.int .i64) .unit)))))) ks)]) => .need (decide (0 ≤ i ∧ i.toNat ≤ q.length ∧ m = q.length ∧ p = q.length ∧ k = ks.length ∧ ks.length ≤ i.toNat ∧ q.length ≤ 4000000000 ∧ l.length ≤ 4000000000) && (q.all fun i : Int => decide (0 ≤ i ∧ i.toNat < l.length ∧ l.length - i.toNat ≤ n))) (.leaf (.exit 0, ([.ptr 0 0, .ptr 1 0], [some (.box [.i .i64 0, .s [], .i .i64 0, .b false, .i .i64 0, .ref 2 0 0]), some (.box [.i .i64 x0, .s x1, .i .i64 x2, .b x3, .i .i64 x4, .ref 3 0 (ks ++ (q.drop i.toNat).map fun i => t2L l i.toNat).length]), some (.row false none (.rose (.pair (.int .i64) (.pair .str (.pair (.int .i64) (.pair .bool (.pair (.int .i64) .unit)))))) []), some (.row false none (.rose (.pair (.int .i64) (.pair .str (.pair (.int .i64) (.pair .bool (.pair (.int .i64) .unit)))))) (ks ++ (q.drop i.toNat).map fun i => t2L l i.toNat))])))
 | _ => .no⟩

theorem kidsL_mem {k : Int} : ∀ {l : List Ty} {i : Nat} {x : Int}, x ∈ kidsL k i l → ∃ j : Nat, x = (j : Int) ∧ i ≤ j ∧ j < i + l.length
 | [], i, x, h => by simp [kidsL] at h
 | y :: l, i, x, h => by
  rw [kidsL] at h
  have rest : x ∈ kidsL k (i + 1) l → ∃ j : Nat, x = (j : Int) ∧ i ≤ j ∧ j < i + (y :: l).length := fun h => by
   obtain ⟨j, h1, h2, h3⟩ := kidsL_mem h
   exact ⟨j, h1, by omega, by simp; omega⟩
  split at h
  ·rcases List.mem_cons.1 h with rfl | h
   ·exact ⟨i, rfl, Nat.le_refl _, by simp⟩
   ·exact rest h
  ·exact rest h
theorem kidsAt_mem {l : List Ty} {k : Nat} {x : Int} (h : x ∈ kidsAt l k) : ∃ j : Nat, x = (j : Int) ∧ k < j ∧ j < l.length := by
 obtain ⟨j, h1, h2, h3⟩ := kidsL_mem h
 rw [List.length_drop] at h3
 exact ⟨j, h1, by omega, by omega⟩
theorem kidsL_len (k : Int) : ∀ (l : List Ty) (i : Nat), (kidsL k i l).length ≤ l.length
 | [], i => Nat.le_refl _
 | y :: l, i => by
  rw [kidsL]
  have := kidsL_len k l (i + 1)
  split <;> simp <;> omega
theorem t2_fuel (l : List Ty) : ∀ (f f' k : Nat), l.length - k ≤ f → l.length - k ≤ f' → k < l.length → t2 l f k = t2 l f' k
 | 0, f', k, h1, _, h => by omega
 | f + 1, 0, k, _, h1, h => by omega
 | f + 1, f' + 1, k, h1, h2, h => by
  unfold t2
  congr 1
  refine List.map_congr_left fun x hx => ?_
  obtain ⟨j, rfl, h3, h4⟩ := kidsAt_mem hx
  exact t2_fuel l f f' _ (by simp; omega) (by simp; omega) (by simpa using h4)
theorem t2_eq {l : List Ty} {k : Nat} (h : k < l.length) : t2L l k = .node (labAt l k) ((kidsAt l k).map fun i => t2L l i.toNat) := by
 obtain ⟨m, hm⟩ : ∃ m, l.length = m + 1 := ⟨l.length - 1, by omega⟩
 unfold t2L
 conv => lhs; rw [hm]
 rw [t2]
 congr 1
 refine List.map_congr_left fun x hx => ?_
 obtain ⟨j, rfl, h3, h4⟩ := kidsAt_mem hx
 exact t2_fuel l m l.length _ (by simp; omega) (by simp) (by simpa using h4)
theorem l2Kids_round (l : List Ty) (k : Int) (n : Nat) (i : Int) (o : List Int) : roundK Tryz.prog (look []) (look [(3, l2KidsE)]) 0 (body Tryz.f123 0) l2KidsE ([.j k, .ptr 0 0, .ref 1 0 n, .j i], [some (.box [.sl TCd l]), some (.row false none (.int .i64) o)]) =
 ((ifB (decide (i < (↑l.length : Int))) (ifT (decide ((0 : Int) ≤ i) && decide (i < (↑l.length : Int))) (ifSome l[i.toNat]? fun z => ifB (z.snd.snd.snd.snd.fst == k) (ifT
 (decide ((n + (1 : Nat)) * (8 : Nat) ≤ (140737488355328 : Nat)) && decide (n + (1 : Nat) ≤ maxI)) (some (Ex.normal, [V.j k, V.ptr 0 0, V.ref 1 0 (n + (1 : Nat)), V.i
 .i64 (IntKind.i64.wrap (i + (1 : Int)))], [some (Blk.box [V.sl TCd l]), some (Blk.row false none (Cd.int .i64) (List.take n (List.drop (0 : Nat) o) ++ i :: nilT (Cd.int
 .i64).den))]))) (some (Ex.normal, [V.j k, V.ptr 0 0, V.ref 1 0 n, V.j (IntKind.i64.wrap (i + (1 : Int)))], [some (Blk.box [V.sl TCd l]), some (Blk.row false
 none (Cd.int .i64) o)])))) (some (Ex.exit 0, [V.ref 0 0 n], [some (Blk.row false none (Cd.int .i64) o)]))) : _) := by kernel_rfl
theorem l2Kids_loop (l : List Ty) (k : Int) (hl : l.length ≤ 4000000000) : ∀ (j i : Nat) (o : List Int), i + j = l.length → o.length ≤ i →
  Runs Tryz.prog (look []) (look [(3, l2KidsE)]) 0 (body Tryz.f123 0) l2KidsE ([.j k, .ptr 0 0, .ref 1 0 o.length, .j (i : Int)], [some (.box [.sl TCd l]), some (.row false none (.int .i64) o)]) (.exit 0) ([.ref 0 0 (o ++ kidsL k i (l.drop i)).length], [some (.row false none (.int .i64) (o ++ kidsL k i (l.drop i)))])
 | 0, i, o, hi, ho => by
  have hr := l2Kids_round l k o.length i o
  rw [ifB_false (dcF (by omega))] at hr
  rw [List.drop_eq_nil_of_le (by omega), kidsL, List.append_nil]
  exact .stop _ _ _ hr (by simp)
 | j + 1, i, o, hi, ho => by
  have h1 : i < l.length := by omega
  have hM : maxI = 9223372036854775807 := rfl
  have hr := l2Kids_round l k o.length i o
  rw [ifB_true (dcT (by omega)), ifT_true (by simp only [anE, dcE]; omega)] at hr
  simp only [ntN, gtE h1, ifSome_s, wrap_succ (n := i) (by omega), List.drop_zero, List.take_length] at hr
  rw [List.drop_eq_getElem_cons h1, kidsL]
  by_cases h2 : l[i].2.2.2.2.1 = k
  ·rw [ifB_true (by rw [h2]; exact beq_self_eq_true _), ifT_true (by simp only [anE, dcE]; omega)] at hr
   rw [if_pos h2]
   have ih := l2Kids_loop l k hl j (i + 1) (o ++ [(i : Int)]) (by omega) (by simp; omega)
   rw [List.append_assoc] at ih
   exact .step _ _ _ _ (hr.trans (by simp)) ih
  ·rw [ifB_false (beq_false_of_ne h2)] at hr
   rw [if_neg h2]
   exact .step _ _ _ _ hr (l2Kids_loop l k hl j (i + 1) o (by omega) (by omega))
theorem l2Kids_ok : LoopsOk Tryz.prog (look []) (look [(3, l2KidsE)]) 0 (Tryz.f123.body.getD .skip) := by
 refine loopsOk_one (a := body Tryz.f123 0) (by kernel_rfl) fun d ex d' h => ?_
 unfold l2KidsE at h
 dsimp only at h
 split at h
 ·rename_i k n i l o
  obtain ⟨hc, hx⟩ := need_some h
  clear h
  obtain ⟨h0, h1, h2, rfl, h4⟩ := of_decide_eq_true hc
  obtain ⟨i, rfl⟩ := Int.eq_ofNat_of_zero_le h0
  simp only [ntN] at h1 h4 hx
  have h8 := leaf_some hx
  obtain ⟨rfl, rfl⟩ := Prod.mk.inj h8
  exact l2Kids_loop l k h2 (l.length - i) i o (by omega) h4
 ·cases h
theorem l2Kids_fun (l : List Ty) (k : Int) (hc : 0 ≤ k ∧ k.toNat < l.length ∧ l.length ≤ 4000000000) : funN Tryz.prog (look []) (look [(3, l2KidsE)]) Tryz.f123 [.agg [.sl TCd l], .j k] [] = some (.ref 0 0 (kidsAt l k.toNat).length, [some (.row false none (.int .i64) (kidsAt l k.toNat))]) := by
 have e : funN Tryz.prog (look []) (look [(3, l2KidsE)]) Tryz.f123 [.agg [.sl TCd l], .j k] [] = ((ifT (decide ((0 : Int) ≤ IntKind.i64.wrap (k + (1 : Int)) ∧ (IntKind.i64.wrap (k + (1 : Int))).toNat ≤ l.length ∧ l.length ≤ (4000000000 : Nat) ∧ (0 : Nat) = (0 : Nat) ∧
 (0 : Nat) ≤ (IntKind.i64.wrap (k + (1 : Int))).toNat)) (some (V.ref 0 0 (nilT (Cd.int .i64).den ++ kidsL k (IntKind.i64.wrap (k + (1 : Int))).toNat (List.drop
 (IntKind.i64.wrap (k + (1 : Int))).toNat l)).length, [some (Blk.row false none (Cd.int .i64) (nilT (Cd.int .i64).den ++ kidsL k (IntKind.i64.wrap (k + (1 : Int))).toNat
 (List.drop (IntKind.i64.wrap (k + (1 : Int))).toNat l)))]))) : _) := by kernel_rfl
 rw [e]
 clear e
 obtain ⟨h0, h1, h2⟩ := hc
 obtain ⟨k, rfl⟩ := Int.eq_ofNat_of_zero_le h0
 rw [ntN] at h1
 have hM : maxI = 9223372036854775807 := rfl
 rw [wrap_succ (n := k) (by omega), ifT_true (dcT ⟨by omega, by omega, h2, by simp, by simp⟩)]
 simp only [ntN, nilT_eq, List.nil_append]
 rfl
theorem l2Kids : Contract Tryz.prog 123 (Ent.rd1 l2KidsG).F := by
 refine fun_contractN' KnowsL.nil.knows (Λ := (look [(3, l2KidsE)])) Tryz.func123 (c := Tryz.f123.body.getD .skip) (by kernel_rfl) fun vs bs r hq hv hb => ?_
 unfold Ent.F l2KidsG at hq
 dsimp only at hq
 split at hq
 ·rename_i l k
  obtain ⟨hc, hx⟩ := need_some hq
  exact ⟨l2Kids_ok, (l2Kids_fun l k (of_decide_eq_true hc)).trans hx⟩
 ·cases hq
abbrev Lqa2 (n : Nat) : FuncId → Option Ent := look [(123, .rd1 l2KidsG), (83, .rd1 (l2TreeN n))]
theorem l2Tree_round (n : Nat) (l : List Ty) (x0 : Int) (x1 : List UInt8) (x2 : Int) (x3 : Bool) (x4 : Int) (p : Nat) (m i : Int) (k : Nat) (q : List Int) (ks : List (Rose Lab)) : roundK Tryz.prog (Lqa2 n) (look [(4, l2TreeE n)]) 0 (body Tryz.f83 0) (l2TreeE n) ([.ptr 0 0, .ptr 1 0, .ptr 2 0, .ref 3 0 p, .j m, .j i], [some (.box [.sl TCd l]), some (.box [.j 0, .s [], .j 0, .b false, .j 0, .ref 4 0 0]), some (.box [.j x0, .s x1, .j x2, .b x3, .j x4, .ref 5 0 k]), some (.row false none (.int .i64) q), some (.row false none (.rose LCd) []), some (.row false none (.rose LCd) ks)]) =
 ((ifB (decide (i < m)) (ifT (decide ((0 : Int) ≤ i) && decide (i < (↑p : Int))) (ifSome q[(0 : Nat) + i.toNat]? fun z => ifT (decide ((0 : Int) ≤ z ∧ Int.toNat z < l.length
 ∧ l.length ≤ (4000000000 : Nat) ∧ l.length - Int.toNat z ≤ n)) (ifT (decide ((k + (1 : Nat)) * (72 : Nat) ≤ (140737488355328 : Nat)) && decide (k + (1 : Nat) ≤ maxI))
 (some (Ex.normal, [V.ptr 0 0, V.ptr 1 0, V.ptr 2 0, V.ref 3 0 p, V.j m, V.j (IntKind.i64.wrap (i + (1 : Int)))], [some (Blk.box [V.sl TCd l]), some (Blk.box
 [V.j 0, V.s (nilT UInt8), V.j 0, V.b false, V.j 0, V.ref 4 0 0]), some (Blk.box [V.j x0, V.s x1, V.j x2, V.b x3, V.j x4, V.ref 5 0 (k + (1 :
 Nat))]), some (Blk.row false none (Cd.int .i64) q), some (Blk.row false none LCd.rose (nilT LCd.rose.den)), some (Blk.row false none LCd.rose (List.take k (List.drop (0 :
 Nat) ks) ++ Rose.node ((t2L l (Int.toNat z)).lab.fst, (t2L l (Int.toNat z)).lab.snd.fst, (t2L l (Int.toNat z)).lab.snd.snd.fst, (t2L l (Int.toNat z)).lab.snd.snd.snd.fst,
 (t2L l (Int.toNat z)).lab.snd.snd.snd.snd.fst, ()) (List.take (t2L l (Int.toNat z)).kids.length (List.drop (0 : Nat) (t2L l (Int.toNat z)).kids)) :: nilT
 LCd.rose.den))]))))) (some (Ex.exit 0, [V.ptr 0 0, V.ptr 1 0], [some (Blk.box [V.j 0, V.s (nilT UInt8), V.j 0, V.b false, V.j 0, V.ref 2 0 0]), some
 (Blk.box [V.j x0, V.s x1, V.j x2, V.b x3, V.j x4, V.ref 3 0 k]), some (Blk.row false none LCd.rose (nilT LCd.rose.den)), some (Blk.row false none LCd.rose
 ks)]))) : _) := by kernel_rfl
theorem l2Tree_tree (n : Nat) (l : List Ty) (k : Int) : funN Tryz.prog (Lqa2 n) (look [(4, l2TreeE n)]) Tryz.f83 [.agg [.sl TCd l], .j k] [] =
 ((ifT (decide ((0 : Int) ≤ k) && decide (k < (↑l.length : Int))) (ifSome l[k.toNat]? fun z => ifT (decide ((0 : Int) ≤ k ∧ k.toNat < l.length ∧ l.length ≤ (4000000000 :
 Nat))) (ifT (decide ((0 : Int) ≤ (0 : Int) ∧ (0 : Nat) ≤ (kidsAt l k.toNat).length ∧ (↑(kidsAt l k.toNat).length : Int) = (↑(kidsAt l k.toNat).length : Int) ∧ (kidsAt l
 k.toNat).length = (kidsAt l k.toNat).length ∧ (0 : Nat) = (0 : Nat) ∧ (0 : Nat) ≤ (0 : Nat) ∧ (kidsAt l k.toNat).length ≤ (4000000000 : Nat) ∧ l.length ≤ (4000000000 :
 Nat)) && (kidsAt l k.toNat).all fun i => decide ((0 : Int) ≤ i ∧ i.toNat < l.length ∧ l.length - i.toNat ≤ n)) (some (V.agg [V.j z.fst, V.s z.snd.fst, V.i .i64
 z.snd.snd.fst, V.b z.snd.snd.snd.fst, V.j z.snd.snd.snd.snd.snd.fst, V.ref 0 0 (nilT LCd.rose.den ++ List.map (fun i => t2L l (Int.toNat i)) (List.drop (0 : Nat)
 (kidsAt l k.toNat))).length], [some (Blk.row false none LCd.rose (nilT LCd.rose.den ++ List.map (fun i => t2L l (Int.toNat i)) (List.drop (0 : Nat) (kidsAt l
 k.toNat))))]))))) : _) := by kernel_rfl
theorem l2Tree_loop (n : Nat) (l : List Ty) (x0 : Int) (x1 : List UInt8) (x2 : Int) (x3 : Bool) (x4 : Int) (q : List Int) (hl : l.length ≤ 4000000000) (hq : q.length ≤ 4000000000) (hs : (q.all fun i : Int => decide (0 ≤ i ∧ i.toNat < l.length ∧ l.length - i.toNat ≤ n)) = true) : ∀ (j i : Nat) (ks : List (Rose Lab)), i + j = q.length → ks.length ≤ i →
  Runs Tryz.prog (Lqa2 n) (look [(4, l2TreeE n)]) 0 (body Tryz.f83 0) (l2TreeE n) ([.ptr 0 0, .ptr 1 0, .ptr 2 0, .ref 3 0 q.length, .j (q.length : Int), .j (i : Int)], [some (.box [.sl TCd l]), some (.box [.j 0, .s [], .j 0, .b false, .j 0, .ref 4 0 0]), some (.box [.j x0, .s x1, .j x2, .b x3, .j x4, .ref 5 0 ks.length]), some (.row false none (.int .i64) q), some (.row false none (.rose LCd) []), some (.row false none (.rose LCd) ks)]) (.exit 0) ([.ptr 0 0, .ptr 1 0], [some (.box [.j 0, .s [], .j 0, .b false, .j 0, .ref 2 0 0]), some (.box [.j x0, .s x1, .j x2, .b x3, .j x4, .ref 3 0 (ks ++ (q.drop i).map fun i => t2L l i.toNat).length]), some (.row false none (.rose LCd) []), some (.row false none (.rose LCd) (ks ++ (q.drop i).map fun i => t2L l i.toNat))])
 | 0, i, ks, hi, hk => by
  have hr := l2Tree_round n l x0 x1 x2 x3 x4 q.length q.length i ks.length q ks
  rw [ifB_false (dcF (by omega))] at hr
  rw [List.drop_eq_nil_of_le (by omega), List.map_nil, List.append_nil]
  exact .stop _ _ _ hr (by simp)
 | j + 1, i, ks, hi, hk => by
  have h1 : i < q.length := by omega
  have hM : maxI = 9223372036854775807 := rfl
  have hr := l2Tree_round n l x0 x1 x2 x3 x4 q.length q.length i ks.length q ks
  have hz := of_decide_eq_true (List.all_eq_true.1 hs _ (List.getElem_mem h1))
  rw [ifB_true (dcT (by omega)), ifT_true (by simp only [anE, dcE]; omega)] at hr
  simp only [ntN, Nat.zero_add, gtE h1, ifSome_s, wrap_succ (n := i) (by omega), List.drop_zero, List.take_length] at hr
  rw [ifT_true (dcT ⟨hz.1, hz.2.1, hl, hz.2.2⟩), ifT_true (by simp only [anE, dcE]; omega)] at hr
  have ht := rose_eta (t2L l q[i].toNat)
  rw [List.drop_zero, List.take_length] at ht
  rw [ht] at hr
  rw [List.drop_eq_getElem_cons h1, List.map_cons]
  have ih := l2Tree_loop n l x0 x1 x2 x3 x4 q hl hq hs j (i + 1) (ks ++ [t2L l q[i].toNat]) (by omega) (by simp; omega)
  rw [List.append_assoc] at ih
  exact .step _ _ _ _ (hr.trans (by simp)) ih
theorem l2Tree_ok (n : Nat) : LoopsOk Tryz.prog (Lqa2 n) (look [(4, l2TreeE n)]) 0 (Tryz.f83.body.getD .skip) := by
 refine loopsOk_one (a := body Tryz.f83 0) (by kernel_rfl) fun d ex d' h => ?_
 unfold l2TreeE at h
 dsimp only at h
 split at h
 ·rename_i p m i l x0 x1 x2 x3 x4 k q ks
  obtain ⟨hc, hx⟩ := need_some h
  clear h
  rw [anE] at hc
  obtain ⟨hc, hs⟩ := hc
  obtain ⟨h0, h1, rfl, rfl, rfl, h5, h6, h7⟩ := of_decide_eq_true hc
  obtain ⟨i, rfl⟩ := Int.eq_ofNat_of_zero_le h0
  simp only [ntN] at h1 h5 hx
  have h8 := leaf_some hx
  obtain ⟨rfl, rfl⟩ := Prod.mk.inj h8
  exact l2Tree_loop n l x0 x1 x2 x3 x4 q h7 h6 hs (q.length - i) i ks (by omega) h5
 ·cases h
theorem l2Tree_fun (n : Nat) (l : List Ty) (k : Int) (hc : 0 ≤ k ∧ k.toNat < l.length ∧ l.length ≤ 4000000000 ∧ l.length - k.toNat ≤ n + 1) : funN Tryz.prog (Lqa2 n) (look [(4, l2TreeE n)]) Tryz.f83 [.agg [.sl TCd l], .j k] [] = some (.agg [.j (t2L l k.toNat).lab.1, .s (t2L l k.toNat).lab.2.1, .j (t2L l k.toNat).lab.2.2.1, .b (t2L l k.toNat).lab.2.2.2.1, .j (t2L l k.toNat).lab.2.2.2.2.1, .ref 0 0 (t2L l k.toNat).kids.length], [some (.row false none (.rose LCd) (t2L l k.toNat).kids)]) := by
 rw [l2Tree_tree]
 obtain ⟨h0, h1, h2, h3⟩ := hc
 obtain ⟨k, rfl⟩ := Int.eq_ofNat_of_zero_le h0
 rw [ntN] at h1 h3
 have hkl := kidsL_len (k : Int) (l.drop (k + 1)) (k + 1)
 rw [List.length_drop] at hkl
 have hkl2 : (kidsAt l k).length ≤ l.length - (k + 1) := hkl
 rw [ifT_true (by simp only [anE, dcE]; omega)]
 simp only [ntN, gtE h1, ifSome_s]
 rw [ifT_true (dcT ⟨by omega, h1, h2⟩)]
 have hall : ((kidsAt l k).all fun i : Int => decide (0 ≤ i ∧ i.toNat < l.length ∧ l.length - i.toNat ≤ n)) = true := List.all_eq_true.2 fun x hx => by
  obtain ⟨j, rfl, h5, h6⟩ := kidsAt_mem hx
  exact dcT ⟨by omega, by simpa using h6, by simp; omega⟩
 rw [ifT_true (by rw [anE]; exact ⟨dcT ⟨by omega, by simp, by simp, by simp, by simp, by simp, by omega, h2⟩, hall⟩)]
 have hlab : labAt l k = (l[k].1, l[k].2.1, l[k].2.2.1, l[k].2.2.2.1, l[k].2.2.2.2.2.1, ()) := by unfold labAt; rw [gtE h1]
 rw [t2_eq h1, hlab]
 simp [Rose.lab, Rose.kids]
theorem l2Tree_con : ∀ n, (∀ m, m < n → Contract Tryz.prog 83 (Ent.rd1 (l2TreeN m)).F) → Contract Tryz.prog 83 (Ent.rd1 (l2TreeN n)).F
 | 0, _ => contract_no fun vs bs => by
  unfold Ent.F l2TreeN
  dsimp only
  split
  ·rename_i l a
   have : decide (0 ≤ a ∧ a.toNat < l.length ∧ l.length ≤ 4000000000 ∧ l.length - a.toNat ≤ 0) = false := dcF (by omega)
   rw [this]; rfl
  ·rfl
 | n + 1, ih => by
  refine fun_contractN' (KnowsL.cons (enters_fn Tryz.func123 (by kernel_rfl) (by kernel_rfl)) l2Kids (KnowsL.cons (enters_fn Tryz.func83 (by kernel_rfl) (by kernel_rfl)) (ih n (Nat.lt_succ_self n)) KnowsL.nil)).knows (Λ := (look [(4, l2TreeE n)])) Tryz.func83 (c := Tryz.f83.body.getD .skip) (by kernel_rfl) fun vs bs r hq hv hb => ?_
  unfold Ent.F l2TreeN at hq
  dsimp only at hq
  split at hq
  ·rename_i l a
   obtain ⟨hc, hx⟩ := need_some hq
   exact ⟨l2Tree_ok n, (l2Tree_fun n l a (of_decide_eq_true hc)).trans hx⟩
  ·cases hq
theorem l2Tree : Contract Tryz.prog 83 (Ent.rd1 l2TreeG).F := by
 refine contract_rec (F := fun n => (Ent.rd1 (l2TreeN n)).F) l2Tree_con fun vs bs r h => ?_
 unfold Ent.F l2TreeG at h
 dsimp only at h
 split at h
 ·rename_i l a
  obtain ⟨hc, hx⟩ := need_some h
  obtain ⟨h0, h1, h2⟩ := of_decide_eq_true hc
  refine ⟨l.length, ?_⟩
  unfold Ent.F l2TreeN
  dsimp only
  have : decide (0 ≤ a ∧ a.toNat < l.length ∧ l.length ≤ 4000000000 ∧ l.length - a.toNat ≤ l.length) = true := dcT ⟨h0, h1, h2, by omega⟩
  rw [this]
  exact hx
 ·cases h

def sdeepN (n : Nat) : List V → List Blk → Br (V × List (Option Blk))
 | [.agg [.i .i64 z0, .s z1, .i .i64 z2, .b z3, .i .i64 z4, .sl (.rose (.pair (.int .i64) (.pair .str (.pair (.int .i64) (.pair .bool (.pair (.int .i64) .unit)))))) zs]], [] => .need (decide (cntL zs + 1 ≤ n ∧ cntL zs + 1 ≤ 1000000)) (.leaf (.i .i64 ((deepL zs + (bif holdsK z0 then 1 else 0) : Nat) : Int), []))
 | _, _ => .no
def sdeepG : List V → List Blk → Br (V × List (Option Blk))
 | [.agg [.i .i64 z0, .s z1, .i .i64 z2, .b z3, .i .i64 z4, .sl (.rose (.pair (.int .i64) (.pair .str (.pair (.int .i64) (.pair .bool (.pair (.int .i64) .unit)))))) zs]], [] => .need (decide (cntL zs + 1 ≤ 1000000)) (.leaf (.i .i64 ((deepL zs + (bif holdsK z0 then 1 else 0) : Nat) : Int), []))
 | _, _ => .no
def sdeepE (n : Nat) : LoopEnt := ⟨27, [1,3,8,9,10], [1,3], [], fun
 | ([.ptr 0 0, .i .i64 m, .sl (.rose (.pair (.int .i64) (.pair .str (.pair (.int .i64) (.pair .bool (.pair (.int .i64) .unit)))))) ks, .i .i64 k, .i .i64 i], [some (.box [.i .i64 y0, .s y1, .i .i64 y2, .b y3, .i .i64 y4, .sl (.rose (.pair (.int .i64) (.pair .str (.pair (.int .i64) (.pair .bool (.pair (.int .i64) .unit)))))) ys])]) => .need (decide (0 ≤ m ∧ m ≤ 1000001 ∧ 0 ≤ i ∧ i.toNat ≤ ks.length ∧ k = ks.length ∧ cntL ks ≤ n ∧ cntL ks ≤ 1000000)) (.leaf (.exit 0, ([.ptr 0 0, .i .i64 ((max m.toNat (deepL (ks.drop i.toNat)) : Nat) : Int)], [some (.box [.i .i64 y0, .s y1, .i .i64 y2, .b y3, .i .i64 y4, .sl (.rose (.pair (.int .i64) (.pair .str (.pair (.int .i64) (.pair .bool (.pair (.int .i64) .unit)))))) ys])])))
 | _ => .no⟩
def arnd (l : List Ty) (u : Int) : Nat → Int → Bool
 | 0, _ => false
 | f + 1, x => if x < 0 then false else if x = u then true else match upAt l x.toNat with | some v => arnd l u f v | none => false
def upsOK (l : List Ty) (i : Nat) : Bool := (List.range i).all fun j => match upAt l j with | some v => decide (v < (j : Int)) | none => false
def aroundB (l : List Ty) (i : Nat) : Bool := match upAt l i with | some u => arnd l u (i + 1) ((i : Int) - 1) | none => false
def l2AroundG : List V → List Blk → Br (V × List (Option Blk))
 | [.sl (.pair (.int .i64) (.pair .str (.pair (.int .i64) (.pair .bool (.pair (.int .i64) (.pair (.int .i64) .unit)))))) l, .i .i64 i], [] => .need (decide (0 ≤ i ∧ i.toNat < l.length ∧ l.length ≤ 4000000000) && upsOK l i.toNat) (.leaf (.b (aroundB l i.toNat), []))
 | _, _ => .no
def l2AroundE : LoopEnt := ⟨22, [0,1,5], [], [4], fun
 | ([.sl (.pair (.int .i64) (.pair .str (.pair (.int .i64) (.pair .bool (.pair (.int .i64) (.pair (.int .i64) .unit)))))) l, .i .i64 i, .i .i64 x], []) => .need (decide (0 ≤ i ∧ i.toNat < l.length ∧ l.length ≤ 4000000000 ∧ x < i) && upsOK l i.toNat) (.opt (.int .i64) (upAt l i.toNat) fun u => .br (arnd l u (x + 1).toNat x) (.leaf (.ret, ([.b true], []))) (.leaf (.exit 0, ([], []))))
 | _ => .no⟩

theorem rose_deep (z : Rose Lab) : deepL z.kids + (bif holdsK z.lab.1 then 1 else 0) = deepR z := by cases z; rw [deepR]; rfl
abbrev Lqa3 (n : Nat) : FuncId → Option Ent := look [(124, .rd1 (sdeepN n)), (162, .rd1 l2HoldsG)]
theorem sdeep_round (n : Nat) (y0 : Int) (y1 : List UInt8) (y2 : Int) (y3 : Bool) (y4 : Int) (ys : List (Rose Lab)) (m : Int) (ks : List (Rose Lab)) (k i : Int) : roundK Tryz.prog (Lqa3 n) (look [(3, sdeepE n)]) 0 (body Tryz.f124 0) (sdeepE n) ([.ptr 0 0, .j m, .sl (.rose LCd) ks, .j k, .j i], [some (.box [.j y0, .s y1, .j y2, .b y3, .j y4, .sl (.rose LCd) ys])]) =
 ((ifB (decide (i < k)) (ifT (decide ((0 : Int) ≤ i) && decide (i < (↑ks.length : Int))) (ifSome ks[i.toNat]? fun z => ifT (decide (cntL (Rose.kids z) + (1 : Nat) ≤ n ∧ cntL
 (Rose.kids z) + (1 : Nat) ≤ (1000000 : Nat))) (ifB (decide ((↑(deepL (Rose.kids z) + bif holdsK (Rose.lab z).fst then (1 : Nat) else (0 : Nat)) : Int) > m)) (some
 (Ex.normal, [V.ptr 0 0, V.j (↑(deepL (Rose.kids z) + bif holdsK (Rose.lab z).fst then (1 : Nat) else (0 : Nat)) : Int), V.sl LCd.rose ks, V.j k, V.i .i64
 (IntKind.i64.wrap (i + (1 : Int)))], [some (Blk.box [V.j y0, V.s y1, V.j y2, V.b y3, V.j y4, V.sl LCd.rose ys])])) (some (Ex.normal, [V.ptr 0 0, V.i .i64
 m, V.sl LCd.rose ks, V.j k, V.j (IntKind.i64.wrap (i + (1 : Int)))], [some (Blk.box [V.j y0, V.s y1, V.j y2, V.b y3, V.j y4, V.sl LCd.rose
 ys])]))))) (some (Ex.exit 0, [V.ptr 0 0, V.j m], [some (Blk.box [V.j y0, V.s y1, V.j y2, V.b y3, V.j y4, V.sl LCd.rose ys])]))) : _) := by kernel_rfl
theorem sdeep_tree (n : Nat) (z0 : Int) (z1 : List UInt8) (z2 : Int) (z3 : Bool) (z4 : Int) (zs : List (Rose Lab)) : funK Tryz.prog (Lqa3 n) (look [(3, sdeepE n)]) Tryz.f124 [.agg [.j z0, .s z1, .j z2, .b z3, .j z4, .sl (.rose LCd) zs]] [] =
 ((ifT (decide ((0 : Int) ≤ (0 : Int) ∧ (0 : Int) ≤ (1000001 : Int) ∧ (0 : Int) ≤ (0 : Int) ∧ (0 : Nat) ≤ zs.length ∧ (↑zs.length : Int) = (↑zs.length : Int) ∧ cntL zs ≤ n ∧
 cntL zs ≤ (1000000 : Nat))) (ifB (holdsK z0) (some (V.j (IntKind.i64.wrap ((↑(max (0 : Nat) (deepL (List.drop (0 : Nat) zs))) : Int) + (1 : Int))), [])) (some (V.i
 .i64 (↑(max (0 : Nat) (deepL (List.drop (0 : Nat) zs))) : Int), [])))) : _) := by kernel_rfl
theorem sdeep_loop (n : Nat) (y0 : Int) (y1 : List UInt8) (y2 : Int) (y3 : Bool) (y4 : Int) (ys : List (Rose Lab)) (ks : List (Rose Lab)) (h1 : cntL ks ≤ n) (h2 : cntL ks ≤ 1000000) : ∀ (j i m : Nat), i + j = ks.length → m ≤ 1000001 →
  Runs Tryz.prog (Lqa3 n) (look [(3, sdeepE n)]) 0 (body Tryz.f124 0) (sdeepE n) ([.ptr 0 0, .j (m : Int), .sl (.rose LCd) ks, .j (ks.length : Int), .j (i : Int)], [some (.box [.j y0, .s y1, .j y2, .b y3, .j y4, .sl (.rose LCd) ys])]) (.exit 0) ([.ptr 0 0, .j ((max m (deepL (ks.drop i)) : Nat) : Int)], [some (.box [.j y0, .s y1, .j y2, .b y3, .j y4, .sl (.rose LCd) ys])])
 | 0, i, m, hi, hm => by
  have hr := sdeep_round n y0 y1 y2 y3 y4 ys m ks ks.length i
  rw [ifB_false (dcF (by omega))] at hr
  have e1 : ks.drop i = [] := List.drop_eq_nil_of_le (by omega)
  rw [e1, deepL]
  exact .stop _ _ _ (hr.trans (by simp)) (by simp)
 | j + 1, i, m, hi, hm => by
  have hl : i < ks.length := by omega
  have hM : maxI = 9223372036854775807 := rfl
  have hr := sdeep_round n y0 y1 y2 y3 y4 ys m ks ks.length i
  have hmem := cnt_mem (List.getElem_mem hl)
  have hlen := cnt_len ks
  have hdm := deep_cnt ks[i]
  have hck := cnt_kids ks[i]
  rw [ifB_true (dcT (by omega)), ifT_true (by simp only [anE, dcE]; omega)] at hr
  simp only [ntN, gtE hl, ifSome_s, wrap_succ (n := i) (by omega)] at hr
  rw [ifT_true (dcT ⟨by omega, by omega⟩)] at hr
  simp only [rose_deep] at hr
  rw [List.drop_eq_getElem_cons hl, deepL]
  have ih := sdeep_loop n y0 y1 y2 y3 y4 ys ks h1 h2 j (i + 1) (max m (deepR ks[i])) (by omega) (by omega)
  rw [← Nat.max_assoc]
  by_cases hx : (deepR ks[i] : Int) > (m : Int)
  ·rw [ifB_true (dcT hx)] at hr
   have hmx : max m (deepR ks[i]) = deepR ks[i] := by omega
   exact .step _ _ _ _ (hr.trans (by rw [hmx])) ih
  ·rw [ifB_false (dcF hx)] at hr
   have hmx : max m (deepR ks[i]) = m := by omega
   exact .step _ _ _ _ (hr.trans (by rw [hmx])) ih
theorem sdeep_ok (n : Nat) : LoopsOk Tryz.prog (Lqa3 n) (look [(3, sdeepE n)]) 0 (Tryz.f124.body.getD .skip) := by
 refine loopsOk_one (a := body Tryz.f124 0) (by kernel_rfl) fun d ex d' h => ?_
 unfold sdeepE at h
 dsimp only at h
 split at h
 ·rename_i m ks k i y0 y1 y2 y3 y4 ys
  obtain ⟨hc, hx⟩ := need_some h
  clear h
  obtain ⟨h0, h1, h2, h3, rfl, h5, h6⟩ := of_decide_eq_true hc
  obtain ⟨m, rfl⟩ := Int.eq_ofNat_of_zero_le h0
  obtain ⟨i, rfl⟩ := Int.eq_ofNat_of_zero_le h2
  simp only [ntN] at h3 hx
  have h8 := leaf_some hx
  obtain ⟨rfl, rfl⟩ := Prod.mk.inj h8
  exact sdeep_loop n y0 y1 y2 y3 y4 ys ks h5 h6 (ks.length - i) i m (by omega) (by omega)
 ·cases h
theorem sdeep_fun (n : Nat) (z0 : Int) (z1 : List UInt8) (z2 : Int) (z3 : Bool) (z4 : Int) (zs : List (Rose Lab)) (hc : cntL zs + 1 ≤ n + 1 ∧ cntL zs + 1 ≤ 1000000) : funK Tryz.prog (Lqa3 n) (look [(3, sdeepE n)]) Tryz.f124 [.agg [.j z0, .s z1, .j z2, .b z3, .j z4, .sl (.rose LCd) zs]] [] = some (.j ((deepL zs + (bif holdsK z0 then 1 else 0) : Nat) : Int), []) := by
 rw [sdeep_tree]
 obtain ⟨h1, h2⟩ := hc
 have hdp := deepL_cnt zs
 rw [ifT_true (dcT (by refine ⟨by omega, by omega, by omega, by simp, by trivial, by omega, by omega⟩))]
 simp only [Int.toNat_zero, List.drop_zero, Nat.zero_max]
 cases hx : holdsK z0 with
 | true => rw [ifB_t, wrap_id (by omega) (by omega)]; simp
 | false => rw [ifB_f]; simp
theorem sdeep_con : ∀ n, (∀ m, m < n → Contract Tryz.prog 124 (Ent.rd1 (sdeepN m)).F) → Contract Tryz.prog 124 (Ent.rd1 (sdeepN n)).F
 | 0, _ => contract_no fun vs bs => by
  unfold Ent.F sdeepN
  dsimp only
  split
  ·rename_i z0 z1 z2 z3 z4 zs
   rw [dcF (show ¬ (cntL zs + 1 ≤ 0 ∧ cntL zs + 1 ≤ 1000000) by omega)]; rfl
  ·rfl
 | n + 1, ih => by
  refine fun_contract' (KnowsL.cons (enters_fn Tryz.func124 (by kernel_rfl) (by kernel_rfl)) (ih n (Nat.lt_succ_self n)) (KnowsL.cons (enters_fn Tryz.func162 (by kernel_rfl) (by kernel_rfl)) l2Holds KnowsL.nil)).knows (Λ := (look [(3, sdeepE n)])) Tryz.func124 (c := Tryz.f124.body.getD .skip) (by kernel_rfl) fun vs bs r hq hv hb => ?_
  unfold Ent.F sdeepN at hq
  dsimp only at hq
  split at hq
  ·rename_i z0 z1 z2 z3 z4 zs
   obtain ⟨hc, hx⟩ := need_some hq
   exact ⟨sdeep_ok n, (sdeep_fun n z0 z1 z2 z3 z4 zs (of_decide_eq_true hc)).trans hx⟩
  ·cases hq
theorem sdeep : Contract Tryz.prog 124 (Ent.rd1 sdeepG).F := by
 refine contract_rec (F := fun n => (Ent.rd1 (sdeepN n)).F) sdeep_con fun vs bs r h => ?_
 unfold Ent.F sdeepG at h
 dsimp only at h
 split at h
 ·rename_i z0 z1 z2 z3 z4 zs
  obtain ⟨hc, hx⟩ := need_some h
  have hc := of_decide_eq_true hc
  refine ⟨1000000, ?_⟩
  show (Br.need (decide (cntL zs + 1 ≤ 1000000 ∧ cntL zs + 1 ≤ 1000000)) (.leaf (.j ((deepL zs + (bif holdsK z0 then 1 else 0) : Nat) : Int), []))).run = some r
  rw [dcT (show cntL zs + 1 ≤ 1000000 ∧ cntL zs + 1 ≤ 1000000 from ⟨hc, hc⟩)]
  exact hx
 ·cases h
theorem l2Around_round (l : List Ty) (i x : Int) : roundK Tryz.prog (look []) (look [(2, l2AroundE)]) 0 (body Tryz.f163 0) l2AroundE ([.sl TCd l, .j i, .j x], []) =
 ((ifB (decide (x ≥ (0 : Int))) (ifT (decide ((0 : Int) ≤ i) && decide (i < (↑l.length : Int))) (ifSome l[i.toNat]? fun z => ifB (x == z.snd.snd.snd.snd.fst) (some (Ex.ret,
 [V.b true], [])) (ifT (decide ((0 : Int) ≤ x) && decide (x < (↑l.length : Int))) (ifSome l[x.toNat]? fun z => some (Ex.normal, [V.sl TCd l, V.j i, V.i .i64
 z.snd.snd.snd.snd.fst], []))))) (some (Ex.exit 0, [], []))) : _) := by kernel_rfl
theorem ups_at {l : List Ty} {i j : Nat} (h : upsOK l i = true) (hj : j < i) : ∃ v, upAt l j = some v ∧ v < (j : Int) := by
 have := List.all_eq_true.1 h j (List.mem_range.2 hj)
 cases hu : upAt l j with
 | none => rw [hu] at this; cases this
 | some v => rw [hu] at this; exact ⟨v, rfl, of_decide_eq_true this⟩
theorem arnd_fuel {l : List Ty} {i : Nat} (h : upsOK l i = true) (u : Int) : ∀ (f f' : Nat) (x : Int), x < (i : Int) → (x + 1).toNat ≤ f → (x + 1).toNat ≤ f' → arnd l u f x = arnd l u f' x
 | 0, 0, x, _, _, _ => rfl
 | 0, f' + 1, x, hx, h1, h2 => by rw [arnd, arnd, if_pos (by omega)]
 | f + 1, 0, x, hx, h1, h2 => by rw [arnd, arnd, if_pos (by omega)]
 | f + 1, f' + 1, x, hx, h1, h2 => by
  rw [arnd, arnd]
  by_cases a : x < 0
  ·rw [if_pos a, if_pos a]
  ·rw [if_neg a, if_neg a]
   by_cases b : x = u
   ·rw [if_pos b, if_pos b]
   ·rw [if_neg b, if_neg b]
    obtain ⟨v, hv, hv2⟩ := ups_at h (j := x.toNat) (by omega)
    rw [hv]
    exact arnd_fuel h u f f' v (by omega) (by omega) (by omega)
theorem l2Around_loop (l : List Ty) (i : Nat) (u : Int) (hi : i < l.length) (hl : l.length ≤ 4000000000) (hu : upAt l i = some u) (hs : upsOK l i = true) : ∀ (j : Nat) (x : Int), (x + 1).toNat = j → x < (i : Int) → ∀ ex d, (Br.br (arnd l u (x + 1).toNat x) (.leaf (.ret, ([.b true], []))) (.leaf (.exit 0, ([], []))) : Br (Ex × Dt)).run = some (ex, d) →
  Runs Tryz.prog (look []) (look [(2, l2AroundE)]) 0 (body Tryz.f163 0) l2AroundE ([.sl TCd l, .j (i : Int), .j x], []) ex d := by
 intro j
 induction j using Nat.strongRecOn with
 | ind j ih =>
  intro x hj hx ex d h
  have hr := l2Around_round l i x
  have h0 : l[i].2.2.2.2.1 = u := by unfold upAt at hu; rw [gtE hi] at hu; exact Option.some.inj hu
  by_cases a : x < 0
  ·rw [ifB_false (dcF (by omega))] at hr
   have e0 : (x + 1).toNat = 0 := by omega
   rw [e0, arnd] at h
   have h8 := leaf_some h
   obtain ⟨rfl, rfl⟩ := Prod.mk.inj h8
   exact .stop _ _ _ hr (by simp)
  ·rw [ifB_true (dcT (by omega)), ifT_true (by simp only [anE, dcE]; omega)] at hr
   simp only [ntN, gtE hi, ifSome_s, h0] at hr
   obtain ⟨x, rfl⟩ := Int.eq_ofNat_of_zero_le (by omega : 0 ≤ x)
   have e0 : ((x : Int) + 1).toNat = x + 1 := by omega
   rw [e0, arnd, if_neg (by omega)] at h
   by_cases b : (x : Int) = u
   ·rw [if_pos b] at h
    rw [ifB_true (by rw [b]; exact beq_self_eq_true _)] at hr
    have h8 := leaf_some h
    obtain ⟨rfl, rfl⟩ := Prod.mk.inj h8
    exact .stop _ _ _ hr (by simp)
   ·rw [if_neg b] at h
    have hxl : x < l.length := by omega
    rw [ifB_false (beq_false_of_ne b), ifT_true (by simp only [anE, dcE]; omega)] at hr
    simp only [ntN, gtE hxl, ifSome_s] at hr
    obtain ⟨v, hv, hv2⟩ := ups_at hs (j := x) (by omega)
    have hv3 : l[x].2.2.2.2.1 = v := by unfold upAt at hv; rw [gtE hxl] at hv; exact Option.some.inj hv
    rw [ntN, hv] at h
    dsimp only at h
    rw [arnd_fuel hs u x (v + 1).toNat v (by omega) (by omega) (Nat.le_refl _)] at h
    rw [hv3] at hr
    exact .step _ _ _ _ hr (ih (v + 1).toNat (by omega) v rfl (by omega) ex d h)
theorem l2Around_ok : LoopsOk Tryz.prog (look []) (look [(2, l2AroundE)]) 0 (Tryz.f163.body.getD .skip) := by
 refine loopsOk_one (a := body Tryz.f163 0) (by kernel_rfl) fun d ex d' h => ?_
 unfold l2AroundE at h
 dsimp only at h
 split at h
 ·rename_i l i x
  obtain ⟨hc, hx⟩ := need_some h
  clear h
  rw [anE] at hc
  obtain ⟨hc, hs⟩ := hc
  obtain ⟨h0, h1, h2, h3⟩ := of_decide_eq_true hc
  obtain ⟨i, rfl⟩ := Int.eq_ofNat_of_zero_le h0
  simp only [ntN] at h1 hs hx
  cases hu : upAt l i with
  | some u => rw [hu] at hx; exact l2Around_loop l i u h1 h2 hu hs _ x rfl h3 ex d' hx
  | none => rw [hu] at hx; cases hx
 ·cases h
theorem l2Around_fun (l : List Ty) (i : Int) (hc : 0 ≤ i ∧ i.toNat < l.length ∧ l.length ≤ 4000000000) (hs : upsOK l i.toNat = true) : funK Tryz.prog (look []) (look [(2, l2AroundE)]) Tryz.f163 [.sl TCd l, .j i] [] = some (.b (aroundB l i.toNat), []) := by
 have e : funK Tryz.prog (look []) (look [(2, l2AroundE)]) Tryz.f163 [.sl TCd l, .j i] [] = ((ifT (decide ((0 : Int) ≤ i ∧ i.toNat < l.length ∧ l.length ≤ (4000000000 : Nat) ∧ IntKind.i64.wrap (i - (1 : Int)) < i) && upsOK l i.toNat) (ifSome (upAt l i.toNat) fun z
 => ifB (arnd l z (IntKind.i64.wrap (i - (1 : Int)) + (1 : Int)).toNat (IntKind.i64.wrap (i - (1 : Int)))) (some (V.b true, [])) (some (V.b false, [])))) : _) := by kernel_rfl
 obtain ⟨h0, h1, h2⟩ := hc
 obtain ⟨i, rfl⟩ := Int.eq_ofNat_of_zero_le h0
 simp only [ntN] at h1 hs
 have hw : IntKind.i64.wrap ((i : Int) - 1) = (i : Int) - 1 := wrap_id (by omega) (by omega)
 obtain ⟨u, hu⟩ : ∃ u, upAt l i = some u := ⟨_, by unfold upAt; rw [gtE h1]; rfl⟩
 rw [e]
 clear e
 rw [hw]
 simp only [ntN]
 rw [ifT_true (by rw [anE]; exact ⟨dcT ⟨by omega, h1, h2, by omega⟩, hs⟩)]
 unfold aroundB
 rw [hu, ifSome_s]
 have e2 : arnd l u (i + 1) ((i : Int) - 1) = arnd l u ((i : Int) - 1 + 1).toNat ((i : Int) - 1) := arnd_fuel hs u _ _ _ (by omega) (by omega) (Nat.le_refl _)
 dsimp only
 rw [e2]
 cases arnd l u ((i : Int) - 1 + 1).toNat ((i : Int) - 1) <;> rfl
theorem l2Around : Contract Tryz.prog 163 (Ent.rd1 l2AroundG).F := by
 refine fun_contract' KnowsL.nil.knows (Λ := (look [(2, l2AroundE)])) Tryz.func163 (c := Tryz.f163.body.getD .skip) (by kernel_rfl) fun vs bs r hq hv hb => ?_
 unfold Ent.F l2AroundG at hq
 dsimp only at hq
 split at hq
 ·rename_i l i
  obtain ⟨hc, hx⟩ := need_some hq
  rw [anE] at hc
  exact ⟨l2Around_ok, (l2Around_fun l i (of_decide_eq_true hc.1) hc.2).trans hx⟩
 ·cases hq

def sibs (u no : Int) (nm : List UInt8) (l : List Ty) : Bool := l.all fun o => !(o.2.2.2.2.1 == u && (decide (o.2.2.1 ≥ no) || o.2.1 == nm))
def partSB (l : List Ty) (i : Nat) : Bool := match upAt l i with
 | none => false
 | some u => decide (0 ≤ u ∧ u < (i : Int)) && holdsK (labAt l u.toNat).1 && aroundB l i && (if (labAt l u.toNat).1 = 4 then (labAt l i).2.1 == [] && (labAt l i).2.2.1 == 0 && !(labAt l i).2.2.2.1
  else nameB (labAt l i).2.1 && (decide (1 ≤ (labAt l i).2.2.1) && decide ((labAt l i).2.2.1 ≤ 30)) && sibs u (labAt l i).2.2.1 (labAt l i).2.1 ((l.take i).drop (u.toNat + 1)))
def kmB (x : Lab) : Bool := decide (1 ≤ x.1 ∧ x.1 ≤ 5) && (if x.1 = 3 then decide (0 ≤ x.2.2.2.2.1 ∧ x.2.2.2.2.1 ≤ 20) else x.2.2.2.2.1 == 0)
def okT (l : List Ty) (i : Nat) : Bool := kmB (labAt l i) && (if i = 0 then (labAt l 0).1 == 5 && decide (upAt l 0 = some (-1)) && (labAt l 0).2.1 == [] && (labAt l 0).2.2.1 == 0 && !(labAt l 0).2.2.2.1 else partSB l i)
def oneKid (l : List Ty) (i : Nat) : Bool := !((labAt l i).1 == 4 && (kidsAt l i).length != 1)
def gschS (l : List Ty) : Bool := decide (1 ≤ l.length ∧ l.length ≤ 30) && (List.range l.length).all (okT l) && (List.range l.length).all (oneKid l) && decide (deepR (t2L l 0) ≤ 5)
inductive Out (l : List Ty) : Nat → Nat → Prop
 | refl (x : Nat) : Out l x x
 | step (x v y : Nat) (h : upAt l x = some (v : Int)) (h2 : Out l v y) : Out l x y
structure Ord (l : List Ty) : Prop where
 zero : upAt l 0 = some (-1)
 up : ∀ i, 0 < i → i < l.length → ∃ u : Nat, upAt l i = some (u : Int) ∧ u < i ∧ holdsK (labAt l u).1 = true ∧ Out l (i - 1) u
def KK (l : List Ty) (a s t : Nat) : List Nat := (List.range' s (t - s)).filter fun j => decide (upAt l j = some (a : Int))

theorem Out.trans {l : List Ty} {x y z : Nat} (h : Out l x y) (h2 : Out l y z) : Out l x z := by
 induction h with
 | refl => exact h2
 | step x v y h _ ih => exact .step x v z h (ih h2)
theorem arnd_out (l : List Ty) (u : Int) : ∀ (f : Nat) (x : Nat), arnd l u f (x : Int) = true → ∃ y : Nat, u = (y : Int) ∧ Out l x y
 | 0, x, h => by rw [arnd] at h; cases h
 | f + 1, x, h => by
  rw [arnd, if_neg (by omega)] at h
  split at h
  ·rename_i e; exact ⟨x, e.symm, .refl x⟩
  ·rw [ntN] at h
   cases hu : upAt l x with
   | none => rw [hu] at h; cases h
   | some v =>
    rw [hu] at h
    dsimp only at h
    by_cases hv : v < 0
    ·cases f with
     | zero => rw [arnd] at h; cases h
     | succ f => rw [arnd, if_pos hv] at h; cases h
    ·obtain ⟨v, rfl⟩ := Int.eq_ofNat_of_zero_le (by omega : 0 ≤ v)
     obtain ⟨y, h1, h2⟩ := arnd_out l u f v h
     exact ⟨y, h1, .step x v y hu h2⟩
theorem out_le {l : List Ty} {i x y : Nat} (hs : ∀ j, j < i → ∀ v : Nat, upAt l j = some (v : Int) → v < j) (h : Out l x y) : x < i → y ≤ x := by
 induction h with
 | refl => intro _; exact Nat.le_refl _
 | step x v y h _ ih => intro hx; have := hs x hx v h; have := ih (by omega); omega
theorem out_arnd {l : List Ty} {i x y : Nat} (hs : ∀ j, j < i → ∀ v : Nat, upAt l j = some (v : Int) → v < j) (h : Out l x y) : x < i → ∀ f, x + 1 ≤ f → arnd l (y : Int) f (x : Int) = true := by
 induction h with
 | refl x =>
  intro hx f hf
  obtain ⟨f, rfl⟩ : ∃ g, f = g + 1 := ⟨f - 1, by omega⟩
  rw [arnd, if_neg (by omega), if_pos rfl]
 | step x v y h _ ih =>
  intro hx f hf
  obtain ⟨f, rfl⟩ : ∃ g, f = g + 1 := ⟨f - 1, by omega⟩
  rw [arnd, if_neg (by omega)]
  split
  ·rfl
  ·rw [ntN, h]
   have := hs x hx v h
   exact ih (by omega) f (by omega)
theorem Ord.lt {l : List Ty} (H : Ord l) : ∀ j, j < l.length → ∀ v : Nat, upAt l j = some (v : Int) → v < j := fun j hj v hv => by
 rcases Nat.eq_zero_or_pos j with rfl | hp
 ·rw [H.zero] at hv; injection hv with hv; omega
 ·obtain ⟨u, h1, h2, _⟩ := H.up j hp hj
  rw [h1] at hv; injection hv with hv; omega
theorem out_in {l : List Ty} {c e x y : Nat} (hs : ∀ j, j < e → ∀ v : Nat, upAt l j = some (v : Int) → v < j) (hb : ∀ j, c < j → j < e → ∃ u : Nat, upAt l j = some (u : Int) ∧ c ≤ u) (h : Out l x y) : c ≤ x → x < e → c ≤ y ∨ ∃ v : Nat, upAt l c = some (v : Int) ∧ Out l v y := by
 induction h with
 | refl x => intro h1 _; exact .inl h1
 | step x v y h h2 ih =>
  intro h1 h3
  by_cases e1 : x = c
  ·subst e1; exact .inr ⟨v, h, h2⟩
  ·obtain ⟨u, g1, g2⟩ := hb x (by omega) h3
   rw [h] at g1; injection g1 with g1
   have := hs x h3 v h
   exact ih (by omega) (by omega)
theorem out_ex {l : List Ty} {a e i x y : Nat} (hs : ∀ j, j < i → ∀ v : Nat, upAt l j = some (v : Int) → v < j) (ha : a ≤ i) (hn : ∀ j, e ≤ j → j < i → ∀ u : Nat, upAt l j = some (u : Int) → u < a ∨ e ≤ u) (h : Out l x y) : e ≤ x → x < i → y < a ∨ e ≤ y := by
 induction h with
 | refl x => intro h1 _; exact .inr h1
 | step x v y h h2 ih =>
  intro h1 h3
  have := hs x h3 v h
  rcases hn x h1 h3 v h with h4 | h4
  ·have := out_le hs h2 (by omega)
   exact .inl (by omega)
  ·exact ih h4 (by omega)
theorem KK_app {l : List Ty} {a s t u : Nat} (h1 : s ≤ t) (h2 : t ≤ u) : KK l a s t ++ KK l a t u = KK l a s u := by
 unfold KK
 rw [← List.filter_append]
 congr 1
 have e : t = s + (t - s) := by omega
 conv => lhs; rhs; rw [e]
 rw [show s + (t - s) = s + 1 * (t - s) by omega, List.range'_append]
 congr 1; omega
theorem KK_nil {l : List Ty} {a s t : Nat} (h : ∀ j, s ≤ j → j < t → upAt l j ≠ some (a : Int)) : KK l a s t = [] := by
 unfold KK
 rw [List.filter_eq_nil_iff]
 intro j hj
 have := List.mem_range'_1.1 hj
 simpa using h j (by omega) (by omega)
theorem KK_one {l : List Ty} {a e t : Nat} (h0 : e < t) (h : upAt l e = some (a : Int)) (h2 : ∀ j, e < j → j < t → upAt l j ≠ some (a : Int)) : KK l a e t = [e] := by
 have e1 : KK l a e (e + 1) = [e] := by
  unfold KK
  rw [show e + 1 - e = 1 by omega, List.range'_one]
  simp [h]
 rw [← KK_app (Nat.le_succ e) h0, e1, KK_nil (fun j hj hj2 => h2 j (by omega) hj2)]
 rfl
theorem kids_KK (l : List Ty) (a : Nat) : ∀ (n i : Nat), l.length - i = n → kidsL (a : Int) i (l.drop i) = (KK l a i l.length).map Int.ofNat
 | 0, i, h => by
  rw [List.drop_eq_nil_of_le (by omega), kidsL, KK_nil (fun j h1 h2 => by omega)]; rfl
 | n + 1, i, h => by
  have hl : i < l.length := by omega
  rw [List.drop_eq_getElem_cons hl, kidsL, kids_KK l a n (i + 1) (by omega), ← KK_app (Nat.le_succ i) hl (l := l) (a := a)]
  have hu : upAt l i = some (l[i].2.2.2.2.1) := by unfold upAt; rw [gtE hl]; rfl
  by_cases hk : l[i].2.2.2.2.1 = (a : Int)
  ·rw [if_pos hk, KK_one (Nat.lt_succ_self i) (by rw [hu, hk]) (fun j h1 h2 => by omega)]; rfl
  ·rw [if_neg hk, KK_nil (s := i) (fun j h1 h2 => by
    have : j = i := by omega
    subst this; rw [hu]; exact fun h => hk (Option.some.inj h))]; rfl
theorem kidsAt_KK (l : List Ty) (a : Nat) : kidsAt l a = (KK l a (a + 1) l.length).map Int.ofNat := kids_KK l a _ (a + 1) rfl
theorem t2_KK {l : List Ty} {a : Nat} (h : a < l.length) : t2L l a = .node (labAt l a) ((KK l a (a + 1) l.length).map (t2L l)) := by
 rw [t2_eq h, kidsAt_KK, List.map_map]
 rfl
structure Blk2 (l : List Ty) (a : Nat) : Prop where
 inn : ∀ j, a < j → j < (kf l a).2 → ∃ u : Nat, upAt l j = some (u : Int) ∧ a ≤ u
 out : (kf l a).2 < l.length → ∀ u : Nat, upAt l (kf l a).2 = some (u : Int) → u < a
 tree : (kf l a).1 = t2L l a
theorem loop_blk {l : List Ty} (H : Ord l) {a : Nat} (ha : a < l.length) (IH : ∀ b, a < b → b < l.length → Blk2 l b) : ∀ (n e : Nat) (ks : List (Rose Lab)), l.length - e ≤ n → a < e → e ≤ l.length →
  (∀ j, a < j → j < e → ∃ u : Nat, upAt l j = some (u : Int) ∧ a ≤ u) → (e < l.length → ∀ u : Nat, upAt l e = some (u : Int) → u ≤ a) → ks = (KK l a (a + 1) e).map (t2L l) →
  (∀ j, a < j → j < (kloop (kf l) l a n e ks).2 → ∃ u : Nat, upAt l j = some (u : Int) ∧ a ≤ u) ∧ ((kloop (kf l) l a n e ks).2 < l.length → ∀ u : Nat, upAt l (kloop (kf l) l a n e ks).2 = some (u : Int) → u < a) ∧ (kloop (kf l) l a n e ks).1 = (KK l a (a + 1) (kloop (kf l) l a n e ks).2).map (t2L l) ∧ a < (kloop (kf l) l a n e ks).2
 | 0, e, ks, h1, h2, h3, h4, h5, h6 => ⟨h4, fun h => by simp only [kloop] at h; omega, h6, h2⟩
 | n + 1, e, ks, h1, h2, h3, h4, h5, h6 => by
  unfold kloop
  split
  ·rename_i hu
   have hl := up_lt hu
   obtain ⟨b1, b2⟩ := kf_bnd l e hl
   have B := IH e h2 hl
   have inn' : ∀ j, a < j → j < (kf l e).2 → ∃ u : Nat, upAt l j = some (u : Int) ∧ a ≤ u := fun j g1 g2 => by
    rcases Nat.lt_trichotomy j e with g3 | g3 | g3
    ·exact h4 j g1 g3
    ·subst g3; exact ⟨a, hu, Nat.le_refl _⟩
    ·obtain ⟨u, k1, k2⟩ := B.inn j g3 g2; exact ⟨u, k1, by omega⟩
   refine loop_blk H ha IH n (kf l e).2 _ (by omega) (by omega) b2 inn' (fun g1 u g2 => ?_) ?_
   ·have g3 := B.out g1 u g2
    obtain ⟨u', k1, k2, k3, k4⟩ := H.up (kf l e).2 (by omega) g1
    rw [g2] at k1; injection k1 with k1
    have : u = u' := by omega
    subst this
    rcases out_in (fun j hj => H.lt j (by omega)) B.inn k4 (by omega) (by omega) with k5 | ⟨v, k5, k6⟩
    ·omega
    ·rw [hu] at k5; injection k5 with k5
     have : a = v := by omega
     subst this
     exact out_le H.lt k6 ha
   ·rw [h6, B.tree, ← KK_app (l := l) (a := a) (show a + 1 ≤ e by omega) (Nat.le_of_lt b1), List.map_append, KK_one b1 hu (fun j g1 g2 g3 => by
     obtain ⟨u, k1, k2⟩ := B.inn j g1 g2
     rw [g3] at k1; injection k1 with k1; omega)]
    rfl
  ·rename_i hu
   refine ⟨h4, fun g1 u g2 => ?_, h6, h2⟩
   have := h5 g1 u g2
   have : u ≠ a := fun e => by subst e; exact hu g2
   omega
theorem blk_all {l : List Ty} (H : Ord l) : ∀ (n a : Nat), l.length - a ≤ n → a < l.length → Blk2 l a
 | 0, a, h1, h2 => by omega
 | n + 1, a, h1, h2 => by
  have IH : ∀ b, a < b → b < l.length → Blk2 l b := fun b g1 g2 => blk_all H n b (by omega) g2
  have hq : a + 1 < l.length → ∀ u : Nat, upAt l (a + 1) = some (u : Int) → u ≤ a := fun g1 u g2 => by
   have := H.lt (a + 1) g1 u g2; omega
  have hk := kf_eq h2
  cases hh : holdsK (labAt l a).1 with
  | true =>
   rw [hh, cond_true] at hk
   obtain ⟨r1, r2, r3, r4⟩ := loop_blk H h2 IH l.length (a + 1) [] (by omega) (by omega) (by omega) (fun j g1 g2 => by omega) hq (by rw [KK_nil (fun j g1 g2 => by omega)]; rfl)
   have hb := kloop_bnd (a := a) (kf_bnd l) l.length (a + 1) [] h2
   generalize kloop (kf l) l a l.length (a + 1) [] = r at *
   have hN : ∀ j, r.2 ≤ j → j < l.length → ∀ u : Nat, upAt l j = some (u : Int) → u < a ∨ r.2 ≤ u := by
    intro j
    induction j using Nat.strongRecOn with
    | ind j ih =>
     intro g1 g2 u g3
     by_cases e : j = r.2
     ·subst e; exact .inl (r2 g2 u g3)
     ·obtain ⟨u', k1, k2, k3, k4⟩ := H.up j (by omega) g2
      rw [g3] at k1; injection k1 with k1
      have : u = u' := by omega
      subst this
      exact out_ex (i := j) (fun x hx => H.lt x (by omega)) (by omega) (fun x q1 q2 => ih x q2 q1 (by omega)) k4 (by omega) (by omega)
   refine ⟨by rw [hk]; exact r1, by rw [hk]; exact r2, ?_⟩
   rw [hk, t2_KK h2, r3, ← KK_app (l := l) (a := a) (show a + 1 ≤ r.2 by omega) hb.2, KK_nil (s := r.2) (fun j g1 g2 g3 => by
    rcases hN j g1 g2 a g3 with k | k <;> omega), List.append_nil]
  | false =>
   rw [hh, cond_false] at hk
   have none : ∀ j, a < j → j < l.length → upAt l j ≠ some (a : Int) := fun j g1 g2 g3 => by
    obtain ⟨u, k1, k2, k3, k4⟩ := H.up j (by omega) g2
    rw [g3] at k1; injection k1 with k1
    have : a = u := by omega
    subst this
    rw [hh] at k3; cases k3
   refine ⟨?_, ?_, ?_⟩
   ·rw [hk]; intro j g1 g2
    have g2 : j < a + 1 := g2
    omega
   ·rw [hk]; intro g1 u g2
    have g1 : a + 1 < l.length := g1
    have := hq g1 u g2
    have : u ≠ a := fun e => by subst e; exact none _ (by omega) g1 g2
    omega
   rw [hk, t2_KK h2, KK_nil (fun j g1 g2 => none j (by omega) g2)]
   rfl
theorem Ord.end' {l : List Ty} (H : Ord l) (h : 0 < l.length) : (kf l 0).2 = l.length ∧ (kf l 0).1 = t2L l 0 := by
 have B := blk_all H l.length 0 (by omega) h
 have hb := kf_bnd l 0 h
 refine ⟨?_, B.tree⟩
 by_cases e : (kf l 0).2 < l.length
 ·obtain ⟨u, k1, _⟩ := H.up _ hb.1 e
  have := B.out e u k1; omega
 ·omega

def Ahead (y z : Lab) : Prop := y.2.2.1 < z.2.2.1 ∧ y.2.1 ≠ z.2.1
structure Prs (l : List Ty) (a : Nat) : Prop where
 inn : ∀ j, a < j → j < (kf l a).2 → ∃ u : Nat, upAt l j = some (u : Int) ∧ a ≤ u ∧ u < j ∧ holdsK (labAt l u).1 = true ∧ Out l (j - 1) u
 out : ∀ j, a ≤ j → j < (kf l a).2 → Out l j a

theorem loop_prs {l : List Ty} {a : Nat} (ha : a < l.length) (hh : holdsK (labAt l a).1 = true) (IH : ∀ b, a < b → b < l.length → Prs l b) : ∀ (n e : Nat) (ks : List (Rose Lab)), a < e → e ≤ l.length →
  (∀ j, a < j → j < e → ∃ u : Nat, upAt l j = some (u : Int) ∧ a ≤ u ∧ u < j ∧ holdsK (labAt l u).1 = true ∧ Out l (j - 1) u) → (∀ j, a ≤ j → j < e → Out l j a) →
  (∀ j, a < j → j < (kloop (kf l) l a n e ks).2 → ∃ u : Nat, upAt l j = some (u : Int) ∧ a ≤ u ∧ u < j ∧ holdsK (labAt l u).1 = true ∧ Out l (j - 1) u) ∧ (∀ j, a ≤ j → j < (kloop (kf l) l a n e ks).2 → Out l j a)
 | 0, e, ks, h1, h2, h3, h4 => ⟨h3, h4⟩
 | n + 1, e, ks, h1, h2, h3, h4 => by
  unfold kloop
  split
  ·rename_i hu
   have hl := up_lt hu
   obtain ⟨b1, b2⟩ := kf_bnd l e hl
   have B := IH e h1 hl
   refine loop_prs ha hh IH n (kf l e).2 _ (by omega) b2 (fun j g1 g2 => ?_) (fun j g1 g2 => ?_)
   ·rcases Nat.lt_trichotomy j e with g3 | g3 | g3
    ·exact h3 j g1 g3
    ·subst g3; exact ⟨a, hu, Nat.le_refl _, h1, hh, h4 (j - 1) (by omega) (by omega)⟩
    ·obtain ⟨u, k1, k2, k3⟩ := B.inn j g3 g2; exact ⟨u, k1, by omega, k3⟩
   ·by_cases g3 : j < e
    ·exact h4 j g1 g3
    ·exact (B.out j (by omega) g2).trans (.step e a a hu (.refl a))
  ·exact ⟨h3, h4⟩
theorem prs_all {l : List Ty} : ∀ (n a : Nat), l.length - a ≤ n → a < l.length → Prs l a
 | 0, a, h1, h2 => by omega
 | n + 1, a, h1, h2 => by
  have IH : ∀ b, a < b → b < l.length → Prs l b := fun b g1 g2 => prs_all n b (by omega) g2
  have hk := kf_eq h2
  have base : ∀ j, a ≤ j → j < a + 1 → Out l j a := fun j g1 g2 => by
   have : j = a := by omega
   subst this; exact .refl j
  cases hh : holdsK (labAt l a).1 with
  | true =>
   rw [hh, cond_true] at hk
   obtain ⟨r1, r2⟩ := loop_prs h2 hh IH l.length (a + 1) [] (by omega) (by omega) (fun j g1 g2 => by omega) base
   exact ⟨by rw [hk]; exact r1, by rw [hk]; exact r2⟩
  | false =>
   rw [hh, cond_false] at hk
   refine ⟨?_, by rw [hk]; exact base⟩
   rw [hk]; intro j g1 g2
   have g2 : j < a + 1 := g2
   omega
theorem ord_of_parse {l : List Ty} (h : 0 < l.length) (h0 : upAt l 0 = some (-1)) (he : (kf l 0).2 = l.length) : Ord l := by
 have B := prs_all l.length 0 (by omega) h
 refine ⟨h0, fun i g1 g2 => ?_⟩
 obtain ⟨u, k1, k2, k3, k4, k5⟩ := B.inn i g1 (by omega)
 exact ⟨u, k1, k3, k4, k5⟩
theorem ord_of_S {l : List Ty} (h : 0 < l.length) (ho : (List.range l.length).all (okT l) = true) : Ord l := by
 have at' : ∀ i, i < l.length → okT l i = true := fun i hi => List.all_eq_true.1 ho i (List.mem_range.2 hi)
 refine ⟨?_, fun i g1 g2 => ?_⟩
 ·have := at' 0 h
  unfold okT at this
  rw [if_pos rfl] at this
  simp only [anE, dcE] at this
  exact this.2.1.1.1.2
 ·have := at' i g2
  unfold okT partSB at this
  rw [if_neg (by omega), anE] at this
  have this := this.2
  cases hu : upAt l i with
  | none => rw [hu] at this; cases this
  | some u =>
   rw [hu] at this
   simp only [anE, dcE] at this
   obtain ⟨⟨⟨⟨c1, c2⟩, c3⟩, c4⟩, _⟩ := this
   obtain ⟨u, rfl⟩ := Int.eq_ofNat_of_zero_le c1
   unfold aroundB at c4
   rw [hu] at c4
   dsimp only at c4
   have e : (i : Int) - 1 = ((i - 1 : Nat) : Int) := by omega
   rw [e] at c4
   obtain ⟨y, k1, k2⟩ := arnd_out l u (i + 1) (i - 1) c4
   have : u = y := by omega
   subst this
   exact ⟨u, rfl, by omega, c3, k2⟩
theorem Ord.around {l : List Ty} (H : Ord l) {i : Nat} (h1 : 0 < i) (h2 : i < l.length) : aroundB l i = true := by
 obtain ⟨u, k1, k2, k3, k4⟩ := H.up i h1 h2
 unfold aroundB
 rw [k1]
 dsimp only
 have e : (i : Int) - 1 = ((i - 1 : Nat) : Int) := by omega
 rw [e]
 exact out_arnd (i := l.length) H.lt k4 (by omega) (i + 1) (by omega)
/-! Maps. -/
theorem mget_put (x y : List UInt8) (v : Bool) : ∀ l : List (List UInt8 × Bool), mget .str (mput .str l x v) y = if y = x then some v else mget .str l y
 | [] => by
  show (match keyEq .str y x with | true => some v | false => mget .str [] y) = _
  by_cases h : y = x
  ·subst h
   have : keyEq .str y y = true := beq_self_eq_true y
   rw [this, if_pos rfl]
  ·have : keyEq .str y x = false := beq_false_of_ne h
   rw [this, if_neg h]
 | e :: l => by
  unfold mput
  by_cases h : x = e.1
  ·subst h
   simp only [keyEq, beq_self_eq_true]
   unfold mget
   by_cases h2 : y = e.1
   ·subst h2; simp [keyEq]
   ·simp only [keyEq, beq_false_of_ne h2, if_neg h2]
  ·have : keyEq .str x e.1 = false := beq_false_of_ne h
   rw [this]
   dsimp only
   unfold mget
   by_cases h2 : y = e.1
   ·subst h2; simp [keyEq, Ne.symm h]
   ·have h3 : keyEq .str y e.1 = false := beq_false_of_ne h2
    rw [h3]
    exact mget_put x y v l
theorem msgL_pw : ∀ (l pre : List (Rose Lab)) (seen : List (List UInt8 × Bool)), (∀ nm, (mget .str seen nm).getD false = true ↔ ∃ z ∈ pre, z.lab.2.1 = nm) → pre.Pairwise (fun y z => Ahead y.lab z.lab) →
  (msgL (pre ++ l) pre.length seen l = true ↔ (pre ++ l).Pairwise (fun y z => Ahead y.lab z.lab))
 | [], pre, seen, _, hp => by rw [msgL, List.append_nil]; exact ⟨fun _ => hp, fun _ => rfl⟩
 | z :: l, pre, seen, hs, hp => by
  have hpg : prevGe (pre ++ z :: l) pre.length z.lab.2.2.1 = true ↔ ∃ y, pre.getLast? = some y ∧ y.lab.2.2.1 ≥ z.lab.2.2.1 := by
   cases hl : pre.getLast? with
   | none =>
    have : pre = [] := by simpa using hl
    subst this
    simp [prevGe]
   | some y =>
    have hne : pre ≠ [] := by intro e; subst e; cases hl
    obtain ⟨m, hm⟩ : ∃ m, pre.length = m + 1 := ⟨pre.length - 1, by have := List.length_pos_iff.2 hne; omega⟩
    have hy : (pre ++ z :: l)[m]? = some y := by
     rw [List.getElem?_append_left (by omega), ← hl, List.getLast?_eq_getElem?, hm]; rfl
    rw [hm]
    unfold prevGe
    dsimp only
    rw [hy]
    simp
  have hR : (∀ y ∈ pre, Ahead y.lab z.lab) ↔ ¬ ((mget .str seen z.lab.2.1).getD false || prevGe (pre ++ z :: l) pre.length z.lab.2.2.1) = true := by
   rw [Bool.or_eq_true, hs, hpg]
   constructor
   ·rintro h (⟨y, g1, g2⟩ | ⟨y, g1, g2⟩)
    ·exact (h y g1).2 g2
    ·have := (h y (List.mem_of_getLast? g1)).1; omega
   ·intro h y hy
    refine ⟨?_, fun e => h (.inl ⟨y, hy, e⟩)⟩
    cases hl : pre.getLast? with
    | none =>
     have : pre = [] := by simpa using hl
     subst this; cases hy
    | some w =>
     have h1 : ¬ w.lab.2.2.1 ≥ z.lab.2.2.1 := fun g => h (.inr ⟨w, hl, g⟩)
     have hne : pre ≠ [] := by intro e; subst e; cases hl
     have e : pre = pre.dropLast ++ [w] := by
      rw [List.getLast?_eq_some_getLast hne] at hl
      have := (List.dropLast_concat_getLast hne).symm
      rw [Option.some.inj hl] at this
      exact this
     rw [e] at hy hp
     rcases List.mem_append.1 hy with hy | hy
     ·have := (List.pairwise_append.1 hp).2.2 y hy w (by simp)
      have := this.1; omega
     ·simp at hy; subst hy; omega
  rw [msgL]
  by_cases hc : ((mget .str seen z.lab.2.1).getD false || prevGe (pre ++ z :: l) pre.length z.lab.2.2.1) = true
  ·rw [if_pos hc]
   refine ⟨fun h => (by cases h), fun h => ?_⟩
   exact absurd hc (hR.1 fun y hy => (List.pairwise_append.1 h).2.2 y hy z (by simp))
  ·rw [if_neg hc]
   have hall := hR.2 hc
   have hp2 : (pre ++ [z]).Pairwise (fun y z => Ahead y.lab z.lab) := List.pairwise_append.2 ⟨hp, List.pairwise_singleton _ _, fun y hy w hw => by simp at hw; subst hw; exact hall y hy⟩
   have ih := msgL_pw l (pre ++ [z]) (mput .str seen z.lab.2.1 true) (fun nm => by
    rw [mget_put]
    by_cases e : nm = z.lab.2.1
    ·rw [if_pos e]; simp [e]
    ·rw [if_neg e, hs]
     constructor
     ·rintro ⟨w, g1, g2⟩; exact ⟨w, by simp [g1], g2⟩
     ·rintro ⟨w, g1, g2⟩
      rcases List.mem_append.1 g1 with g1 | g1
      ·exact ⟨w, g1, g2⟩
      ·simp at g1; subst g1; exact absurd g2.symm e) hp2
   rw [List.append_assoc] at ih
   simpa using ih
theorem msgL_iff (zs : List (Rose Lab)) : msgL zs 0 [] zs = true ↔ zs.Pairwise (fun y z => Ahead y.lab z.lab) := by
 have := msgL_pw zs [] [] (fun nm => by simp [mget]) List.Pairwise.nil
 simpa using this
theorem pairwise_sorted {R : Nat → Nat → Prop} : ∀ {l : List Nat}, l.Pairwise (· < ·) → (l.Pairwise R ↔ ∀ a ∈ l, ∀ b ∈ l, a < b → R a b)
 | [], _ => by simp
 | x :: l, h => by
  rw [List.pairwise_cons] at h
  rw [List.pairwise_cons, pairwise_sorted h.2]
  constructor
  ·rintro ⟨h1, h2⟩ a ha b hb hab
   rcases List.mem_cons.1 ha with ea | ha'
   ·rcases List.mem_cons.1 hb with eb | hb'
    ·omega
    ·rw [ea]; exact h1 b hb'
   ·rcases List.mem_cons.1 hb with eb | hb'
    ·have := h.1 a ha'; omega
    ·exact h2 a ha' b hb' hab
  ·intro g
   exact ⟨fun b hb => g x (by simp) b (by simp [hb]) (h.1 b hb), fun a ha b hb hab => g a (by simp [ha]) b (by simp [hb]) hab⟩
theorem KK_mem {l : List Ty} {a s t j : Nat} : j ∈ KK l a s t ↔ (s ≤ j ∧ j < t) ∧ upAt l j = some (a : Int) := by
 unfold KK
 rw [List.mem_filter, List.mem_range'_1, dcE]
 constructor
 ·rintro ⟨h1, h2⟩; exact ⟨by omega, h2⟩
 ·rintro ⟨h1, h2⟩; exact ⟨by omega, h2⟩
theorem KK_sorted (l : List Ty) (a s t : Nat) : (KK l a s t).Pairwise (· < ·) := (List.pairwise_lt_range').filter _

def CD (l : List Ty) : Prop := ∀ j, j < l.length → partsB (labAt l j) ((KK l j (j + 1) l.length).map (t2L l)) = true ∧ ∀ c ∈ KK l j (j + 1) l.length, partB (labAt l j).1 (labAt l c) = true

theorem t2_lab {l : List Ty} {a : Nat} (h : a < l.length) : (t2L l a).lab = labAt l a := by rw [t2_KK h]; rfl
theorem rightL_all (k : Int) : ∀ ks : List (Rose Lab), rightL k ks = true ↔ ∀ z ∈ ks, partB k z.lab = true ∧ rightR z = true
 | [] => by simp [rightL]
 | z :: ks => by
  rw [rightL, anE, anE, rightL_all k ks]
  constructor
  ·rintro ⟨h1, h2⟩ w hw
   rcases List.mem_cons.1 hw with e | hw'
   ·rw [e]; exact h1
   ·exact h2 w hw'
  ·intro h
   exact ⟨h z (by simp), fun w hw => h w (by simp [hw])⟩
theorem right_t2 {l : List Ty} {a : Nat} (h : a < l.length) : rightR (t2L l a) = true ↔ partsB (labAt l a) ((KK l a (a + 1) l.length).map (t2L l)) = true ∧ ∀ c ∈ KK l a (a + 1) l.length, partB (labAt l a).1 (labAt l c) = true ∧ rightR (t2L l c) = true := by
 rw [t2_KK h, rightR, anE, rightL_all]
 constructor
 ·rintro ⟨h1, h2⟩
  refine ⟨h1, fun c hc => ?_⟩
  have hcl := (KK_mem.1 hc).1.2
  have := h2 (t2L l c) (List.mem_map.2 ⟨c, hc, rfl⟩)
  rw [t2_lab hcl] at this
  exact this
 ·rintro ⟨h1, h2⟩
  refine ⟨h1, fun z hz => ?_⟩
  obtain ⟨c, hc, rfl⟩ := List.mem_map.1 hz
  have hcl := (KK_mem.1 hc).1.2
  rw [t2_lab hcl]
  exact h2 c hc
theorem right_iff {l : List Ty} (H : Ord l) (h0 : 0 < l.length) : rightR (t2L l 0) = true ↔ CD l := by
 constructor
 ·intro h
  have all : ∀ j, j < l.length → rightR (t2L l j) = true := by
   intro j
   induction j using Nat.strongRecOn with
   | ind j ih =>
    intro hj
    rcases Nat.eq_zero_or_pos j with rfl | hp
    ·exact h
    ·obtain ⟨u, k1, k2, _⟩ := H.up j hp hj
     exact (((right_t2 (by omega)).1 (ih u k2 (by omega))).2 j (KK_mem.2 ⟨⟨by omega, hj⟩, k1⟩)).2
  intro j hj
  have := (right_t2 hj).1 (all j hj)
  exact ⟨this.1, fun c hc => (this.2 c hc).1⟩
 ·intro h
  have all : ∀ n j, l.length - j ≤ n → j < l.length → rightR (t2L l j) = true := by
   intro n
   induction n with
   | zero => intro j g1 g2; omega
   | succ n ih =>
    intro j g1 g2
    refine (right_t2 g2).2 ⟨(h j g2).1, fun c hc => ⟨(h j g2).2 c hc, ?_⟩⟩
    have := (KK_mem.1 hc).1
    exact ih c (by omega) (by omega)
  exact all l.length 0 (by omega) h0
theorem lab_at {l : List Ty} {i : Nat} (h : i < l.length) : labAt l i = (l[i].1, l[i].2.1, l[i].2.2.1, l[i].2.2.2.1, l[i].2.2.2.2.2.1, ()) := by unfold labAt; rw [gtE h]
theorem sibs_iff {l : List Ty} {a c : Nat} (hc : c ≤ l.length) (no : Int) (nm : List UInt8) : sibs (a : Int) no nm ((l.take c).drop (a + 1)) = true ↔ ∀ k, a < k → k < c → upAt l k = some (a : Int) → (labAt l k).2.2.1 < no ∧ (labAt l k).2.1 ≠ nm := by
 have up : ∀ k (h : k < l.length), upAt l k = some (l[k].2.2.2.2.1) := fun k h => by unfold upAt; rw [gtE h]; rfl
 unfold sibs
 rw [List.all_eq_true]
 constructor
 ·intro h k g1 g2 g3
  have hk : k < l.length := by omega
  have hm : l[k] ∈ (l.take c).drop (a + 1) := by
   refine List.mem_iff_getElem?.2 ⟨k - (a + 1), ?_⟩
   rw [List.getElem?_drop, show a + 1 + (k - (a + 1)) = k by omega, List.getElem?_take, if_pos g2, gtE hk]
  have := h _ hm
  rw [up k hk] at g3
  rw [Option.some.inj g3, beq_self_eq_true, Bool.true_and] at this
  rw [lab_at hk]
  simp only [Bool.not_eq_true', Bool.or_eq_false_iff, decide_eq_false_iff_not, beq_eq_false_iff_ne] at this
  show l[k].2.2.1 < no ∧ l[k].2.1 ≠ nm
  exact ⟨by have := this.1; omega, this.2⟩
 ·intro h o ho
  obtain ⟨j, hj⟩ := List.mem_iff_getElem?.1 ho
  rw [List.getElem?_drop, List.getElem?_take] at hj
  split at hj
  ·rename_i hlt
   have hk : a + 1 + j < l.length := by omega
   rw [gtE hk] at hj
   have e := Option.some.inj hj
   by_cases hu : o.2.2.2.2.1 = (a : Int)
   ·have := h (a + 1 + j) (by omega) hlt (by rw [up _ hk, e, hu])
    rw [lab_at hk, e] at this
    have this : o.2.2.1 < no ∧ o.2.1 ≠ nm := this
    have h1 : decide (o.2.2.1 ≥ no) = false := dcF (by have := this.1; omega)
    have h2 : (o.2.1 == nm) = false := beq_false_of_ne this.2
    rw [h1, h2]; simp
   ·rw [beq_false_of_ne hu]; rfl
  ·cases hj
theorem holds_cases {k : Int} (h : holdsK k = true) : k = 4 ∨ k = 5 := by
 unfold holdsK at h
 rw [Bool.or_eq_true] at h
 rcases h with h | h
 ·exact .inl (by simpa using h)
 ·exact .inr (by simpa using h)
theorem KK_leaf {l : List Ty} (H : Ord l) {j : Nat} (h : holdsK (labAt l j).1 = false) : KK l j (j + 1) l.length = [] := KK_nil fun c g1 g2 g3 => by
 obtain ⟨u, k1, k2, k3, _⟩ := H.up c (by omega) g2
 rw [g3] at k1; injection k1 with k1
 have : j = u := by omega
 subst this
 rw [h] at k3; cases k3
theorem parts_iff {l : List Ty} (H : Ord l) {j : Nat} (hj : j < l.length) : partsB (labAt l j) ((KK l j (j + 1) l.length).map (t2L l)) = true ↔ kmB (labAt l j) = true ∧ oneKid l j = true ∧ ((labAt l j).1 = 5 → ∀ c ∈ KK l j (j + 1) l.length, ∀ k ∈ KK l j (j + 1) l.length, k < c → Ahead (labAt l k) (labAt l c)) := by
 have hone : oneKid l j = !((labAt l j).1 == 4 && (KK l j (j + 1) l.length).length != 1) := by unfold oneKid; rw [kidsAt_KK, List.length_map]
 have hmsg : msgL ((KK l j (j + 1) l.length).map (t2L l)) 0 [] ((KK l j (j + 1) l.length).map (t2L l)) = true ↔ ∀ c ∈ KK l j (j + 1) l.length, ∀ k ∈ KK l j (j + 1) l.length, k < c → Ahead (labAt l k) (labAt l c) := by
  rw [msgL_iff, List.pairwise_map, pairwise_sorted (KK_sorted l j (j + 1) l.length)]
  constructor
  ·intro h c hc k hk hkc
   have := h k hk c hc hkc
   rw [t2_lab (KK_mem.1 hk).1.2, t2_lab (KK_mem.1 hc).1.2] at this
   exact this
  ·intro h k hk c hc hkc
   rw [t2_lab (KK_mem.1 hk).1.2, t2_lab (KK_mem.1 hc).1.2]
   exact h c hc k hk hkc
 rw [hone]
 have hk0 : (labAt l j).1 ≠ 4 → (labAt l j).1 ≠ 5 → KK l j (j + 1) l.length = [] := fun h4 h5 => KK_leaf H (by unfold holdsK; rw [beq_false_of_ne h4, beq_false_of_ne h5]; rfl)
 unfold partsB kmB
 rw [List.length_map]
 generalize labAt l j = x at hk0 ⊢
 by_cases a1 : x.1 = 1 ∨ x.1 = 2
 ·have h4 : x.1 ≠ 4 := by rcases a1 with h | h <;> omega
  have h5 : x.1 ≠ 5 := by rcases a1 with h | h <;> omega
  have h3 : x.1 ≠ 3 := by rcases a1 with h | h <;> omega
  rw [if_pos a1, hk0 h4 h5, if_neg h3, dcT (show 1 ≤ x.1 ∧ x.1 ≤ 5 by rcases a1 with h | h <;> omega), beq_false_of_ne h4]
  simp [h5]
 by_cases a3 : x.1 = 3
 ·have h4 : x.1 ≠ 4 := by omega
  have h5 : x.1 ≠ 5 := by omega
  rw [if_neg a1, if_pos a3, hk0 h4 h5, if_pos a3, dcT (show 1 ≤ x.1 ∧ x.1 ≤ 5 by omega), beq_false_of_ne h4]
  simp [h5]
 by_cases a4 : x.1 = 4
 ·have h5 : x.1 ≠ 5 := by omega
  rw [if_neg a1, if_neg a3, if_pos a4, if_neg a3, dcT (show 1 ≤ x.1 ∧ x.1 ≤ 5 by omega), a4]
  simp [h5]
 by_cases a5 : x.1 = 5
 ·rw [if_neg a1, if_neg a3, if_neg a4, if_neg a3, dcT (show 1 ≤ x.1 ∧ x.1 ≤ 5 by omega), beq_false_of_ne a4]
  by_cases a6 : x.2.2.2.2.1 = 0
  ·rw [if_neg (by rintro (h | h); exact h a5; exact h a6), hmsg]
   simp [a5, a6]
  ·rw [if_pos (.inr a6)]
   simp [a6]
 ·have a0 : ¬ (1 ≤ x.1 ∧ x.1 ≤ 5) := by omega
  rw [if_neg a1, if_neg a3, if_neg a4, if_pos (.inl a5), dcF a0]
  simp
theorem part_iff {l : List Ty} (H : Ord l) {i u : Nat} (hi : 0 < i) (hl : i < l.length) (hu : upAt l i = some (u : Int)) (hlt : u < i) (hh : holdsK (labAt l u).1 = true) :
  partSB l i = true ↔ partB (labAt l u).1 (labAt l i) = true ∧ ((labAt l u).1 = 5 → ∀ k ∈ KK l u (u + 1) l.length, k < i → Ahead (labAt l k) (labAt l i)) := by
 have ha := H.around hi hl
 have hs := sibs_iff (l := l) (a := u) (c := i) (by omega) (labAt l i).2.2.1 (labAt l i).2.1
 have hk : (∀ k ∈ KK l u (u + 1) l.length, k < i → Ahead (labAt l k) (labAt l i)) ↔ ∀ k, u < k → k < i → upAt l k = some (u : Int) → (labAt l k).2.2.1 < (labAt l i).2.2.1 ∧ (labAt l k).2.1 ≠ (labAt l i).2.1 := by
  constructor
  ·intro h k g1 g2 g3; exact h k (KK_mem.2 ⟨⟨g1, by omega⟩, g3⟩) g2
  ·intro h k g1 g2
   have := KK_mem.1 g1
   exact h k this.1.1 g2 this.2
 rw [hk, ← hs]
 unfold partSB partB
 rw [hu]
 dsimp only
 rw [ntN, dcT (show 0 ≤ (u : Int) ∧ (u : Int) < (i : Int) by omega), hh, ha]
 rcases holds_cases hh with h4 | h5
 ·rw [if_pos h4, if_neg (by omega)]
  simp [h4]
 ·rw [if_neg (by omega), if_pos h5]
  simp [h5]
theorem gsch_eq (l : List Ty) : gschS l = kindB l ∧ (kindB l = true → (kf l 0).1 = t2L l 0) := by
 have main : ∀ (H : Ord l), 1 ≤ l.length ∧ l.length ≤ 30 → (gschS l = true ↔ kindB l = true) := fun H hl => by
  have h0 : 0 < l.length := by omega
  obtain ⟨e1, e2⟩ := H.end' h0
  have hc := kf_cnt h0
  have hkm : CD l ↔ (∀ j, j < l.length → kmB (labAt l j) = true ∧ oneKid l j = true) ∧ ∀ j, 0 < j → j < l.length → partSB l j = true := by
   constructor
   ·intro h
    refine ⟨fun j hj => ?_, fun j hp hj => ?_⟩
    ·have := (parts_iff H hj).1 (h j hj).1
     exact ⟨this.1, this.2.1⟩
    ·obtain ⟨u, k1, k2, k3, _⟩ := H.up j hp hj
     have hm : j ∈ KK l u (u + 1) l.length := KK_mem.2 ⟨⟨k2, hj⟩, k1⟩
     have hul : u < l.length := by omega
     refine (part_iff H hp hj k1 k2 k3).2 ⟨(h u hul).2 j hm, fun h5 k hk hkj => ?_⟩
     exact ((parts_iff H hul).1 (h u hul).1).2.2 h5 j hm k hk hkj
   ·rintro ⟨h1, h2⟩ j hj
    have hcc : ∀ c ∈ KK l j (j + 1) l.length, partB (labAt l j).1 (labAt l c) = true ∧ ((labAt l j).1 = 5 → ∀ k ∈ KK l j (j + 1) l.length, k < c → Ahead (labAt l k) (labAt l c)) := fun c hc => by
     obtain ⟨⟨g1, g2⟩, g3⟩ := KK_mem.1 hc
     obtain ⟨u, k1, k2, k3, _⟩ := H.up c (by omega) g2
     rw [g3] at k1; injection k1 with k1
     have : j = u := by omega
     subst this
     exact (part_iff H (by omega) g2 g3 k2 k3).1 (h2 c (by omega) g2)
    exact ⟨(parts_iff H hj).2 ⟨(h1 j hj).1, (h1 j hj).2, fun h5 c hc k hk hkc => (hcc c hc).2 h5 k hk hkc⟩, fun c hc => (hcc c hc).1⟩
  unfold gschS kindB goodR
  rw [dcT hl, dcT H.zero, e1, e2, t2_lab h0]
  have hcnt : decide (cntR (t2L l 0) ≤ 30) = true := dcT (by rw [← e2]; omega)
  rw [hcnt]
  simp only [Bool.true_and, Bool.and_true, anE, List.all_eq_true, List.mem_range, dcE, beq_self_eq_true, true_and, right_iff H h0, hkm]
  constructor
  ·rintro ⟨⟨h1, h2⟩, h3⟩
   have r := h1 0 h0
   unfold okT at r
   rw [if_pos rfl] at r
   simp only [anE, dcE] at r
   obtain ⟨r0, ⟨⟨⟨r1, r2⟩, r3⟩, r4⟩, r5⟩ := r
   refine ⟨⟨⟨⟨⟨r1, r3⟩, r4⟩, r5⟩, ⟨fun j hj => ⟨?_, h2 j hj⟩, fun j hp hj => ?_⟩⟩, h3⟩
   ·have := h1 j hj
    unfold okT at this
    rw [anE] at this
    exact this.1
   ·have := h1 j hj
    unfold okT at this
    rw [if_neg (by omega), anE] at this
    exact this.2
  ·rintro ⟨⟨⟨⟨⟨r1, r3⟩, r4⟩, r5⟩, ⟨h1, h2⟩⟩, h3⟩
   refine ⟨⟨fun j hj => ?_, fun j hj => (h1 j hj).2⟩, h3⟩
   unfold okT
   rw [(h1 j hj).1, Bool.true_and]
   by_cases hz : j = 0
   ·rw [if_pos hz]
    simp only [anE, dcE]
    exact ⟨⟨⟨⟨r1, H.zero⟩, r3⟩, r4⟩, r5⟩
   ·rw [if_neg hz]; exact h2 j (by omega) hj
 have hS : gschS l = true → Ord l ∧ 1 ≤ l.length ∧ l.length ≤ 30 := fun h => by
  unfold gschS at h
  simp only [anE, dcE] at h
  exact ⟨ord_of_S (by omega) h.1.1.2, h.1.1.1⟩
 have hK : kindB l = true → Ord l ∧ 1 ≤ l.length ∧ l.length ≤ 30 := fun h => by
  unfold kindB at h
  simp only [anE, dcE, beq_iff_eq] at h
  exact ⟨ord_of_parse (by omega) h.1.1.2 h.1.2, h.1.1.1⟩
 refine ⟨?_, fun h => ((hK h).1.end' (by have := (hK h).2; omega)).2⟩
 cases h1 : gschS l with
 | true => obtain ⟨H, hl⟩ := hS h1; exact ((main H hl).1 h1).symm
 | false =>
  cases h2 : kindB l with
  | false => rfl
  | true => obtain ⟨H, hl⟩ := hK h2; rw [(main H hl).2 h2] at h1; cases h1

def l2PartG : List V → List Blk → Br (V × List (Option Blk))
 | [.agg [.sl (.pair (.int .i64) (.pair .str (.pair (.int .i64) (.pair .bool (.pair (.int .i64) (.pair (.int .i64) .unit)))))) l], .i .i64 i], [] => .need (decide (0 ≤ i ∧ i.toNat < l.length ∧ l.length ≤ 4000000000) && upsOK l i.toNat && nmL l) (.leaf (.b (partSB l i.toNat), []))
 | _, _ => .no
def l2PartE : LoopEnt := ⟨103, [1,2,5,6], [], [4], fun
 | ([.i .i64 i, .ptr 0 0, .ptr 1 0, .i .i64 k], [some (.box [.sl (.pair (.int .i64) (.pair .str (.pair (.int .i64) (.pair .bool (.pair (.int .i64) (.pair (.int .i64) .unit)))))) l]), some (.box [.i .i64 y0, .s y1, .i .i64 y2, .b y3, .i .i64 y4, .i .i64 y5])]) => .need (decide (0 ≤ k ∧ k ≤ i ∧ i.toNat < l.length ∧ l.length ≤ 4000000000)) (.br (sibs y4 y2 y1 ((l.take i.toNat).drop k.toNat)) (.leaf (.exit 0, ([], []))) (.leaf (.ret, ([.b false], []))))
 | _ => .no⟩

abbrev Lqa4 : FuncId → Option Ent := look [(162, .rd1 l2HoldsG), (163, .rd1 l2AroundG), (164, .rd1 nameG), (78, .rd1 withinG)]
theorem l2Part_round (l : List Ty) (y0 : Int) (y1 : List UInt8) (y2 : Int) (y3 : Bool) (y4 y5 : Int) (i k : Int) : roundK Tryz.prog Lqa4 (look [(9, l2PartE)]) 0 (body Tryz.f122 0) l2PartE ([.j i, .ptr 0 0, .ptr 1 0, .j k], [some (.box [.sl TCd l]), some (.box [.j y0, .s y1, .j y2, .b y3, .j y4, .j y5])]) =
 ((ifB (decide (k < i)) (ifT (decide ((0 : Int) ≤ k) && decide (k < (↑l.length : Int))) (ifSome l[k.toNat]? fun z => ifB (z.snd.snd.snd.snd.fst == y4) (ifB (decide
 (z.snd.snd.fst ≥ y2)) (some (Ex.ret, [V.b false], [])) (ifB (z.snd.fst == y1) (some (Ex.ret, [V.b false], [])) (some (Ex.normal, [V.j i, V.ptr 0 0, V.ptr 1 0, V.i
 .i64 (IntKind.i64.wrap (k + (1 : Int)))], [some (Blk.box [V.sl TCd l]), some (Blk.box [V.j y0, V.s y1, V.j y2, V.b y3, V.j y4, V.j y5])])))) (some
 (Ex.normal, [V.j i, V.ptr 0 0, V.ptr 1 0, V.j (IntKind.i64.wrap (k + (1 : Int)))], [some (Blk.box [V.sl TCd l]), some (Blk.box [V.j y0, V.s y1, V.i .i64
 y2, V.b y3, V.j y4, V.j y5])])))) (some (Ex.exit 0, [], []))) : _) := by kernel_rfl
theorem l2Part_tree (l : List Ty) (i : Int) : funK Tryz.prog Lqa4 (look [(9, l2PartE)]) Tryz.f122 [.agg [.sl TCd l], .j i] [] =
 ((ifT (decide ((0 : Int) ≤ i) && decide (i < (↑l.length : Int))) (ifSome l[i.toNat]? fun z => ifB (decide (z.snd.snd.snd.snd.fst < (0 : Int))) (some (V.b false, [])) (ifB
 (decide (z.snd.snd.snd.snd.fst ≥ i)) (some (V.b false, [])) (ifT (decide ((0 : Int) ≤ z.snd.snd.snd.snd.fst) && decide (z.snd.snd.snd.snd.fst < (↑l.length : Int)))
 (ifSome l[Int.toNat z.snd.snd.snd.snd.fst]? fun z_1 => ifB (!holdsK z_1.fst) (some (V.b false, [])) (ifT (decide ((0 : Int) ≤ i ∧ i.toNat < l.length ∧ l.length ≤
 (4000000000 : Nat)) && upsOK l i.toNat) (ifB (!aroundB l i.toNat) (some (V.b false, [])) (ifT (decide ((0 : Int) ≤ z.snd.snd.snd.snd.fst) && decide (z.snd.snd.snd.snd.fst
 < (↑l.length : Int))) (ifSome l[Int.toNat z.snd.snd.snd.snd.fst]? fun z_2 => ifB (z_2.fst == (4 : Int)) (ifB (z.snd.fst == nilT UInt8) (ifB (z.snd.snd.fst == (0 : Int))
 (some (V.b !z.snd.snd.snd.fst, [])) (some (V.b false, []))) (some (V.b false, []))) (ifT (decide (List.length z.snd.fst ≤ maxI)) (ifB (!nameB z.snd.fst) (some (V.b false,
 [])) (ifB (!decide ((1 : Int) ≤ z.snd.snd.fst ∧ z.snd.snd.fst ≤ (30 : Int))) (some (V.b false, [])) (ifT (decide ((0 : Int) ≤ IntKind.i64.wrap (z.snd.snd.snd.snd.fst + (1
 : Int)) ∧ IntKind.i64.wrap (z.snd.snd.snd.snd.fst + (1 : Int)) ≤ i ∧ i.toNat < l.length ∧ l.length ≤ (4000000000 : Nat))) (ifB (sibs z.snd.snd.snd.snd.fst z.snd.snd.fst
 z.snd.fst (List.drop (IntKind.i64.wrap (z.snd.snd.snd.snd.fst + (1 : Int))).toNat (List.take i.toNat l))) (some (V.b true, [])) (some (V.b false, [])))))))))))))))) : _) := by kernel_rfl
theorem l2Part_ok : LoopsOk Tryz.prog Lqa4 (look [(9, l2PartE)]) 0 (Tryz.f122.body.getD .skip) := by
 refine loopsOk_one (a := body Tryz.f122 0) (by kernel_rfl) fun d ex d' h => ?_
 unfold l2PartE at h
 dsimp only at h
 split at h
 ·rename_i i k l y0 y1 y2 y3 y4 y5
  obtain ⟨hc, hx⟩ := need_some h
  clear h
  obtain ⟨h0, h1, h2, h3⟩ := of_decide_eq_true hc
  obtain ⟨k, rfl⟩ := Int.eq_ofNat_of_zero_le h0
  obtain ⟨i, rfl⟩ := Int.eq_ofNat_of_zero_le (by omega : 0 ≤ i)
  simp only [ntN] at h2 hx
  have hM : maxI = 9223372036854775807 := rfl
  have hlen : (l.take i).length = i := by rw [List.length_take]; omega
  refine runs_all (l := l.take i) (fun o : Ty => !(o.2.2.2.2.1 == y4 && (decide (o.2.2.1 ≥ y2) || o.2.1 == y1))) (fun k => ([.j (i : Int), .ptr 0 0, .ptr 1 0, .j (k : Int)], [some (.box [.sl TCd l]), some (.box [.j y0, .s y1, .j y2, .b y3, .j y4, .j y5])])) (ex := (.exit 0, ([], []))) (rt := (.ret, ([.b false], []))) (by simp) (by simp) (fun n hn => ?_) ?_ ((l.take i).length - k) k (by rw [hlen]; omega) ex d' hx
  ·rw [hlen] at hn
   have hnl : n < l.length := by omega
   have hr := l2Part_round l y0 y1 y2 y3 y4 y5 i n
   rw [ifB_true (dcT (by omega)), ifT_true (by simp only [anE, dcE]; omega)] at hr
   simp only [ntN, gtE hnl, ifSome_s, wrap_succ (n := n) (by omega)] at hr
   refine hr.trans ?_
   rw [List.getElem_take]
   cases l[n].2.2.2.2.1 == y4 <;> cases decide (l[n].2.2.1 ≥ y2) <;> cases l[n].2.1 == y1 <;> rfl
  ·have hr := l2Part_round l y0 y1 y2 y3 y4 y5 i i
   rw [ifB_false (dcF (by omega))] at hr
   rw [hlen]
   exact hr
 ·cases h
theorem l2Part_fun (l : List Ty) (i : Int) (hc : 0 ≤ i ∧ i.toNat < l.length ∧ l.length ≤ 4000000000) (hs : upsOK l i.toNat = true) (hn : nmL l = true) : funK Tryz.prog Lqa4 (look [(9, l2PartE)]) Tryz.f122 [.agg [.sl TCd l], .j i] [] = some (.b (partSB l i.toNat), []) := by
 rw [l2Part_tree]
 obtain ⟨h0, h1, h2⟩ := hc
 obtain ⟨i, rfl⟩ := Int.eq_ofNat_of_zero_le h0
 simp only [ntN] at h1 hs
 have hM : maxI = 9223372036854775807 := rfl
 have hu : upAt l i = some (l[i].2.2.2.2.1) := by unfold upAt; rw [gtE h1]; rfl
 have hlb := lab_at h1
 have hnm : l[i].2.1.length ≤ maxI := of_decide_eq_true (List.all_eq_true.1 hn _ (List.getElem_mem h1))
 rw [ifT_true (by simp only [anE, dcE]; omega)]
 simp only [ntN, gtE h1, ifSome_s]
 unfold partSB
 rw [hu, hlb]
 dsimp only
 by_cases a1 : l[i].2.2.2.2.1 < 0
 ·rw [ifB_true (dcT a1), dcF (by omega)]; rfl
 rw [ifB_false (dcF a1)]
 by_cases a2 : l[i].2.2.2.2.1 ≥ (i : Int)
 ·rw [ifB_true (dcT a2), dcF (by omega)]; rfl
 obtain ⟨u, hu2⟩ := Int.eq_ofNat_of_zero_le (by omega : 0 ≤ l[i].2.2.2.2.1)
 rw [hu2] at a2 ⊢
 have hul : u < l.length := by omega
 have hg : (decide ((0 : Int) ≤ (u : Int)) && decide ((u : Int) < (l.length : Int))) = true := by simp only [anE, dcE]; omega
 rw [ifB_false (dcF a2), dcT (show 0 ≤ (u : Int) ∧ (u : Int) < (i : Int) by omega), hg]
 simp only [ntN, gtE hul, ifSome_s, ifT_t]
 rw [lab_at hul]
 dsimp only
 cases holdsK l[u].1 with
 | false => rfl
 | true =>
  rw [Bool.not_true, ifB_f, ifT_true (by rw [anE]; exact ⟨dcT ⟨by omega, h1, h2⟩, hs⟩)]
  cases aroundB l i with
  | false => rfl
  | true =>
   rw [Bool.not_true, ifB_f]
   by_cases a4 : l[u].1 = 4
   ·rw [ifB_true (by rw [a4]; rfl), if_pos a4]
    cases l[i].2.1 == nilT UInt8 <;> cases l[i].2.2.1 == 0 <;> rfl
   ·rw [ifB_false (beq_false_of_ne a4), if_neg a4, ifT_true (dcT hnm), wrap_succ (n := u) (by omega)]
    have d1 : decide (1 ≤ l[i].2.2.1 ∧ l[i].2.2.1 ≤ 30) = (decide (1 ≤ l[i].2.2.1) && decide (l[i].2.2.1 ≤ 30)) := Bool.decide_and ..
    rw [d1, ifT_true (dcT ⟨by omega, by omega, h1, h2⟩), ntN]
    cases nameB l[i].2.1 <;> cases (decide (1 ≤ l[i].2.2.1) && decide (l[i].2.2.1 ≤ 30)) <;> cases sibs (u : Int) l[i].2.2.1 l[i].2.1 ((l.take i).drop (u + 1)) <;> rfl
theorem l2Part : Contract Tryz.prog 122 (Ent.rd1 l2PartG).F := by
 refine fun_contract' (KnowsL.cons (enters_fn Tryz.func162 (by kernel_rfl) (by kernel_rfl)) l2Holds (KnowsL.cons (enters_fn Tryz.func163 (by kernel_rfl) (by kernel_rfl)) l2Around (KnowsL.cons (enters_fn Tryz.func164 (by kernel_rfl) (by kernel_rfl)) sname (KnowsL.cons (enters_fn Tryz.func78 (by kernel_rfl) (by kernel_rfl)) l1In KnowsL.nil)))).knows (Λ := (look [(9, l2PartE)])) Tryz.func122 (c := Tryz.f122.body.getD .skip) (by kernel_rfl) fun vs bs r hq hv hb => ?_
 unfold Ent.F l2PartG at hq
 dsimp only at hq
 split at hq
 ·rename_i l i
  obtain ⟨hc, hx⟩ := need_some hq
  rw [anE, anE] at hc
  exact ⟨l2Part_ok, (l2Part_fun l i (of_decide_eq_true hc.1.1) hc.1.2 hc.2).trans hx⟩
 ·cases hq

instance decTy0 : DecidableEq (Bool × Int × Int × Unit) := inferInstance
instance decTy : DecidableEq Ty := inferInstance
def gs1E : LoopEnt := ⟨105, [1,13,14,15], [1], [2], fun
 | ([.ptr 0 0, .sl (.pair (.int .i64) (.pair .str (.pair (.int .i64) (.pair .bool (.pair (.int .i64) (.pair (.int .i64) .unit)))))) q, .i .i64 m, .i .i64 i], [some (.box [.sl (.pair (.int .i64) (.pair .str (.pair (.int .i64) (.pair .bool (.pair (.int .i64) (.pair (.int .i64) .unit)))))) l])]) => .need (decide (0 ≤ i ∧ i.toNat ≤ l.length ∧ m = l.length ∧ eqT (List Ty) q l ∧ l.length ≤ 4000000000) && nmL l && upsOK l i.toNat) (.br (((List.range l.length).drop i.toNat).all (okT l)) (.leaf (.exit 0, ([.ptr 0 0], [some (.box [.sl (.pair (.int .i64) (.pair .str (.pair (.int .i64) (.pair .bool (.pair (.int .i64) (.pair (.int .i64) .unit)))))) l])]))) (.leaf (.ret, ([.b false], []))))
 | _ => .no⟩
def gs2E : LoopEnt := ⟨105, [1,83,84,85], [1], [2], fun
 | ([.ptr 0 0, .sl (.pair (.int .i64) (.pair .str (.pair (.int .i64) (.pair .bool (.pair (.int .i64) (.pair (.int .i64) .unit)))))) q, .i .i64 m, .i .i64 i], [some (.box [.sl (.pair (.int .i64) (.pair .str (.pair (.int .i64) (.pair .bool (.pair (.int .i64) (.pair (.int .i64) .unit)))))) l])]) => .need (decide (0 ≤ i ∧ i.toNat ≤ l.length ∧ m = l.length ∧ eqT (List Ty) q l ∧ l.length ≤ 4000000000)) (.br (((List.range l.length).drop i.toNat).all (oneKid l)) (.leaf (.exit 2, ([.ptr 0 0], [some (.box [.sl (.pair (.int .i64) (.pair .str (.pair (.int .i64) (.pair .bool (.pair (.int .i64) (.pair (.int .i64) .unit)))))) l])]))) (.leaf (.ret, ([.b false], []))))
 | _ => .no⟩

abbrev Lqa5 : FuncId → Option Ent := look [(78, .rd1 withinG), (122, .rd1 l2PartG), (123, .rd1 l2KidsG), (83, .rd1 l2TreeG), (124, .rd1 sdeepG)]
theorem gs1_round (l q : List Ty) (m i : Int) : roundK Tryz.prog Lqa5 (look [(4, gs1E), (12, gs2E)]) 0 (body Tryz.f77 0) gs1E ([.ptr 0 0, .sl TCd q, .j m, .j i], [some (.box [.sl TCd l])]) =
 ((ifB (decide (i < m)) (ifT (decide ((0 : Int) ≤ i) && decide (i < (↑q.length : Int))) (ifSome q[i.toNat]? fun z => ifB (!decide ((1 : Int) ≤ z.fst ∧ z.fst ≤ (5 : Int)))
 (some (Ex.ret, [V.b false], [])) (ifB (z.fst == (3 : Int)) (ifB (!decide ((0 : Int) ≤ z.snd.snd.snd.snd.snd.fst ∧ z.snd.snd.snd.snd.snd.fst ≤ (20 : Int))) (some (Ex.ret,
 [V.b false], [])) (ifB (z.fst != (3 : Int)) (ifB (z.snd.snd.snd.snd.snd.fst != (0 : Int)) (some (Ex.ret, [V.b false], [])) (ifB (i == (0 : Int)) (ifB (z.fst != (5 : Int))
 (some (Ex.ret, [V.b false], [])) (ifB (z.snd.snd.snd.snd.fst != (-1 : Int)) (some (Ex.ret, [V.b false], [])) (ifB (!z.snd.fst == nilT UInt8) (some (Ex.ret, [V.b false],
 [])) (ifB (z.snd.snd.fst != (0 : Int)) (some (Ex.ret, [V.b false], [])) (ifB z.snd.snd.snd.fst (some (Ex.ret, [V.b false], [])) (ifB (decide (i > (0 : Int))) (ifT (decide
 ((0 : Int) ≤ i ∧ i.toNat < l.length ∧ l.length ≤ (4000000000 : Nat)) && upsOK l i.toNat && nmL l) (ifB (!partSB l i.toNat) (some (Ex.ret, [V.b false], [])) (some
 (Ex.normal, [V.ptr 0 0, V.sl TCd q, V.j m, V.j (IntKind.i64.wrap (i + (1 : Int)))], [some (Blk.box [V.sl TCd l])])))) (some (Ex.normal, [V.ptr 0 0, V.sl TCd q,
 V.j m, V.j (IntKind.i64.wrap (i + (1 : Int)))], [some (Blk.box [V.sl TCd l])])))))))) (ifB (decide (i > (0 : Int))) (ifT (decide ((0 : Int) ≤ i ∧ i.toNat <
 l.length ∧ l.length ≤ (4000000000 : Nat)) && upsOK l i.toNat && nmL l) (ifB (!partSB l i.toNat) (some (Ex.ret, [V.b false], [])) (some (Ex.normal, [V.ptr 0 0, V.sl TCd q,
 V.j m, V.j (IntKind.i64.wrap (i + (1 : Int)))], [some (Blk.box [V.sl TCd l])])))) (some (Ex.normal, [V.ptr 0 0, V.sl TCd q, V.j m, V.i .i64
 (IntKind.i64.wrap (i + (1 : Int)))], [some (Blk.box [V.sl TCd l])]))))) (ifB (i == (0 : Int)) (ifB (z.fst != (5 : Int)) (some (Ex.ret, [V.b false], [])) (ifB
 (z.snd.snd.snd.snd.fst != (-1 : Int)) (some (Ex.ret, [V.b false], [])) (ifB (!z.snd.fst == nilT UInt8) (some (Ex.ret, [V.b false], [])) (ifB (z.snd.snd.fst != (0 : Int))
 (some (Ex.ret, [V.b false], [])) (ifB z.snd.snd.snd.fst (some (Ex.ret, [V.b false], [])) (ifB (decide (i > (0 : Int))) (ifT (decide ((0 : Int) ≤ i ∧ i.toNat < l.length ∧
 l.length ≤ (4000000000 : Nat)) && upsOK l i.toNat && nmL l) (ifB (!partSB l i.toNat) (some (Ex.ret, [V.b false], [])) (some (Ex.normal, [V.ptr 0 0, V.sl TCd q, V.i .i64
 m, V.j (IntKind.i64.wrap (i + (1 : Int)))], [some (Blk.box [V.sl TCd l])])))) (some (Ex.normal, [V.ptr 0 0, V.sl TCd q, V.j m, V.j (IntKind.i64.wrap (i +
 (1 : Int)))], [some (Blk.box [V.sl TCd l])])))))))) (ifB (decide (i > (0 : Int))) (ifT (decide ((0 : Int) ≤ i ∧ i.toNat < l.length ∧ l.length ≤ (4000000000 : Nat)) &&
 upsOK l i.toNat && nmL l) (ifB (!partSB l i.toNat) (some (Ex.ret, [V.b false], [])) (some (Ex.normal, [V.ptr 0 0, V.sl TCd q, V.j m, V.j (IntKind.i64.wrap (i +
 (1 : Int)))], [some (Blk.box [V.sl TCd l])])))) (some (Ex.normal, [V.ptr 0 0, V.sl TCd q, V.j m, V.j (IntKind.i64.wrap (i + (1 : Int)))], [some (Blk.box [V.sl
 TCd l])])))))) (ifB (z.fst != (3 : Int)) (ifB (z.snd.snd.snd.snd.snd.fst != (0 : Int)) (some (Ex.ret, [V.b false], [])) (ifB (i == (0 : Int)) (ifB (z.fst != (5 : Int))
 (some (Ex.ret, [V.b false], [])) (ifB (z.snd.snd.snd.snd.fst != (-1 : Int)) (some (Ex.ret, [V.b false], [])) (ifB (!z.snd.fst == nilT UInt8) (some (Ex.ret, [V.b false],
 [])) (ifB (z.snd.snd.fst != (0 : Int)) (some (Ex.ret, [V.b false], [])) (ifB z.snd.snd.snd.fst (some (Ex.ret, [V.b false], [])) (ifB (decide (i > (0 : Int))) (ifT (decide
 ((0 : Int) ≤ i ∧ i.toNat < l.length ∧ l.length ≤ (4000000000 : Nat)) && upsOK l i.toNat && nmL l) (ifB (!partSB l i.toNat) (some (Ex.ret, [V.b false], [])) (some
 (Ex.normal, [V.ptr 0 0, V.sl TCd q, V.j m, V.j (IntKind.i64.wrap (i + (1 : Int)))], [some (Blk.box [V.sl TCd l])])))) (some (Ex.normal, [V.ptr 0 0, V.sl TCd q,
 V.j m, V.j (IntKind.i64.wrap (i + (1 : Int)))], [some (Blk.box [V.sl TCd l])])))))))) (ifB (decide (i > (0 : Int))) (ifT (decide ((0 : Int) ≤ i ∧ i.toNat <
 l.length ∧ l.length ≤ (4000000000 : Nat)) && upsOK l i.toNat && nmL l) (ifB (!partSB l i.toNat) (some (Ex.ret, [V.b false], [])) (some (Ex.normal, [V.ptr 0 0, V.sl TCd q,
 V.j m, V.j (IntKind.i64.wrap (i + (1 : Int)))], [some (Blk.box [V.sl TCd l])])))) (some (Ex.normal, [V.ptr 0 0, V.sl TCd q, V.j m, V.i .i64
 (IntKind.i64.wrap (i + (1 : Int)))], [some (Blk.box [V.sl TCd l])]))))) (ifB (i == (0 : Int)) (ifB (z.fst != (5 : Int)) (some (Ex.ret, [V.b false], [])) (ifB
 (z.snd.snd.snd.snd.fst != (-1 : Int)) (some (Ex.ret, [V.b false], [])) (ifB (!z.snd.fst == nilT UInt8) (some (Ex.ret, [V.b false], [])) (ifB (z.snd.snd.fst != (0 : Int))
 (some (Ex.ret, [V.b false], [])) (ifB z.snd.snd.snd.fst (some (Ex.ret, [V.b false], [])) (ifB (decide (i > (0 : Int))) (ifT (decide ((0 : Int) ≤ i ∧ i.toNat < l.length ∧
 l.length ≤ (4000000000 : Nat)) && upsOK l i.toNat && nmL l) (ifB (!partSB l i.toNat) (some (Ex.ret, [V.b false], [])) (some (Ex.normal, [V.ptr 0 0, V.sl TCd q, V.i .i64
 m, V.j (IntKind.i64.wrap (i + (1 : Int)))], [some (Blk.box [V.sl TCd l])])))) (some (Ex.normal, [V.ptr 0 0, V.sl TCd q, V.j m, V.j (IntKind.i64.wrap (i +
 (1 : Int)))], [some (Blk.box [V.sl TCd l])])))))))) (ifB (decide (i > (0 : Int))) (ifT (decide ((0 : Int) ≤ i ∧ i.toNat < l.length ∧ l.length ≤ (4000000000 : Nat)) &&
 upsOK l i.toNat && nmL l) (ifB (!partSB l i.toNat) (some (Ex.ret, [V.b false], [])) (some (Ex.normal, [V.ptr 0 0, V.sl TCd q, V.j m, V.j (IntKind.i64.wrap (i +
 (1 : Int)))], [some (Blk.box [V.sl TCd l])])))) (some (Ex.normal, [V.ptr 0 0, V.sl TCd q, V.j m, V.j (IntKind.i64.wrap (i + (1 : Int)))], [some (Blk.box [V.sl
 TCd l])])))))))) (some (Ex.exit 0, [V.ptr 0 0], [some (Blk.box [V.sl TCd l])]))) : _) := by kernel_rfl
theorem gs2_round (l q : List Ty) (m i : Int) : roundK Tryz.prog Lqa5 (look [(4, gs1E), (12, gs2E)]) 0 (body Tryz.f77 1) gs2E ([.ptr 0 0, .sl TCd q, .j m, .j i], [some (.box [.sl TCd l])]) =
 ((ifB (decide (i < m)) (ifT (decide ((0 : Int) ≤ i) && decide (i < (↑q.length : Int))) (ifSome q[i.toNat]? fun z => ifB (z.fst == (4 : Int)) (ifT (decide ((0 : Int) ≤ i ∧
 i.toNat < l.length ∧ l.length ≤ (4000000000 : Nat))) (ifB ((↑(kidsAt l i.toNat).length : Int) != (1 : Int)) (some (Ex.ret, [V.b false], [])) (some (Ex.normal, [V.ptr 0 0,
 V.sl TCd q, V.j m, V.j (IntKind.i64.wrap (i + (1 : Int)))], [some (Blk.box [V.sl TCd l])])))) (some (Ex.normal, [V.ptr 0 0, V.sl TCd q, V.j m, V.i .i64
 (IntKind.i64.wrap (i + (1 : Int)))], [some (Blk.box [V.sl TCd l])])))) (some (Ex.exit 2, [V.ptr 0 0], [some (Blk.box [V.sl TCd l])]))) : _) := by kernel_rfl
theorem gs_tree (l : List Ty) : funK Tryz.prog Lqa5 (look [(4, gs1E), (12, gs2E)]) Tryz.f77 [.agg [.sl TCd l]] [] =
 ((ifB (!decide ((1 : Int) ≤ (↑l.length : Int) ∧ (↑l.length : Int) ≤ (30 : Int))) (some (V.b false, [])) (ifT (decide ((0 : Int) ≤ (0 : Int) ∧ (0 : Nat) ≤ l.length ∧
 (↑l.length : Int) = (↑l.length : Int) ∧ eqT (List Ty) l l ∧ l.length ≤ (4000000000 : Nat)) && nmL l && upsOK l (0 : Nat)) (ifB ((List.drop (0 : Nat) (List.range
 l.length)).all (okT l)) (ifT (decide ((0 : Int) ≤ (0 : Int) ∧ (0 : Nat) ≤ l.length ∧ (↑l.length : Int) = (↑l.length : Int) ∧ eqT (List Ty) l l ∧ l.length ≤ (4000000000 :
 Nat))) (ifB ((List.drop (0 : Nat) (List.range l.length)).all (oneKid l)) (ifT (decide ((0 : Int) ≤ (0 : Int) ∧ (0 : Nat) < l.length ∧ l.length ≤ (4000000000 : Nat))) (ifT
 (decide (cntL (List.take (t2L l (0 : Nat)).kids.length (List.drop (0 : Nat) (t2L l (0 : Nat)).kids)) + (1 : Nat) ≤ (1000000 : Nat))) (some (V.b (decide ((↑(deepL
 (List.take (t2L l (0 : Nat)).kids.length (List.drop (0 : Nat) (t2L l (0 : Nat)).kids)) + bif holdsK (t2L l (0 : Nat)).lab.fst then (1 : Nat) else (0 : Nat)) : Int) ≤ (5 :
 Int))), [])))) (some (V.b false, [])))) (some (V.b false, []))))) : _) := by kernel_rfl
theorem upsOK_succ {l : List Ty} {i : Nat} (h : upsOK l i = true) {u : Int} (hu : upAt l i = some u) (hlt : u < (i : Int)) : upsOK l (i + 1) = true := by
 unfold upsOK at h ⊢
 rw [List.range_succ, List.all_append, h, Bool.true_and, List.all_cons, List.all_nil, Bool.and_true, hu]
 exact dcT hlt
theorem okT_up {l : List Ty} {i : Nat} (h : okT l i = true) : ∃ u, upAt l i = some u ∧ u < (i : Int) := by
 unfold okT at h
 rw [anE] at h
 have h := h.2
 by_cases hz : i = 0
 ·subst hz
  rw [if_pos rfl] at h
  simp only [anE, dcE] at h
  exact ⟨-1, h.1.1.1.2, by omega⟩
 ·rw [if_neg hz] at h
  unfold partSB at h
  cases hu : upAt l i with
  | none => rw [hu] at h; cases h
  | some u =>
   rw [hu] at h
   simp only [anE, dcE] at h
   exact ⟨u, rfl, h.1.1.1.2⟩
theorem gs1_step (l : List Ty) (hl : l.length ≤ 4000000000) (hn : nmL l = true) (i : Nat) (hi : i < l.length) (hs : upsOK l i = true) :
  roundK Tryz.prog Lqa5 (look [(4, gs1E), (12, gs2E)]) 0 (body Tryz.f77 0) gs1E ([.ptr 0 0, .sl TCd l, .j (l.length : Int), .j (i : Int)], [some (.box [.sl TCd l])]) = some (bif okT l i then (.normal, ([.ptr 0 0, .sl TCd l, .j (l.length : Int), .j ((i + 1 : Nat) : Int)], [some (.box [.sl TCd l])])) else (.ret, ([.b false], []))) := by
 have hM : maxI = 9223372036854775807 := rfl
 have hr := gs1_round l l l.length i
 rw [ifB_true (dcT (by omega)), ifT_true (by simp only [anE, dcE]; omega)] at hr
 simp only [ntN, gtE hi, ifSome_s, wrap_succ (n := i) (by omega)] at hr
 refine hr.trans ?_
 clear hr
 have hc : (decide ((0 : Int) ≤ (i : Int) ∧ i < l.length ∧ l.length ≤ 4000000000) && upsOK l i && nmL l) = true := by
  rw [hs, hn, dcT (show (0 : Int) ≤ (i : Int) ∧ i < l.length ∧ l.length ≤ 4000000000 from ⟨by omega, hi, hl⟩)]; rfl
 rw [hc]
 have hkm : kmB (labAt l i) = (decide (1 ≤ l[i].1 ∧ l[i].1 ≤ 5) && (bif l[i].1 == 3 then decide (0 ≤ l[i].2.2.2.2.2.1 ∧ l[i].2.2.2.2.2.1 ≤ 20) else l[i].2.2.2.2.2.1 == 0)) := by
  rw [lab_at hi]
  unfold kmB
  dsimp only
  by_cases h3 : l[i].1 = 3
  ·rw [if_pos h3, h3]; rfl
  ·rw [if_neg h3, beq_false_of_ne h3]; rfl
 unfold okT
 rw [hkm]
 unfold bne
 by_cases hz : i = 0
 ·subst hz
  have hu : decide (upAt l 0 = some (-1)) = (l[0].2.2.2.2.1 == -1) := by
   unfold upAt
   rw [gtE hi]
   by_cases h1 : l[0].2.2.2.2.1 = -1
   ·rw [Option.map_some, h1]; simp
   ·rw [beq_false_of_ne h1]; exact dcF (fun h => h1 (Option.some.inj h))
  rw [if_pos rfl, lab_at hi, hu]
  simp only [show (((0 : Nat) : Int) == 0) = true from rfl, show decide (((0 : Nat) : Int) > 0) = false from rfl]
  have hnil : (l[0].2.1 == ([] : List UInt8)) = (l[0].2.1 == nilT UInt8) := rfl
  rw [hnil]
  generalize decide (1 ≤ l[0].1 ∧ l[0].1 ≤ 5) = K
  generalize (l[0].1 == 3) = c3
  generalize (l[0].1 == 5) = c5
  generalize decide (0 ≤ l[0].2.2.2.2.2.1 ∧ l[0].2.2.2.2.2.1 ≤ 20) = M
  generalize (l[0].2.2.2.2.2.1 == 0) = m0
  generalize (l[0].2.2.2.2.1 == -1) = u0
  generalize (l[0].2.1 == nilT UInt8) = nm
  generalize (l[0].2.2.1 == 0) = no
  generalize l[0].2.2.2.1 = mu
  cases K <;> cases c3 <;> cases c5 <;> cases M <;> cases m0 <;> cases u0 <;> cases nm <;> cases no <;> cases mu <;> rfl
 ·rw [if_neg hz]
  have h0 : ((i : Int) == 0) = false := beq_false_of_ne (by omega)
  have h1 : decide ((i : Int) > 0) = true := dcT (by omega)
  rw [h0, h1]
  generalize decide (1 ≤ l[i].1 ∧ l[i].1 ≤ 5) = K
  generalize (l[i].1 == 3) = c3
  generalize decide (0 ≤ l[i].2.2.2.2.2.1 ∧ l[i].2.2.2.2.2.1 ≤ 20) = M
  generalize (l[i].2.2.2.2.2.1 == 0) = m0
  generalize partSB l i = p
  cases K <;> cases c3 <;> cases M <;> cases m0 <;> cases p <;> rfl
theorem range_drop {n i : Nat} (h : i < n) : (List.range n).drop i = i :: (List.range n).drop (i + 1) := by
 rw [List.drop_eq_getElem_cons (by simpa using h)]; simp
theorem gs1_loop (l : List Ty) (hl : l.length ≤ 4000000000) (hn : nmL l = true) : ∀ (j i : Nat), i + j = l.length → upsOK l i = true → ∀ ex d, (Br.br (((List.range l.length).drop i).all (okT l)) (.leaf (.exit 0, ([.ptr 0 0], [some (.box [.sl TCd l])]))) (.leaf (.ret, ([.b false], []))) : Br (Ex × Dt)).run = some (ex, d) →
  Runs Tryz.prog Lqa5 (look [(4, gs1E), (12, gs2E)]) 0 (body Tryz.f77 0) gs1E ([.ptr 0 0, .sl TCd l, .j (l.length : Int), .j (i : Int)], [some (.box [.sl TCd l])]) ex d
 | 0, i, hi, hs, ex, d, h => by
  have hr := gs1_round l l l.length i
  rw [ifB_false (dcF (by omega))] at hr
  have e1 : (List.range l.length).drop i = [] := List.drop_eq_nil_of_le (by simp; omega)
  rw [e1] at h
  have h8 := leaf_some h
  obtain ⟨rfl, rfl⟩ := Prod.mk.inj h8
  exact .stop _ _ _ hr (by simp)
 | j + 1, i, hi, hs, ex, d, h => by
  have hr := gs1_step l hl hn i (by omega) hs
  rw [range_drop (by omega), List.all_cons] at h
  cases hk : okT l i with
  | true =>
   rw [hk, cond_true] at hr
   rw [hk, Bool.true_and] at h
   obtain ⟨u, hu, hlt⟩ := okT_up hk
   exact .step _ _ _ _ hr (gs1_loop l hl hn j (i + 1) (by omega) (upsOK_succ hs hu hlt) ex d h)
  | false =>
   rw [hk, cond_false] at hr
   rw [hk, Bool.false_and] at h
   have h8 := leaf_some h
   obtain ⟨rfl, rfl⟩ := Prod.mk.inj h8
   exact .stop _ _ _ hr (by simp)
theorem gs1_ok : ∀ d e d', (gs1E.L d).run = some (e, d') → Runs Tryz.prog Lqa5 (look [(4, gs1E), (12, gs2E)]) 0 (body Tryz.f77 0) gs1E d e d' := fun d ex d' h => by
 unfold gs1E at h
 dsimp only at h
 split at h
 ·rename_i q m i l
  obtain ⟨hc, hx⟩ := need_some h
  clear h
  rw [anE, anE] at hc
  obtain ⟨⟨hc, hn⟩, hs⟩ := hc
  obtain ⟨h0, h1, rfl, h3, h4⟩ := of_decide_eq_true hc
  have h3 : q = l := h3
  subst h3
  obtain ⟨i, rfl⟩ := Int.eq_ofNat_of_zero_le h0
  simp only [ntN] at h1 hs hx
  exact gs1_loop _ h4 hn _ i (Nat.add_sub_of_le h1) hs ex d' hx
 ·cases h
theorem gs2_ok : ∀ d e d', (gs2E.L d).run = some (e, d') → Runs Tryz.prog Lqa5 (look [(4, gs1E), (12, gs2E)]) 0 (body Tryz.f77 1) gs2E d e d' := fun d ex d' h => by
 unfold gs2E at h
 dsimp only at h
 split at h
 ·rename_i q m i l
  obtain ⟨hc, hx⟩ := need_some h
  clear h
  obtain ⟨h0, h1, rfl, h3, h4⟩ := of_decide_eq_true hc
  have h3 : q = l := h3
  subst h3
  obtain ⟨i, rfl⟩ := Int.eq_ofNat_of_zero_le h0
  simp only [ntN] at h1 hx
  have hM : maxI = 9223372036854775807 := rfl
  refine runs_all (l := List.range q.length) (oneKid q) (fun i => ([.ptr 0 0, .sl TCd q, .j (q.length : Int), .j (i : Int)], [some (.box [.sl TCd q])])) (ex := (.exit 2, ([.ptr 0 0], [some (.box [.sl TCd q])]))) (rt := (.ret, ([.b false], []))) (by simp) (by simp) (fun n hn => ?_) ?_ (q.length - i) i (by simp; omega) ex d' hx
  ·have hn : n < q.length := by simpa using hn
   have hr := gs2_round q q q.length n
   rw [ifB_true (dcT (by omega)), ifT_true (by simp only [anE, dcE]; omega)] at hr
   simp only [ntN, gtE hn, ifSome_s, wrap_succ (n := n) (by omega)] at hr
   refine hr.trans ?_
   rw [ifT_true (dcT ⟨by omega, hn, h4⟩), List.getElem_range]
   have e1 : (((kidsAt q n).length : Int) != 1) = ((kidsAt q n).length != 1) := by
    by_cases h : (kidsAt q n).length = 1
    ·rw [h]; rfl
    ·have h2 : ((kidsAt q n).length : Int) ≠ 1 := by omega
     unfold bne
     rw [beq_false_of_ne h, beq_false_of_ne h2]
   rw [e1]
   unfold oneKid
   rw [lab_at hn]
   dsimp only
   cases q[n].1 == 4 <;> cases (kidsAt q n).length != 1 <;> rfl
  ·have hr := gs2_round q q q.length q.length
   rw [ifB_false (dcF (by omega))] at hr
   simp only [List.length_range]
   exact hr
 ·cases h
theorem gs_ok : LoopsOk Tryz.prog Lqa5 (look [(4, gs1E), (12, gs2E)]) 0 (Tryz.f77.body.getD .skip) :=
 LoopsI.loops (.cons (a := body Tryz.f77 0) (by kernel_rfl) gs1_ok (.cons (a := body Tryz.f77 1) (by kernel_rfl) gs2_ok .nil)) (by kernel_rfl)
theorem gs_fun (l : List Ty) (h1 : l.length ≤ 4000000000) (hn : nmL l = true) : funK Tryz.prog Lqa5 (look [(4, gs1E), (12, gs2E)]) Tryz.f77 [.agg [.sl TCd l]] [] = some (.b (kindB l), []) := by
 rw [gs_tree, ← (gsch_eq l).1]
 have hq := gsch_eq l
 have hu0 : upsOK l 0 = true := rfl
 have d0 : decide ((0 : Int) ≤ 0 ∧ 0 ≤ l.length ∧ (l.length : Int) = (l.length : Int) ∧ eqT (List Ty) l l ∧ l.length ≤ 4000000000) = true := dcT ⟨by omega, by omega, rfl, rfl, h1⟩
 rw [d0, hn, hu0, List.drop_zero, List.drop_zero, List.take_length]
 have hle : decide (1 ≤ (l.length : Int) ∧ (l.length : Int) ≤ 30) = decide (1 ≤ l.length ∧ l.length ≤ 30) := decide_eq_decide.2 (by omega)
 rw [hle]
 have hdp : deepL (t2L l 0).kids + (bif holdsK (t2L l 0).lab.1 then 1 else 0) = deepR (t2L l 0) := rose_deep _
 have hd5 : decide ((deepR (t2L l 0) : Int) ≤ 5) = decide (deepR (t2L l 0) ≤ 5) := decide_eq_decide.2 (by omega)
 rw [hdp, hd5]
 unfold gschS
 cases a1 : decide (1 ≤ l.length ∧ l.length ≤ 30) with
 | false => rfl
 | true =>
  have a1 := of_decide_eq_true a1
  cases a2 : (List.range l.length).all (okT l) with
  | false => rfl
  | true =>
   have H := ord_of_S (by omega) a2
   have he := H.end' (by omega)
   have hc := kf_cnt (l := l) (a := 0) (by omega)
   have hk := cnt_kids (t2L l 0)
   rw [he.1, he.2] at hc
   have d1 : decide ((0 : Int) ≤ 0 ∧ 0 < l.length ∧ l.length ≤ 4000000000) = true := dcT ⟨by omega, by omega, h1⟩
   have d2 : decide (cntL (t2L l 0).kids + 1 ≤ 1000000) = true := dcT (by omega)
   rw [d1, d2]
   cases (List.range l.length).all (oneKid l) <;> rfl
theorem sgsch : Contract Tryz.prog 77 (Ent.rd1 gschG).F := by
 refine fun_contract' (KnowsL.cons (enters_fn Tryz.func78 (by kernel_rfl) (by kernel_rfl)) l1In (KnowsL.cons (enters_fn Tryz.func122 (by kernel_rfl) (by kernel_rfl)) l2Part (KnowsL.cons (enters_fn Tryz.func123 (by kernel_rfl) (by kernel_rfl)) l2Kids (KnowsL.cons (enters_fn Tryz.func83 (by kernel_rfl) (by kernel_rfl)) l2Tree (KnowsL.cons (enters_fn Tryz.func124 (by kernel_rfl) (by kernel_rfl)) sdeep KnowsL.nil))))).knows (Λ := (look [(4, gs1E), (12, gs2E)])) Tryz.func77 (c := Tryz.f77.body.getD .skip) (by kernel_rfl) fun vs bs r hq hv hb => ?_
 unfold Ent.F gschG at hq
 dsimp only at hq
 split at hq
 ·rename_i l
  obtain ⟨hc, hx⟩ := need_some hq
  rw [anE] at hc
  exact ⟨gs_ok, (gs_fun l (of_decide_eq_true hc.1) hc.2).trans hx⟩
 ·cases hq

abbrev Nd := Int × List UInt8 × Int × Int × Bool × Unit
def numB (n : Int) : Bool := decide (-1000000000 ≤ n) && decide (n ≤ 1000000000)
def numG : List V → List Blk → Br (V × List (Option Blk))
 | [.i .i64 n], [] => .leaf (.b (numB n), [])
 | _, _ => .no
theorem numOK_fun (n : Int) : funK Tryz.prog (look [(88, .rd1 withinG)]) (look []) Tryz.f206 [.j n] [] = (.leaf (.b (numB n), []) : Br (V × List (Option Blk))).run := by
 have e : funK Tryz.prog (look [(88, .rd1 withinG)]) (look []) Tryz.f206 [.j n] [] = ((some (V.b (decide ((-1000000000 : Int) ≤ n ∧ n ≤ (1000000000 : Int))), [])) : _) := by kernel_rfl
 rw [e]
 clear e
 unfold numB
 rw [Bool.decide_and]
 rfl
theorem numOK : Contract Tryz.prog 206 (Ent.rd1 numG).F := by
 refine fun_contract' (KnowsL.cons (enters_fn Tryz.func88 (by kernel_rfl) (by kernel_rfl)) within KnowsL.nil).knows (Λ := look []) Tryz.func206 (c := Tryz.f206.body.getD .skip) (by kernel_rfl) fun vs bs r' hq hv hb => ?_
 unfold Ent.F numG at hq
 dsimp only at hq
 split at hq
 ·rename_i n
  exact ⟨loopsOk_nil _, (numOK_fun n).trans hq⟩
 ·cases hq
theorem l1Num_fun (n : Int) : funK Tryz.prog (look [(78, .rd1 withinG)]) (look []) Tryz.f165 [.j n] [] = (.leaf (.b (numB n), []) : Br (V × List (Option Blk))).run := by
 have e : funK Tryz.prog (look [(78, .rd1 withinG)]) (look []) Tryz.f165 [.j n] [] = ((some (V.b (decide ((-1000000000 : Int) ≤ n ∧ n ≤ (1000000000 : Int))), [])) : _) := by kernel_rfl
 rw [e]
 clear e
 unfold numB
 rw [Bool.decide_and]
 rfl
theorem l1Num : Contract Tryz.prog 165 (Ent.rd1 numG).F := by
 refine fun_contract' (KnowsL.cons (enters_fn Tryz.func78 (by kernel_rfl) (by kernel_rfl)) l1In KnowsL.nil).knows (Λ := look []) Tryz.func165 (c := Tryz.f165.body.getD .skip) (by kernel_rfl) fun vs bs r' hq hv hb => ?_
 unfold Ent.F numG at hq
 dsimp only at hq
 split at hq
 ·rename_i n
  exact ⟨loopsOk_nil _, (l1Num_fun n).trans hq⟩
 ·cases hq
abbrev VLab := Int × List UInt8 × Int × Bool × Unit
def byR (n : Int) : List (Rose Lab) → Rose Lab
 | [] => .node (0, [], 0, false, 0, ()) []
 | z :: l => if z.lab.2.2.1 = n then z else byR n l
def hasNo (n : Int) (l : List (Rose Lab)) : Bool := l.any fun z => z.lab.2.2.1 == n
def hasVN (n : Int) (l : List (Rose VLab)) : Bool := l.any fun x => x.lab.2.2.1 == n
def mustsB (vs : List (Rose VLab)) (ks : List (Rose Lab)) : Bool := ks.all fun y => !y.lab.2.2.2.1 || hasVN y.lab.2.2.1 vs
def byG : List V → List Blk → Br (V × List (Option Blk))
 | [.agg [.i .i64 y0, .s y1, .i .i64 y2, .b y3, .i .i64 y4, .sl (.rose (.pair (.int .i64) (.pair .str (.pair (.int .i64) (.pair .bool (.pair (.int .i64) .unit)))))) ys], .i .i64 n], [] => .need (decide (ys.length ≤ maxI)) (.br (hasNo n ys) (.leaf (.tup [.agg [.i .i64 (byR n ys).lab.1, .s (byR n ys).lab.2.1, .i .i64 (byR n ys).lab.2.2.1, .b (byR n ys).lab.2.2.2.1, .i .i64 (byR n ys).lab.2.2.2.2.1, .sl (.rose (.pair (.int .i64) (.pair .str (.pair (.int .i64) (.pair .bool (.pair (.int .i64) .unit)))))) (byR n ys).kids], .b true], [])) (.leaf (.tup [.agg [.i .i64 0, .s [], .i .i64 0, .b false, .i .i64 0, .ref 0 0 0], .b false], [some (.row false none (.rose (.pair (.int .i64) (.pair .str (.pair (.int .i64) (.pair .bool (.pair (.int .i64) .unit)))))) [])])))
 | _, _ => .no
def byE : LoopEnt := ⟨22, [1,4,9,10,11], [4], [4,5], fun
 | ([.i .i64 n, .ptr 0 0, .sl (.rose (.pair (.int .i64) (.pair .str (.pair (.int .i64) (.pair .bool (.pair (.int .i64) .unit)))))) ks, .i .i64 k, .i .i64 i], [some (.box [.i .i64 0, .s [], .i .i64 0, .b false, .i .i64 0, .ref 1 0 0]), some (.row false none (.rose (.pair (.int .i64) (.pair .str (.pair (.int .i64) (.pair .bool (.pair (.int .i64) .unit)))))) [])]) => .need (decide (0 ≤ i ∧ i.toNat ≤ ks.length ∧ k = ks.length ∧ ks.length ≤ maxI)) (.br (hasNo n (ks.drop i.toNat)) (.leaf (.ret, ([.ptr 0 0, .b true], [some (.box [.i .i64 (byR n (ks.drop i.toNat)).lab.1, .s (byR n (ks.drop i.toNat)).lab.2.1, .i .i64 (byR n (ks.drop i.toNat)).lab.2.2.1, .b (byR n (ks.drop i.toNat)).lab.2.2.2.1, .i .i64 (byR n (ks.drop i.toNat)).lab.2.2.2.2.1, .sl (.rose (.pair (.int .i64) (.pair .str (.pair (.int .i64) (.pair .bool (.pair (.int .i64) .unit)))))) (byR n (ks.drop i.toNat)).kids])]))) (.leaf (.exit 0, ([.ptr 0 0], [some (.box [.i .i64 0, .s [], .i .i64 0, .b false, .i .i64 0, .ref 1 0 0]), some (.row false none (.rose (.pair (.int .i64) (.pair .str (.pair (.int .i64) (.pair .bool (.pair (.int .i64) .unit)))))) [])]))))
 | _ => .no⟩
def mustsG : List V → List Blk → Br (V × List (Option Blk))
 | [.agg [.i .i64 x0, .s x1, .i .i64 x2, .b x3, .sl (.rose (.pair (.int .i64) (.pair .str (.pair (.int .i64) (.pair .bool .unit))))) xs], .agg [.i .i64 y0, .s y1, .i .i64 y2, .b y3, .i .i64 y4, .sl (.rose (.pair (.int .i64) (.pair .str (.pair (.int .i64) (.pair .bool (.pair (.int .i64) .unit)))))) ys]], [] => .need (decide (ys.length ≤ maxI ∧ xs.length ≤ maxI)) (.leaf (.b (mustsB xs ys), []))
 | _, _ => .no
def mu1E : LoopEnt := ⟨39, [2,11,12,13], [], [4], fun
 | ([.ptr 0 0, .sl (.rose (.pair (.int .i64) (.pair .str (.pair (.int .i64) (.pair .bool (.pair (.int .i64) .unit)))))) ks, .i .i64 k, .i .i64 i], [some (.box [.i .i64 x0, .s x1, .i .i64 x2, .b x3, .sl (.rose (.pair (.int .i64) (.pair .str (.pair (.int .i64) (.pair .bool .unit))))) xs])]) => .need (decide (0 ≤ i ∧ i.toNat ≤ ks.length ∧ k = ks.length ∧ ks.length ≤ maxI ∧ xs.length ≤ maxI)) (.br (mustsB xs (ks.drop i.toNat)) (.leaf (.exit 0, ([], []))) (.leaf (.ret, ([.b false], []))))
 | _ => .no⟩
def mu2E : LoopEnt := ⟨39, [2,6,7,11,12,13,21,22,23], [2,7,11,12,13], [], fun
 | ([.ptr 0 0, .ptr 1 0, .b f, .sl (.rose (.pair (.int .i64) (.pair .str (.pair (.int .i64) (.pair .bool (.pair (.int .i64) .unit)))))) ks, .i .i64 k, .i .i64 i, .sl (.rose (.pair (.int .i64) (.pair .str (.pair (.int .i64) (.pair .bool .unit))))) us, .i .i64 m, .i .i64 j], [some (.box [.i .i64 x0, .s x1, .i .i64 x2, .b x3, .sl (.rose (.pair (.int .i64) (.pair .str (.pair (.int .i64) (.pair .bool .unit))))) xs]), some (.box [.i .i64 y0, .s y1, .i .i64 y2, .b y3, .i .i64 y4, .sl (.rose (.pair (.int .i64) (.pair .str (.pair (.int .i64) (.pair .bool (.pair (.int .i64) .unit)))))) ys])]) => .need (decide (0 ≤ j ∧ j.toNat ≤ us.length ∧ m = us.length ∧ us.length ≤ maxI)) (.leaf (.exit 2, ([.ptr 0 0, .b (f || hasVN y2 (us.drop j.toNat)), .sl (.rose (.pair (.int .i64) (.pair .str (.pair (.int .i64) (.pair .bool (.pair (.int .i64) .unit)))))) ks, .i .i64 k, .i .i64 i], [some (.box [.i .i64 x0, .s x1, .i .i64 x2, .b x3, .sl (.rose (.pair (.int .i64) (.pair .str (.pair (.int .i64) (.pair .bool .unit))))) xs])])))
 | _ => .no⟩

theorem by_round (n : Int) (ks : List (Rose Lab)) (k i : Int) : roundK Tryz.prog (look []) (look [(2, byE)]) 0 (body Tryz.f127 0) byE ([.j n, .ptr 0 0, .sl (.rose LCd) ks, .j k, .j i], [some (.box [.j 0, .s [], .j 0, .b false, .j 0, .ref 1 0 0]), some (.row false none (.rose LCd) [])]) =
 ((ifB (decide (i < k)) (ifT (decide ((0 : Int) ≤ i) && decide (i < (↑ks.length : Int))) (ifSome ks[i.toNat]? fun z => ifB ((Rose.lab z).snd.snd.fst == n) (some (Ex.ret,
 [V.ptr 0 0, V.b true], [some (Blk.box [V.j (Rose.lab z).fst, V.s (Rose.lab z).snd.fst, V.j (Rose.lab z).snd.snd.fst, V.b (Rose.lab z).snd.snd.snd.fst, V.i .i64
 (Rose.lab z).snd.snd.snd.snd.fst, V.sl LCd.rose (Rose.kids z)])])) (some (Ex.normal, [V.j n, V.ptr 0 0, V.sl LCd.rose ks, V.j k, V.j (IntKind.i64.wrap (i +
 (1 : Int)))], [some (Blk.box [V.j 0, V.s (nilT UInt8), V.j 0, V.b false, V.j 0, V.ref 1 0 0]), some (Blk.row false none LCd.rose (nilT LCd.rose.den))]))))
 (some (Ex.exit 0, [V.ptr 0 0], [some (Blk.box [V.j 0, V.s (nilT UInt8), V.j 0, V.b false, V.j 0, V.ref 1 0 0]), some (Blk.row false none LCd.rose (nilT
 LCd.rose.den))]))) : _) := by kernel_rfl
theorem by_tree (y0 : Int) (y1 : List UInt8) (y2 : Int) (y3 : Bool) (y4 : Int) (ys : List (Rose Lab)) (n : Int) : funN Tryz.prog (look []) (look [(2, byE)]) Tryz.f127 [.agg [.j y0, .s y1, .j y2, .b y3, .j y4, .sl (.rose LCd) ys], .j n] [] =
 ((ifT (decide ((0 : Int) ≤ (0 : Int) ∧ (0 : Nat) ≤ ys.length ∧ (↑ys.length : Int) = (↑ys.length : Int) ∧ ys.length ≤ maxI)) (ifB (hasNo n (List.drop (0 : Nat) ys)) (some
 (V.tup [V.agg [V.j (byR n (List.drop (0 : Nat) ys)).lab.fst, V.s (byR n (List.drop (0 : Nat) ys)).lab.snd.fst, V.j (byR n (List.drop (0 : Nat)
 ys)).lab.snd.snd.fst, V.b (byR n (List.drop (0 : Nat) ys)).lab.snd.snd.snd.fst, V.j (byR n (List.drop (0 : Nat) ys)).lab.snd.snd.snd.snd.fst, V.sl LCd.rose (byR n
 (List.drop (0 : Nat) ys)).kids], V.b true], [])) (some (V.tup [V.agg [V.j 0, V.s (nilT UInt8), V.j 0, V.b false, V.j 0, V.ref 0 0 0], V.b false], [some
 (Blk.row false none LCd.rose (nilT LCd.rose.den))])))) : _) := by kernel_rfl
theorem by_loop (n : Int) (ks : List (Rose Lab)) (hm : ks.length ≤ maxI) : ∀ (j i : Nat), i + j = ks.length → ∀ ex d, (Br.br (hasNo n (ks.drop i)) (.leaf (.ret, ([.ptr 0 0, .b true], [some (.box [.j (byR n (ks.drop i)).lab.1, .s (byR n (ks.drop i)).lab.2.1, .j (byR n (ks.drop i)).lab.2.2.1, .b (byR n (ks.drop i)).lab.2.2.2.1, .j (byR n (ks.drop i)).lab.2.2.2.2.1, .sl (.rose LCd) (byR n (ks.drop i)).kids])]))) (.leaf (.exit 0, ([.ptr 0 0], [some (.box [.j 0, .s [], .j 0, .b false, .j 0, .ref 1 0 0]), some (.row false none (.rose LCd) [])]))) : Br (Ex × Dt)).run = some (ex, d) →
  Runs Tryz.prog (look []) (look [(2, byE)]) 0 (body Tryz.f127 0) byE ([.j n, .ptr 0 0, .sl (.rose LCd) ks, .j (ks.length : Int), .j (i : Int)], [some (.box [.j 0, .s [], .j 0, .b false, .j 0, .ref 1 0 0]), some (.row false none (.rose LCd) [])]) ex d
 | 0, i, hi, ex, d, h => by
  have hr := by_round n ks ks.length i
  rw [ifB_false (dcF (by omega))] at hr
  rw [List.drop_eq_nil_of_le (by omega)] at h
  have h8 := leaf_some h
  obtain ⟨rfl, rfl⟩ := Prod.mk.inj h8
  exact .stop _ _ _ hr (by simp)
 | j + 1, i, hi, ex, d, h => by
  have hl : i < ks.length := by omega
  have hM : maxI = 9223372036854775807 := rfl
  have hr := by_round n ks ks.length i
  rw [ifB_true (dcT (by omega)), ifT_true (by simp only [anE, dcE]; omega)] at hr
  simp only [ntN, gtE hl, ifSome_s, wrap_succ (n := i) (by omega)] at hr
  rw [List.drop_eq_getElem_cons hl] at h
  unfold hasNo at h
  rw [List.any_cons, byR] at h
  by_cases q : ks[i].lab.2.2.1 = n
  ·have qb : (ks[i].lab.2.2.1 == n) = true := by rw [q]; exact beq_self_eq_true _
   rw [qb, Bool.true_or, if_pos q] at h
   rw [qb, ifB_t] at hr
   have h8 := leaf_some h
   obtain ⟨rfl, rfl⟩ := Prod.mk.inj h8
   exact .stop _ _ _ hr (by simp)
  ·rw [beq_false_of_ne q, Bool.false_or, if_neg q] at h
   rw [beq_false_of_ne q, ifB_f] at hr
   exact .step _ _ _ _ hr (by_loop n ks hm j (i + 1) (by omega) ex d h)
theorem by_ok : LoopsOk Tryz.prog (look []) (look [(2, byE)]) 0 (Tryz.f127.body.getD .skip) := by
 refine loopsOk_one (a := body Tryz.f127 0) (by kernel_rfl) fun d ex d' h => ?_
 unfold byE at h
 dsimp only at h
 split at h
 ·rename_i n ks k i
  obtain ⟨hc, hx⟩ := need_some h
  clear h
  obtain ⟨h0, h1, rfl, h3⟩ := of_decide_eq_true hc
  obtain ⟨i, rfl⟩ := Int.eq_ofNat_of_zero_le h0
  simp only [ntN] at h1 hx
  exact by_loop n ks h3 (ks.length - i) i (by omega) ex d' hx
 ·cases h
theorem l2By : Contract Tryz.prog 127 (Ent.rd1 byG).F := by
 refine fun_contractN' KnowsL.nil.knows (Λ := (look [(2, byE)])) Tryz.func127 (c := Tryz.f127.body.getD .skip) (by kernel_rfl) fun vs bs r hq hv hb => ?_
 unfold Ent.F byG at hq
 dsimp only at hq
 split at hq
 ·rename_i y0 y1 y2 y3 y4 ys n
  obtain ⟨hc, hx⟩ := need_some hq
  refine ⟨by_ok, Eq.trans ?_ hx⟩
  rw [by_tree, ifT_true (dcT ⟨by omega, by omega, rfl, of_decide_eq_true hc⟩), List.drop_zero]
  cases hasNo n ys <;> rfl
 ·cases hq
theorem mu1_round (x0 : Int) (x1 : List UInt8) (x2 : Int) (x3 : Bool) (xs : List (Rose VLab)) (ks : List (Rose Lab)) (k i : Int) : roundK Tryz.prog (look []) (look [(2, mu1E), (6, mu2E)]) 0 (body Tryz.f183 0) mu1E ([.ptr 0 0, .sl (.rose LCd) ks, .j k, .j i], [some (.box [.j x0, .s x1, .j x2, .b x3, .sl (.rose VCd) xs])]) =
 ((ifB (decide (i < k)) (ifT (decide ((0 : Int) ≤ i) && decide (i < (↑ks.length : Int))) (ifSome ks[i.toNat]? fun z => ifT (decide ((0 : Int) ≤ (0 : Int) ∧ (0 : Nat) ≤
 xs.length ∧ (↑xs.length : Int) = (↑xs.length : Int) ∧ xs.length ≤ maxI)) (ifB (!(!(Rose.lab z).snd.snd.snd.fst || hasVN (Rose.lab z).snd.snd.fst (List.drop (0 : Nat)
 xs))) (some (Ex.ret, [V.b false], [])) (some (Ex.normal, [V.ptr 0 0, V.sl LCd.rose ks, V.j k, V.j (IntKind.i64.wrap (i + (1 : Int)))], [some (Blk.box [V.i .i64
 x0, V.s x1, V.j x2, V.b x3, V.sl VCd.rose xs])]))))) (some (Ex.exit 0, [], []))) : _) := by kernel_rfl
theorem mu2_round (x0 : Int) (x1 : List UInt8) (x2 : Int) (x3 : Bool) (xs : List (Rose VLab)) (y0 : Int) (y1 : List UInt8) (y2 : Int) (y3 : Bool) (y4 : Int) (ys : List (Rose Lab)) (f : Bool) (ks : List (Rose Lab)) (k i : Int) (us : List (Rose VLab)) (m j : Int) : roundK Tryz.prog (look []) (look [(2, mu1E), (6, mu2E)]) 0 (body Tryz.f183 1) mu2E ([.ptr 0 0, .ptr 1 0, .b f, .sl (.rose LCd) ks, .j k, .j i, .sl (.rose VCd) us, .j m, .j j], [some (.box [.j x0, .s x1, .j x2, .b x3, .sl (.rose VCd) xs]), some (.box [.j y0, .s y1, .j y2, .b y3, .j y4, .sl (.rose LCd) ys])]) =
 ((ifB (decide (j < m)) (ifT (decide ((0 : Int) ≤ j) && decide (j < (↑us.length : Int))) (ifSome us[j.toNat]? fun z => ifB f (some (Ex.normal, [V.ptr 0 0, V.ptr 1 0, V.b
 true, V.sl LCd.rose ks, V.j k, V.j i, V.sl VCd.rose us, V.j m, V.j (IntKind.i64.wrap (j + (1 : Int)))], [some (Blk.box [V.j x0, V.s x1, V.i .i64
 x2, V.b x3, V.sl VCd.rose xs]), some (Blk.box [V.j y0, V.s y1, V.j y2, V.b y3, V.j y4, V.sl LCd.rose ys])])) (some (Ex.normal, [V.ptr 0 0, V.ptr 1 0, V.b
 ((Rose.lab z).snd.snd.fst == y2), V.sl LCd.rose ks, V.j k, V.j i, V.sl VCd.rose us, V.j m, V.j (IntKind.i64.wrap (j + (1 : Int)))], [some (Blk.box
 [V.j x0, V.s x1, V.j x2, V.b x3, V.sl VCd.rose xs]), some (Blk.box [V.j y0, V.s y1, V.j y2, V.b y3, V.j y4, V.sl LCd.rose ys])])))) (some
 (Ex.exit 2, [V.ptr 0 0, V.b f, V.sl LCd.rose ks, V.j k, V.j i], [some (Blk.box [V.j x0, V.s x1, V.j x2, V.b x3, V.sl VCd.rose xs])]))) : _) := by kernel_rfl
theorem mu_tree (x0 : Int) (x1 : List UInt8) (x2 : Int) (x3 : Bool) (xs : List (Rose VLab)) (y0 : Int) (y1 : List UInt8) (y2 : Int) (y3 : Bool) (y4 : Int) (ys : List (Rose Lab)) : funK Tryz.prog (look []) (look [(2, mu1E), (6, mu2E)]) Tryz.f183 [.agg [.j x0, .s x1, .j x2, .b x3, .sl (.rose VCd) xs], .agg [.j y0, .s y1, .j y2, .b y3, .j y4, .sl (.rose LCd) ys]] [] =
 ((ifT (decide ((0 : Int) ≤ (0 : Int) ∧ (0 : Nat) ≤ ys.length ∧ (↑ys.length : Int) = (↑ys.length : Int) ∧ ys.length ≤ maxI ∧ xs.length ≤ maxI)) (ifB (mustsB xs (List.drop (0
 : Nat) ys)) (some (V.b true, [])) (some (V.b false, [])))) : _) := by kernel_rfl
theorem mu1_ok : ∀ d e d', (mu1E.L d).run = some (e, d') → Runs Tryz.prog (look []) (look [(2, mu1E), (6, mu2E)]) 0 (body Tryz.f183 0) mu1E d e d' := fun d ex d' h => by
 unfold mu1E at h
 dsimp only at h
 split at h
 ·rename_i ks k i x0 x1 x2 x3 xs
  obtain ⟨hc, hx⟩ := need_some h
  clear h
  obtain ⟨h0, h1, rfl, h3, h4⟩ := of_decide_eq_true hc
  obtain ⟨i, rfl⟩ := Int.eq_ofNat_of_zero_le h0
  simp only [ntN] at h1 hx
  have hM : maxI = 9223372036854775807 := rfl
  refine runs_all (l := ks) (fun y : Rose Lab => !y.lab.2.2.2.1 || hasVN y.lab.2.2.1 xs) (fun i => ([.ptr 0 0, .sl (.rose LCd) ks, .j (ks.length : Int), .j (i : Int)], [some (.box [.j x0, .s x1, .j x2, .b x3, .sl (.rose VCd) xs])])) (ex := (.exit 0, ([], []))) (rt := (.ret, ([.b false], []))) (by simp) (by simp) (fun n hn => ?_) ?_ (ks.length - i) i (by omega) ex d' hx
  ·have hr := mu1_round x0 x1 x2 x3 xs ks ks.length n
   rw [ifB_true (dcT (by omega)), ifT_true (by simp only [anE, dcE]; omega)] at hr
   rw [ntN, gtE hn, ifSome_s, wrap_succ (n := n) (by omega), ifT_true (dcT ⟨by omega, by omega, rfl, h4⟩), List.drop_zero] at hr
   refine hr.trans ?_
   cases ks[n].lab.2.2.2.1 <;> cases hasVN ks[n].lab.2.2.1 xs <;> rfl
  ·have hr := mu1_round x0 x1 x2 x3 xs ks ks.length ks.length
   rw [ifB_false (dcF (by omega))] at hr
   exact hr
 ·cases h
theorem mu2_loop (x0 : Int) (x1 : List UInt8) (x2 : Int) (x3 : Bool) (xs : List (Rose VLab)) (y0 : Int) (y1 : List UInt8) (y2 : Int) (y3 : Bool) (y4 : Int) (ys : List (Rose Lab)) (ks : List (Rose Lab)) (k i : Int) (us : List (Rose VLab)) (hm : us.length ≤ maxI) : ∀ (c j : Nat) (f : Bool), j + c = us.length →
  Runs Tryz.prog (look []) (look [(2, mu1E), (6, mu2E)]) 0 (body Tryz.f183 1) mu2E ([.ptr 0 0, .ptr 1 0, .b f, .sl (.rose LCd) ks, .j k, .j i, .sl (.rose VCd) us, .j (us.length : Int), .j (j : Int)], [some (.box [.j x0, .s x1, .j x2, .b x3, .sl (.rose VCd) xs]), some (.box [.j y0, .s y1, .j y2, .b y3, .j y4, .sl (.rose LCd) ys])]) (.exit 2) ([.ptr 0 0, .b (f || hasVN y2 (us.drop j)), .sl (.rose LCd) ks, .j k, .j i], [some (.box [.j x0, .s x1, .j x2, .b x3, .sl (.rose VCd) xs])])
 | 0, j, f, hj => by
  have hr := mu2_round x0 x1 x2 x3 xs y0 y1 y2 y3 y4 ys f ks k i us us.length j
  rw [ifB_false (dcF (by omega))] at hr
  rw [List.drop_eq_nil_of_le (by omega), show hasVN y2 [] = false from rfl, Bool.or_false]
  exact .stop _ _ _ hr (by simp)
 | c + 1, j, f, hj => by
  have hl : j < us.length := by omega
  have hM : maxI = 9223372036854775807 := rfl
  have hr := mu2_round x0 x1 x2 x3 xs y0 y1 y2 y3 y4 ys f ks k i us us.length j
  rw [ifB_true (dcT (by omega)), ifT_true (by simp only [anE, dcE]; omega)] at hr
  simp only [ntN, gtE hl, ifSome_s, wrap_succ (n := j) (by omega)] at hr
  have ih := mu2_loop x0 x1 x2 x3 xs y0 y1 y2 y3 y4 ys ks k i us hm c (j + 1) (f || us[j].lab.2.2.1 == y2) (by omega)
  rw [List.drop_eq_getElem_cons hl, show hasVN y2 (us[j] :: us.drop (j + 1)) = (us[j].lab.2.2.1 == y2 || hasVN y2 (us.drop (j + 1))) from rfl, ← Bool.or_assoc]
  refine .step _ _ _ _ (hr.trans ?_) ih
  cases f <;> rfl
theorem mu2_ok : ∀ d e d', (mu2E.L d).run = some (e, d') → Runs Tryz.prog (look []) (look [(2, mu1E), (6, mu2E)]) 0 (body Tryz.f183 1) mu2E d e d' := fun d ex d' h => by
 unfold mu2E at h
 dsimp only at h
 split at h
 ·rename_i f ks k i us m j x0 x1 x2 x3 xs y0 y1 y2 y3 y4 ys
  obtain ⟨hc, hx⟩ := need_some h
  clear h
  obtain ⟨h0, h1, rfl, h3⟩ := of_decide_eq_true hc
  obtain ⟨j, rfl⟩ := Int.eq_ofNat_of_zero_le h0
  simp only [ntN] at h1 hx
  have h8 := leaf_some hx
  obtain ⟨rfl, rfl⟩ := Prod.mk.inj h8
  exact mu2_loop x0 x1 x2 x3 xs y0 y1 y2 y3 y4 ys ks k i us h3 (us.length - j) j f (by omega)
 ·cases h
theorem l4Musts : Contract Tryz.prog 183 (Ent.rd1 mustsG).F := by
 refine fun_contract' KnowsL.nil.knows (Λ := (look [(2, mu1E), (6, mu2E)])) Tryz.func183 (c := Tryz.f183.body.getD .skip) (by kernel_rfl) fun vs bs r hq hv hb => ?_
 unfold Ent.F mustsG at hq
 dsimp only at hq
 split at hq
 ·rename_i x0 x1 x2 x3 xs y0 y1 y2 y3 y4 ys
  obtain ⟨hc, hx⟩ := need_some hq
  obtain ⟨h1, h2⟩ := of_decide_eq_true hc
  refine ⟨LoopsI.loops (.cons (a := body Tryz.f183 0) (by kernel_rfl) mu1_ok (.cons (a := body Tryz.f183 1) (by kernel_rfl) mu2_ok .nil)) (by kernel_rfl), Eq.trans ?_ hx⟩
  rw [mu_tree, ifT_true (dcT ⟨by omega, by omega, rfl, h1, h2⟩), List.drop_zero]
  cases mustsB xs ys <;> rfl
 ·cases hq

def hd0 : List (Rose Lab) → Rose Lab
 | [] => .node (0, [], 0, false, 0, ()) []
 | z :: _ => z
theorem rose_eta' (z : Rose Lab) : Rose.node (z.lab.1, z.lab.2.1, z.lab.2.2.1, z.lab.2.2.2.1, z.lab.2.2.2.2.1, ()) z.kids = z := by
 obtain ⟨⟨_, _, _, _, _, ⟨⟩⟩, ks⟩ := z; rfl
theorem vrose_eta' (z : Rose VLab) : Rose.node (z.lab.1, z.lab.2.1, z.lab.2.2.1, z.lab.2.2.2.1, ()) z.kids = z := by
 obtain ⟨⟨_, _, _, _, ⟨⟩⟩, ks⟩ := z; rfl
instance decNd0 : DecidableEq (Int × Bool × Unit) := inferInstance
instance decNd : DecidableEq Nd := inferInstance
def KR (y z : Rose Lab) : Prop := y.lab.2.2.1 < z.lab.2.2.1

theorem hasNo_iff {n : Int} {ks : List (Rose Lab)} : hasNo n ks = true ↔ ∃ y ∈ ks, y.lab.2.2.1 = n := by
 unfold hasNo
 rw [List.any_eq_true]
 constructor
 ·rintro ⟨y, h1, h2⟩; exact ⟨y, h1, by simpa using h2⟩
 ·rintro ⟨y, h1, h2⟩; exact ⟨y, h1, by simpa using h2⟩
theorem hasNo_ne {n : Int} {z : Rose Lab} {ks : List (Rose Lab)} (h : n ≠ z.lab.2.2.1) : hasNo n (z :: ks) = hasNo n ks ∧ byR n (z :: ks) = byR n ks := by
 constructor
 ·unfold hasNo
  rw [List.any_cons, beq_false_of_ne (Ne.symm h), Bool.false_or]
 ·rw [byR, if_neg (Ne.symm h)]
end Go.Proofs.YtcjnmdcagfgjoaaGreatDoor.Den
