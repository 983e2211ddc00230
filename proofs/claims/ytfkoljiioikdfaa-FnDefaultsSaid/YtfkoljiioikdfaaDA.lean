/- What functions of the program do, by the machine: Base Sch1 Sch2 Sch3 Sch4 Sch5 Sch6 Sch7 Sch8 Sch9 Sch10 Sch11 Sch12 Sch13 Cur Cur2 Ex. -/
import Derived.Test.YtfkoljiioikdfaaDen4
import Derived.KernelRfl
import Derived.Test.YtfkoljiioikdfaaRows
namespace Go.Proofs.Ytfkoljiioikdfaa.Den
open Go.Proofs
set_option maxRecDepth 100000
abbrev LCd : Cd := .pair (.int .i64) (.pair .str (.pair (.int .i64) (.pair .bool (.pair (.int .i64) .unit))))
abbrev TCd : Cd := .pair (.int .i64) (.pair .str (.pair (.int .i64) (.pair .bool (.pair (.int .i64) (.pair (.int .i64) .unit)))))
abbrev NCd : Cd := .pair (.int .i64) (.pair .str (.pair (.int .i64) (.pair (.int .i64) (.pair .bool .unit))))
abbrev VCd : Cd := .pair (.int .i64) (.pair .str (.pair (.int .i64) (.pair .bool .unit)))
def withinG : List V → List Blk → Br (V × List (Option Blk))
  | [.i .i64 a, .i .i64 b, .i .i64 c], [] => .leaf (.b (decide (b ≤ a ∧ a ≤ c)), [])
  | _, _ => .no
theorem within_fun (a b c : Int) : funK Try.prog (look []) (look []) Try.f66 [.i .i64 a, .i .i64 b, .i .i64 c] [] = (.leaf (.b (decide (b ≤ a ∧ a ≤ c)), []) : Br (V × List (Option Blk))).run := by
  have e : funK Try.prog (look []) (look []) Try.f66 [.i .i64 a, .i .i64 b, .i .i64 c] [] = ((ifB (decide (a ≥ b)) (some (V.b (decide (a ≤ c)), [])) (some (V.b false, []))) : _) := by kernel_rfl
  rw [e]
  clear e
  by_cases q1 : a ≥ b <;> by_cases q2 : a ≤ c <;> simp [q1, q2, Br.run] <;> omega
theorem within : Contract Try.prog 66 (Ent.rd1 withinG).F := by
  refine fun_contract' KnowsL.nil.knows (Λ := look []) Try.func66 (c := Try.f66.body.getD .skip) (by kernel_rfl) fun vs bs r' hq hv hb => ?_
  unfold Ent.F withinG at hq
  dsimp only at hq
  split at hq
  · rename_i a b c
    exact ⟨loopsOk_nil _, (within_fun a b c).trans hq⟩
  · cases hq
theorem l1In_fun (a b c : Int) : funK Try.prog (look []) (look []) Try.f111 [.i .i64 a, .i .i64 b, .i .i64 c] [] = (.leaf (.b (decide (b ≤ a ∧ a ≤ c)), []) : Br (V × List (Option Blk))).run := by
  have e : funK Try.prog (look []) (look []) Try.f111 [.i .i64 a, .i .i64 b, .i .i64 c] [] = ((ifB (decide (a ≥ b)) (some (V.b (decide (a ≤ c)), [])) (some (V.b false, []))) : _) := by kernel_rfl
  rw [e]
  clear e
  by_cases q1 : a ≥ b <;> by_cases q2 : a ≤ c <;> simp [q1, q2, Br.run] <;> omega
theorem l1In : Contract Try.prog 111 (Ent.rd1 withinG).F := by
  refine fun_contract' KnowsL.nil.knows (Λ := look []) Try.func111 (c := Try.f111.body.getD .skip) (by kernel_rfl) fun vs bs r' hq hv hb => ?_
  unfold Ent.F withinG at hq
  dsimp only at hq
  split at hq
  · rename_i a b c
    exact ⟨loopsOk_nil _, (l1In_fun a b c).trans hq⟩
  · cases hq
/-- A type's kind, name, number, whether it must be, its most. -/
abbrev Lab := Int × List UInt8 × Int × Bool × Int × Unit
/-- The same with the place of the type around it, ahead of the last. -/
abbrev Ty := Int × List UInt8 × Int × Bool × Int × Int × Unit
def lowB (b : UInt8) : Bool := decide (97 ≤ b.toNat) && decide (b.toNat ≤ 122)
def nameB (s : List UInt8) : Bool := s.all lowB && (decide (1 ≤ s.length) && decide (s.length ≤ 10))
def holdsK (k : Int) : Bool := k == 4 || k == 5
/-- Whether a label fits as a part of a type of kind k. -/
def partB (k : Int) (x : Lab) : Bool := if k = 5 then nameB x.2.1 && (decide (1 ≤ x.2.2.1) && decide (x.2.2.1 ≤ 30)) else x.2.1 == [] && x.2.2.1 == 0 && !x.2.2.2.1
def nameG : List V → List Blk → Br (V × List (Option Blk))
  | [.s s], [] => .need (decide (s.length ≤ maxI)) (.leaf (.b (nameB s), []))
  | _, _ => .no
def kholdsG : List V → List Blk → Br (V × List (Option Blk))
  | [.tp (.pair (.int .i64) (.pair .str (.pair (.int .i64) (.pair .bool (.pair (.int .i64) .unit))))) z 0], [] => .leaf (.b (holdsK z.lab.1), [])
  | _, _ => .no
def l2HoldsG : List V → List Blk → Br (V × List (Option Blk))
  | [.i .i64 k], [] => .leaf (.b (holdsK k), [])
  | _, _ => .no
def partOfG : List V → List Blk → Br (V × List (Option Blk))
  | [.tp (.pair (.int .i64) (.pair .str (.pair (.int .i64) (.pair .bool (.pair (.int .i64) .unit))))) z 0, .i .i64 k], [] => .need (decide (z.lab.2.1.length ≤ maxI)) (.leaf (.b (partB k z.lab), []))
  | _, _ => .no
def inameE : LoopEnt := ⟨23, [0,5,6], [0], [2], fun
  | ([.s s, .i .i64 m, .i .i64 i], []) => .need (decide (0 ≤ i ∧ i.toNat ≤ s.length ∧ s.length ≤ maxI ∧ m = s.length)) (.br ((s.drop i.toNat).all lowB) (.leaf (.exit 0, ([.s s], []))) (.leaf (.ret, ([.b false], []))))
  | _ => .no⟩
def snameE : LoopEnt := ⟨23, [0,3], [0], [2], fun
  | ([.s s, .i .i64 i], []) => .need (decide (0 ≤ i ∧ i.toNat ≤ s.length ∧ s.length ≤ maxI)) (.br ((s.drop i.toNat).all lowB) (.leaf (.exit 0, ([.s s], []))) (.leaf (.ret, ([.b false], []))))
  | _ => .no⟩
theorem iname_round (s : List UInt8) (m i : Int) : roundK Try.prog (look [(66, .rd1 withinG)]) (look [(2, inameE)]) 0 (body Try.f212 0) inameE ([.s s, .i .i64 m, .i .i64 i], []) =
  ((ifB (decide (i < m)) (ifT (decide ((0 : Int) ≤ i)) (ifSome s[i.toNat]? fun z => ifB (decide ((↑z.toNat : Int) < (97 : Int))) (some (Ex.ret, [V.b false], [])) (ifT (decide
 ((0 : Int) ≤ i)) (ifSome s[i.toNat]? fun z => ifB (decide ((↑z.toNat : Int) > (122 : Int))) (some (Ex.ret, [V.b false], [])) (some (Ex.normal, [V.s s, V.i .i64 m, V.i
 .i64 (IntKind.i64.wrap (i + (1 : Int)))], [])))))) (some (Ex.exit 0, [V.s s], []))) : _) := by kernel_rfl
theorem iname_ok : LoopsOk Try.prog (look [(66, .rd1 withinG)]) (look [(2, inameE)]) 0 (Try.f212.body.getD .skip) := by
  refine loopsOk_one (a := body Try.f212 0) (by kernel_rfl) fun d e d' h => ?_
  unfold inameE at h
  dsimp only at h
  split at h
  · rename_i s m i
    obtain ⟨hc, hx⟩ := need_some h
    clear h
    obtain ⟨h0, h1, h2, rfl⟩ := of_decide_eq_true hc
    obtain ⟨i, rfl⟩ := Int.eq_ofNat_of_zero_le h0
    rw [Int.toNat_natCast] at h1 hx
    refine runs_all (l := s) lowB (fun i => ([.s s, .i .i64 (↑s.length : Int), .i .i64 (i : Int)], [])) (ex := (.exit 0, ([.s s], []))) (rt := (.ret, ([.b false], []))) (by simp) (by simp) (fun i hi => ?_) ?_ (s.length - i) i (by omega) e d' hx
    · have hr := iname_round s s.length i
      rw [ifB_true (decide_eq_true (by omega))] at hr
      simp only [Int.toNat_natCast, List.getElem?_eq_getElem hi, ifSome_s, wrap_succ (n := i) (by omega)] at hr
      refine hr.trans ?_
      have hb := s[i].toNat_lt
      have hz : (0 : Int) ≤ (i : Int) := by omega
      simp only [hz, decide_true, ifT_t]
      unfold lowB
      generalize s[i].toNat = b at *
      have c1 : decide ((b : Int) < 97) = !decide (97 ≤ b) := by rw [← decide_not]; exact decide_eq_decide.2 (by omega)
      have c2 : decide ((b : Int) > 122) = !decide (b ≤ 122) := by rw [← decide_not]; exact decide_eq_decide.2 (by omega)
      simp only [c1, c2]
      cases decide (97 ≤ b) <;> cases decide (b ≤ 122) <;> rfl
    · have hr := iname_round s s.length s.length
      rw [ifB_false (decide_eq_false (by omega))] at hr
      exact hr
  · cases h
theorem iname_fun (s : List UInt8) (hc : s.length ≤ maxI) : funK Try.prog (look [(66, .rd1 withinG)]) (look [(2, inameE)]) Try.f212 [.s s] [] = some (.b (nameB s), []) := by
  have e : funK Try.prog (look [(66, .rd1 withinG)]) (look [(2, inameE)]) Try.f212 [.s s] [] = ((ifT (decide ((0 : Int) ≤ (0 : Int) ∧ (0 : Nat) ≤ s.length ∧ s.length ≤ maxI ∧ (↑s.length : Int) = (↑s.length : Int))) (ifB ((List.drop (0 : Nat) s).all lowB) (some (V.b
 (decide ((1 : Int) ≤ (↑s.length : Int) ∧ (↑s.length : Int) ≤ (10 : Int))), [])) (some (V.b false, [])))) : _) := by kernel_rfl
  rw [e]
  clear e
  have hM : maxI = 9223372036854775807 := rfl
  rw [ifT_true (decide_eq_true (by simp; try omega))]
  simp only [Int.toNat_zero, List.drop_zero]
  unfold nameB
  have d1 : decide (1 ≤ (s.length : Int) ∧ (s.length : Int) ≤ 10) = (decide (1 ≤ s.length) && decide (s.length ≤ 10)) := by
    rw [← Bool.decide_and]; exact decide_eq_decide.2 (by omega)
  cases s.all lowB
  · rfl
  · rw [ifB_t, d1]; rfl
theorem iname : Contract Try.prog 212 (Ent.rd1 nameG).F := by
  refine fun_contract' (KnowsL.cons (enters_fn Try.func66 (by kernel_rfl) (by kernel_rfl)) within KnowsL.nil).knows (Λ := (look [(2, inameE)])) Try.func212 (c := Try.f212.body.getD .skip) (by kernel_rfl) fun vs bs r hq hv hb => ?_
  unfold Ent.F nameG at hq
  dsimp only at hq
  split at hq
  · rename_i s
    obtain ⟨hc, hx⟩ := need_some hq
    exact ⟨iname_ok, (iname_fun s (of_decide_eq_true hc)).trans hx⟩
  · cases hq
theorem sname_round (s : List UInt8) (i : Int) : roundK Try.prog (look [(111, .rd1 withinG)]) (look [(2, snameE)]) 0 (body Try.f159 0) snameE ([.s s, .i .i64 i], []) =
  ((ifB (decide (i < (↑s.length : Int))) (ifT (decide ((0 : Int) ≤ i)) (ifSome s[i.toNat]? fun z => ifB (decide ((↑z.toNat : Int) < (97 : Int))) (some (Ex.ret, [V.b false],
 [])) (ifT (decide ((0 : Int) ≤ i)) (ifSome s[i.toNat]? fun z => ifB (decide ((↑z.toNat : Int) > (122 : Int))) (some (Ex.ret, [V.b false], [])) (some (Ex.normal, [V.s s,
 V.i .i64 (IntKind.i64.wrap (i + (1 : Int)))], [])))))) (some (Ex.exit 0, [V.s s], []))) : _) := by kernel_rfl
theorem sname_ok : LoopsOk Try.prog (look [(111, .rd1 withinG)]) (look [(2, snameE)]) 0 (Try.f159.body.getD .skip) := by
  refine loopsOk_one (a := body Try.f159 0) (by kernel_rfl) fun d e d' h => ?_
  unfold snameE at h
  dsimp only at h
  split at h
  · rename_i s i
    obtain ⟨hc, hx⟩ := need_some h
    clear h
    obtain ⟨h0, h1, h2⟩ := of_decide_eq_true hc
    obtain ⟨i, rfl⟩ := Int.eq_ofNat_of_zero_le h0
    rw [Int.toNat_natCast] at h1 hx
    refine runs_all (l := s) lowB (fun i => ([.s s, .i .i64 (i : Int)], [])) (ex := (.exit 0, ([.s s], []))) (rt := (.ret, ([.b false], []))) (by simp) (by simp) (fun i hi => ?_) ?_ (s.length - i) i (by omega) e d' hx
    · have hr := sname_round s i
      rw [ifB_true (decide_eq_true (by omega))] at hr
      simp only [Int.toNat_natCast, List.getElem?_eq_getElem hi, ifSome_s, wrap_succ (n := i) (by omega)] at hr
      refine hr.trans ?_
      have hb := s[i].toNat_lt
      have hz : (0 : Int) ≤ (i : Int) := by omega
      simp only [hz, decide_true, ifT_t]
      unfold lowB
      generalize s[i].toNat = b at *
      have c1 : decide ((b : Int) < 97) = !decide (97 ≤ b) := by rw [← decide_not]; exact decide_eq_decide.2 (by omega)
      have c2 : decide ((b : Int) > 122) = !decide (b ≤ 122) := by rw [← decide_not]; exact decide_eq_decide.2 (by omega)
      simp only [c1, c2]
      cases decide (97 ≤ b) <;> cases decide (b ≤ 122) <;> rfl
    · have hr := sname_round s s.length
      rw [ifB_false (decide_eq_false (by omega))] at hr
      exact hr
  · cases h
theorem sname_fun (s : List UInt8) (hc : s.length ≤ maxI) : funK Try.prog (look [(111, .rd1 withinG)]) (look [(2, snameE)]) Try.f159 [.s s] [] = some (.b (nameB s), []) := by
  have e : funK Try.prog (look [(111, .rd1 withinG)]) (look [(2, snameE)]) Try.f159 [.s s] [] = ((ifT (decide ((0 : Int) ≤ (0 : Int) ∧ (0 : Nat) ≤ s.length ∧ s.length ≤ maxI)) (ifB ((List.drop (0 : Nat) s).all lowB) (some (V.b (decide ((1 : Int) ≤ (↑s.length : Int) ∧
 (↑s.length : Int) ≤ (10 : Int))), [])) (some (V.b false, [])))) : _) := by kernel_rfl
  rw [e]
  clear e
  have hM : maxI = 9223372036854775807 := rfl
  rw [ifT_true (decide_eq_true (by simp; try omega))]
  simp only [Int.toNat_zero, List.drop_zero]
  unfold nameB
  have d1 : decide (1 ≤ (s.length : Int) ∧ (s.length : Int) ≤ 10) = (decide (1 ≤ s.length) && decide (s.length ≤ 10)) := by
    rw [← Bool.decide_and]; exact decide_eq_decide.2 (by omega)
  cases s.all lowB
  · rfl
  · rw [ifB_t, d1]; rfl
theorem sname : Contract Try.prog 159 (Ent.rd1 nameG).F := by
  refine fun_contract' (KnowsL.cons (enters_fn Try.func111 (by kernel_rfl) (by kernel_rfl)) l1In KnowsL.nil).knows (Λ := (look [(2, snameE)])) Try.func159 (c := Try.f159.body.getD .skip) (by kernel_rfl) fun vs bs r hq hv hb => ?_
  unfold Ent.F nameG at hq
  dsimp only at hq
  split at hq
  · rename_i s
    obtain ⟨hc, hx⟩ := need_some hq
    exact ⟨sname_ok, (sname_fun s (of_decide_eq_true hc)).trans hx⟩
  · cases hq
theorem kholds_fun (z : Rose Lab) : funK Try.prog (look []) (look []) Try.f110 [.tp LCd z 0] [] = (.leaf (.b (holdsK z.lab.1), []) : Br (V × List (Option Blk))).run := by
  have e : funK Try.prog (look []) (look []) Try.f110 [.tp LCd z 0] [] = ((ifB (z.lab.fst == (4 : Int)) (some (V.b true, [])) (some (V.b (z.lab.fst == (5 : Int)), []))) : _) := by kernel_rfl
  rw [e]
  clear e
  unfold holdsK
  cases z.lab.1 == 4 <;> rfl
theorem kholds : Contract Try.prog 110 (Ent.rd1 kholdsG).F := by
  refine fun_contract' KnowsL.nil.knows (Λ := look []) Try.func110 (c := Try.f110.body.getD .skip) (by kernel_rfl) fun vs bs r' hq hv hb => ?_
  unfold Ent.F kholdsG at hq
  dsimp only at hq
  split at hq
  · rename_i z
    exact ⟨loopsOk_nil _, (kholds_fun z).trans hq⟩
  · cases hq
theorem l2Holds_fun (k : Int) : funK Try.prog (look []) (look []) Try.f116 [.i .i64 k] [] = (.leaf (.b (holdsK k), []) : Br (V × List (Option Blk))).run := by
  have e : funK Try.prog (look []) (look []) Try.f116 [.i .i64 k] [] = ((ifB (k == (4 : Int)) (some (V.b true, [])) (some (V.b (k == (5 : Int)), []))) : _) := by kernel_rfl
  rw [e]
  clear e
  unfold holdsK
  cases k == 4 <;> rfl
theorem l2Holds : Contract Try.prog 116 (Ent.rd1 l2HoldsG).F := by
  refine fun_contract' KnowsL.nil.knows (Λ := look []) Try.func116 (c := Try.f116.body.getD .skip) (by kernel_rfl) fun vs bs r' hq hv hb => ?_
  unfold Ent.F l2HoldsG at hq
  dsimp only at hq
  split at hq
  · rename_i k
    exact ⟨loopsOk_nil _, (l2Holds_fun k).trans hq⟩
  · cases hq
theorem partOf_fun (z : Rose Lab) (k : Int) (hc : z.lab.2.1.length ≤ maxI) : funK Try.prog (look [(212, .rd1 nameG), (66, .rd1 withinG)]) (look []) Try.f193 [.tp LCd z 0, .i .i64 k] [] = some (.b (partB k z.lab), []) := by
  have e : funK Try.prog (look [(212, .rd1 nameG), (66, .rd1 withinG)]) (look []) Try.f193 [.tp LCd z 0, .i .i64 k] [] = ((ifB (k == (5 : Int)) (ifT (decide (List.length z.lab.snd.fst ≤ maxI)) (ifB (nameB z.lab.snd.fst) (some (V.b (decide ((1 : Int) ≤ z.lab.snd.snd.fst ∧ z.lab.snd.snd.fst ≤
 (30 : Int))), [])) (some (V.b false, [])))) (ifB (z.lab.snd.fst == nilT UInt8) (ifB (z.lab.snd.snd.fst == (0 : Int)) (some (V.b !z.lab.snd.snd.snd.fst, [])) (some (V.b
 false, []))) (some (V.b false, [])))) : _) := by kernel_rfl
  rw [e]
  clear e
  rw [decide_eq_true hc]
  unfold partB
  have d1 : decide (1 ≤ z.lab.2.2.1 ∧ z.lab.2.2.1 ≤ 30) = (decide (1 ≤ z.lab.2.2.1) && decide (z.lab.2.2.1 ≤ 30)) := Bool.decide_and ..
  by_cases q : k = 5
  · subst q
    rw [ifB_true (by rfl), if_pos rfl, d1]
    cases nameB z.lab.2.1 <;> rfl
  · rw [ifB_false (beq_false_of_ne q), if_neg q]
    cases z.lab.2.1 == [] <;> cases z.lab.2.2.1 == 0 <;> rfl
theorem partOf : Contract Try.prog 193 (Ent.rd1 partOfG).F := by
  refine fun_contract' (KnowsL.cons (enters_fn Try.func212 (by kernel_rfl) (by kernel_rfl)) iname (KnowsL.cons (enters_fn Try.func66 (by kernel_rfl) (by kernel_rfl)) within KnowsL.nil)).knows (Λ := look []) Try.func193 (c := Try.f193.body.getD .skip) (by kernel_rfl) fun vs bs r hq hv hb => ?_
  unfold Ent.F partOfG at hq
  dsimp only at hq
  split at hq
  · rename_i z k
    obtain ⟨hc, hx⟩ := need_some hq
    exact ⟨loopsOk_nil _, (partOf_fun z k (of_decide_eq_true hc)).trans hx⟩
  · cases hq
def upAt (l : List Ty) (i : Nat) : Option Int := (l[i]?).map fun x => x.2.2.2.2.1
def labAt (l : List Ty) (i : Nat) : Lab := match l[i]? with | some x => (x.1, x.2.1, x.2.2.1, x.2.2.2.1, x.2.2.2.2.2.1, ()) | none => (0, [], 0, false, 0, ())
/-- The parts of the type at a place: from a place on. -/
def kloop (g : Nat → Rose Lab × Nat) (l : List Ty) (a : Nat) : Nat → Nat → List (Rose Lab) → List (Rose Lab) × Nat
  | 0, e, ks => (ks, e)
  | n + 1, e, ks => if upAt l e = some (a : Int) then kloop g l a n (g e).2 (ks ++ [(g e).1]) else (ks, e)
def kfr (l : List Ty) : Nat → Nat → Rose Lab × Nat
  | 0, a => (.node (labAt l a) [], a + 1)
  | f + 1, a =>
    let r := bif holdsK (labAt l a).1 then kloop (kfr l f) l a l.length (a + 1) [] else ([], a + 1)
    (.node (labAt l a) r.1, r.2)
/-- The tree of the types from a place on, and where it ends. -/
def kf (l : List Ty) (a : Nat) : Rose Lab × Nat := kfr l l.length a
def kfG (n : Nat) : List V → List Blk → Br (V × List (Option Blk))
  | [.sl (.pair (.int .i64) (.pair .str (.pair (.int .i64) (.pair .bool (.pair (.int .i64) (.pair (.int .i64) .unit)))))) l, .i .i64 a], [] => .need (decide (0 ≤ a ∧ a.toNat < l.length ∧ l.length ≤ 4000000000 ∧ l.length - a.toNat ≤ n)) (.leaf (.tup [.ptr 0 0, .i .i64 ((kf l a.toNat).2 : Int)], [some (.box [.i .i64 (kf l a.toNat).1.lab.1, .s (kf l a.toNat).1.lab.2.1, .i .i64 (kf l a.toNat).1.lab.2.2.1, .b (kf l a.toNat).1.lab.2.2.2.1, .i .i64 (kf l a.toNat).1.lab.2.2.2.2.1, .ref 1 0 (kf l a.toNat).1.kids.length]), some (.row false none (.tree (.pair (.int .i64) (.pair .str (.pair (.int .i64) (.pair .bool (.pair (.int .i64) .unit)))))) (kf l a.toNat).1.kids)]))
  | _, _ => .no
def kindFromG : List V → List Blk → Br (V × List (Option Blk))
  | [.sl (.pair (.int .i64) (.pair .str (.pair (.int .i64) (.pair .bool (.pair (.int .i64) (.pair (.int .i64) .unit)))))) l, .i .i64 a], [] => .need (decide (0 ≤ a ∧ a.toNat < l.length ∧ l.length ≤ 4000000000)) (.leaf (.tup [.ptr 0 0, .i .i64 ((kf l a.toNat).2 : Int)], [some (.box [.i .i64 (kf l a.toNat).1.lab.1, .s (kf l a.toNat).1.lab.2.1, .i .i64 (kf l a.toNat).1.lab.2.2.1, .b (kf l a.toNat).1.lab.2.2.2.1, .i .i64 (kf l a.toNat).1.lab.2.2.2.2.1, .ref 1 0 (kf l a.toNat).1.kids.length]), some (.row false none (.tree (.pair (.int .i64) (.pair .str (.pair (.int .i64) (.pair .bool (.pair (.int .i64) .unit)))))) (kf l a.toNat).1.kids)]))
  | _, _ => .no
def kfE (n : Nat) : LoopEnt := ⟨65, [0,1,7,8], [7,8], [], fun
  | ([.sl (.pair (.int .i64) (.pair .str (.pair (.int .i64) (.pair .bool (.pair (.int .i64) (.pair (.int .i64) .unit)))))) l, .i .i64 a, .ptr 0 0, .i .i64 e], [some (.box [.i .i64 x0, .s x1, .i .i64 x2, .b x3, .i .i64 x4, .ref 1 0 k]), some (.row false none (.tree (.pair (.int .i64) (.pair .str (.pair (.int .i64) (.pair .bool (.pair (.int .i64) .unit)))))) ks)]) => .need (decide (0 ≤ a ∧ a < e ∧ a.toNat < l.length ∧ e.toNat ≤ l.length ∧ l.length ≤ 4000000000 ∧ k = ks.length ∧ ks.length ≤ e.toNat ∧ l.length - a.toNat ≤ n + 1)) (.leaf (.exit 0, ([.ptr 0 0, .i .i64 ((bif holdsK x0 then kloop (kf l) l a.toNat l.length e.toNat ks else (ks, e.toNat)).2 : Int)], [some (.box [.i .i64 x0, .s x1, .i .i64 x2, .b x3, .i .i64 x4, .ref 1 0 (bif holdsK x0 then kloop (kf l) l a.toNat l.length e.toNat ks else (ks, e.toNat)).1.length]), some (.row false none (.tree (.pair (.int .i64) (.pair .str (.pair (.int .i64) (.pair .bool (.pair (.int .i64) .unit)))))) (bif holdsK x0 then kloop (kf l) l a.toNat l.length e.toNat ks else (ks, e.toNat)).1)])))
  | _ => .no⟩
theorem kf_round (n : Nat) (l : List Ty) (a e : Int) (x0 : Int) (x1 : List UInt8) (x2 : Int) (x3 : Bool) (x4 : Int) (k : Nat) (ks : List (Rose Lab)) : roundK Try.prog (look [(67, .rd1 (kfG n)), (110, .rd1 kholdsG)]) (look [(4, kfE n)]) 0 (body Try.f67 0) (kfE n) ([.sl TCd l, .i .i64 a, .ptr 0 0, .i .i64 e], [some (.box [.i .i64 x0, .s x1, .i .i64 x2, .b x3, .i .i64 x4, .ref 1 0 k]), some (.row false none (.tree LCd) ks)]) =
  ((ifB (holdsK (Rose.node (x0, x1, x2, x3, x4, ()) (List.take k (List.drop (0 : Nat) ks))).lab.fst) (ifB (decide (e < (↑l.length : Int))) (ifT (decide ((0 : Int) ≤ e) &&
 decide (e < (↑l.length : Int))) (ifSome l[e.toNat]? fun z => ifB (z.snd.snd.snd.snd.fst == a) (ifT (decide ((0 : Int) ≤ e ∧ e.toNat < l.length ∧ l.length ≤ (4000000000 :
 Nat) ∧ l.length - e.toNat ≤ n)) (ifT (decide ((k + (1 : Nat)) * (8 : Nat) ≤ (140737488355328 : Nat)) && decide (k + (1 : Nat) ≤ maxI)) (some (Ex.normal, [V.sl TCd l, V.i
 .i64 a, V.ptr 0 0, V.i .i64 (↑(kf l e.toNat).snd : Int)], [some (Blk.box [V.i .i64 x0, V.s x1, V.i .i64 x2, V.b x3, V.i .i64 x4, V.ref 1 0 (k + (1 : Nat))]), some
 (Blk.row false none LCd.tree (List.take k (List.drop (0 : Nat) ks) ++ Rose.node ((kf l e.toNat).fst.lab.fst, (kf l e.toNat).fst.lab.snd.fst, (kf l
 e.toNat).fst.lab.snd.snd.fst, (kf l e.toNat).fst.lab.snd.snd.snd.fst, (kf l e.toNat).fst.lab.snd.snd.snd.snd.fst, ()) (List.take (kf l e.toNat).fst.kids.length (List.drop
 (0 : Nat) (kf l e.toNat).fst.kids)) :: nilT LCd.tree.den))])))) (some (Ex.exit 0, [V.ptr 0 0, V.i .i64 e], [some (Blk.box [V.i .i64 x0, V.s x1, V.i .i64 x2, V.b x3, V.i
 .i64 x4, V.ref 1 0 k]), some (Blk.row false none LCd.tree ks)])))) (some (Ex.exit 0, [V.ptr 0 0, V.i .i64 e], [some (Blk.box [V.i .i64 x0, V.s x1, V.i .i64 x2, V.b x3,
 V.i .i64 x4, V.ref 1 0 k]), some (Blk.row false none LCd.tree ks)]))) (some (Ex.exit 0, [V.ptr 0 0, V.i .i64 e], [some (Blk.box [V.i .i64 x0, V.s x1, V.i .i64 x2, V.b x3,
 V.i .i64 x4, V.ref 1 0 k]), some (Blk.row false none LCd.tree ks)]))) : _) := by kernel_rfl
theorem kf_tree (n : Nat) (l : List Ty) (a : Int) : funN Try.prog (look [(67, .rd1 (kfG n)), (110, .rd1 kholdsG)]) (look [(4, kfE n)]) Try.f67 [.sl TCd l, .i .i64 a] [] =
  ((ifT (decide ((0 : Int) ≤ a) && decide (a < (↑l.length : Int))) (ifSome l[a.toNat]? fun z => ifT (decide ((0 : Int) ≤ a ∧ a < IntKind.i64.wrap (a + (1 : Int)) ∧ a.toNat <
 l.length ∧ (IntKind.i64.wrap (a + (1 : Int))).toNat ≤ l.length ∧ l.length ≤ (4000000000 : Nat) ∧ (0 : Nat) = (0 : Nat) ∧ (0 : Nat) ≤ (IntKind.i64.wrap (a + (1 :
 Int))).toNat ∧ l.length - a.toNat ≤ n + (1 : Nat))) (some (V.tup [V.ptr 0 0, V.i .i64 (↑(bif holdsK z.fst then kloop (kf l) l a.toNat l.length (IntKind.i64.wrap (a + (1 :
 Int))).toNat (nilT LCd.tree.den) else (nilT LCd.tree.den, (IntKind.i64.wrap (a + (1 : Int))).toNat)).snd : Int)], [some (Blk.box [V.i .i64 z.fst, V.s z.snd.fst, V.i .i64
 z.snd.snd.fst, V.b z.snd.snd.snd.fst, V.i .i64 z.snd.snd.snd.snd.snd.fst, V.ref 1 0 (bif holdsK z.fst then kloop (kf l) l a.toNat l.length (IntKind.i64.wrap (a + (1 :
 Int))).toNat (nilT LCd.tree.den) else (nilT LCd.tree.den, (IntKind.i64.wrap (a + (1 : Int))).toNat)).fst.length]), some (Blk.row false none LCd.tree (bif holdsK z.fst
 then kloop (kf l) l a.toNat l.length (IntKind.i64.wrap (a + (1 : Int))).toNat (nilT LCd.tree.den) else (nilT LCd.tree.den, (IntKind.i64.wrap (a + (1 :
 Int))).toNat)).fst)])))) : _) := by kernel_rfl
theorem up_lt {l : List Ty} {e : Nat} {a : Int} (h : upAt l e = some a) : e < l.length := by
  unfold upAt at h
  obtain ⟨x, h1, _⟩ := Option.map_eq_some_iff.1 h
  exact (List.getElem?_eq_some_iff.1 h1).1
theorem rose_eta (z : Rose Lab) : Rose.node (z.lab.1, z.lab.2.1, z.lab.2.2.1, z.lab.2.2.2.1, z.lab.2.2.2.2.1, ()) (List.take z.kids.length (List.drop 0 z.kids)) = z := by
  obtain ⟨⟨_, _, _, _, _, ⟨⟩⟩, ks⟩ := z
  simp [Rose.lab, Rose.kids]
def goesOn (l : List Ty) (g : Nat → Rose Lab × Nat) : Prop := ∀ e, e < l.length → e < (g e).2 ∧ (g e).2 ≤ l.length
theorem kloop_bnd {l : List Ty} {g : Nat → Rose Lab × Nat} {a : Nat} (hg : goesOn l g) : ∀ (n e : Nat) (ks : List (Rose Lab)), e ≤ l.length → e ≤ (kloop g l a n e ks).2 ∧ (kloop g l a n e ks).2 ≤ l.length
  | 0, e, ks, h => ⟨Nat.le_refl _, h⟩
  | n + 1, e, ks, h => by
    unfold kloop
    split
    · rename_i hu
      obtain ⟨h1, h2⟩ := hg e (up_lt hu)
      obtain ⟨h3, h4⟩ := kloop_bnd hg n (g e).2 (ks ++ [(g e).1]) h2
      exact ⟨by omega, h4⟩
    · exact ⟨Nat.le_refl _, h⟩
theorem kfr_bnd (l : List Ty) : ∀ f, goesOn l (kfr l f)
  | 0, a, h => ⟨Nat.lt_succ_self _, h⟩
  | f + 1, a, h => by
    unfold kfr
    dsimp only
    cases holdsK (labAt l a).1 with
    | true =>
      obtain ⟨h3, h4⟩ := kloop_bnd (a := a) (kfr_bnd l f) l.length (a + 1) [] h
      exact ⟨by rw [cond_true]; omega, by rw [cond_true]; exact h4⟩
    | false => exact ⟨Nat.lt_succ_self _, h⟩
theorem kloop_congr {l : List Ty} {g g' : Nat → Rose Lab × Nat} {a e0 : Nat} (hg : goesOn l g) (h : ∀ e, e0 ≤ e → e < l.length → g e = g' e) : ∀ (n e : Nat) (ks : List (Rose Lab)), e0 ≤ e → kloop g l a n e ks = kloop g' l a n e ks
  | 0, e, ks, _ => rfl
  | n + 1, e, ks, he => by
    unfold kloop
    split
    · rename_i hu
      have hl := up_lt hu
      rw [← h e he hl]
      exact kloop_congr hg h n _ _ (by have := (hg e hl).1; omega)
    · rfl
theorem kloop_fuel {l : List Ty} {g : Nat → Rose Lab × Nat} {a : Nat} (hg : goesOn l g) : ∀ (n m e : Nat) (ks : List (Rose Lab)), l.length - e ≤ n → l.length - e ≤ m → kloop g l a n e ks = kloop g l a m e ks
  | 0, 0, e, ks, _, _ => rfl
  | 0, m + 1, e, ks, h, _ => by
    unfold kloop
    split
    · rename_i hu; have := up_lt hu; omega
    · rfl
  | n + 1, 0, e, ks, _, h => by
    unfold kloop
    split
    · rename_i hu; have := up_lt hu; omega
    · rfl
  | n + 1, m + 1, e, ks, h1, h2 => by
    unfold kloop
    split
    · rename_i hu
      have hl := up_lt hu
      have := (hg e hl).1
      exact kloop_fuel hg n m _ _ (by omega) (by omega)
    · rfl
theorem kfr_fuel (l : List Ty) : ∀ (f f' a : Nat), l.length - a ≤ f → l.length - a ≤ f' → a < l.length → kfr l f a = kfr l f' a
  | 0, f', a, h1, _, h => by omega
  | f + 1, 0, a, _, h1, h => by omega
  | f + 1, f' + 1, a, h1, h2, h => by
    unfold kfr
    dsimp only
    rw [kloop_congr (kfr_bnd l f) (fun e he hl => kfr_fuel l f f' e (by omega) (by omega) hl) l.length (a + 1) [] (Nat.le_refl _)]
theorem kf_bnd (l : List Ty) : goesOn l (kf l) := kfr_bnd l l.length
theorem kf_eq {l : List Ty} {a : Nat} (h : a < l.length) : kf l a = (.node (labAt l a) (bif holdsK (labAt l a).1 then kloop (kf l) l a l.length (a + 1) [] else ([], a + 1)).1, (bif holdsK (labAt l a).1 then kloop (kf l) l a l.length (a + 1) [] else ([], a + 1)).2) := by
  obtain ⟨m, hm⟩ : ∃ m, l.length = m + 1 := ⟨l.length - 1, by omega⟩
  have e1 : kloop (kfr l m) l a l.length (a + 1) [] = kloop (kf l) l a l.length (a + 1) [] := kloop_congr (kfr_bnd l m) (fun e he hl => kfr_fuel l m l.length e (by omega) (by omega) hl) l.length (a + 1) [] (Nat.le_refl _)
  rw [← e1]
  unfold kf
  conv => lhs; rw [hm]
  rfl
theorem kloop_step {l : List Ty} {a e : Nat} {ks : List (Rose Lab)} (h : upAt l e = some (a : Int)) : kloop (kf l) l a l.length e ks = kloop (kf l) l a l.length (kf l e).2 (ks ++ [(kf l e).1]) := by
  have hl := up_lt h
  obtain ⟨m, hm⟩ : ∃ m, l.length = m + 1 := ⟨l.length - 1, by omega⟩
  conv => lhs; rw [hm]
  show (if upAt l e = some (a : Int) then kloop (kf l) l a m (kf l e).2 (ks ++ [(kf l e).1]) else (ks, e)) = _
  rw [if_pos h]
  have := (kf_bnd l e hl).1
  exact kloop_fuel (kf_bnd l) m l.length _ _ (by omega) (by omega)
theorem kloop_stop {l : List Ty} {a e n : Nat} {ks : List (Rose Lab)} (h : upAt l e ≠ some (a : Int)) : kloop (kf l) l a n e ks = (ks, e) := by
  cases n with
  | zero => rfl
  | succ n => unfold kloop; rw [if_neg h]
theorem kf_loop (n : Nat) (l : List Ty) (a : Nat) (x0 : Int) (x1 : List UInt8) (x2 : Int) (x3 : Bool) (x4 : Int) (hal : a < l.length) (hl : l.length ≤ 4000000000) (hn : l.length - a ≤ n + 1) : ∀ (j e : Nat) (ks : List (Rose Lab)), e + j = l.length → a < e → ks.length ≤ e →
    Runs Try.prog (look [(67, .rd1 (kfG n)), (110, .rd1 kholdsG)]) (look [(4, kfE n)]) 0 (body Try.f67 0) (kfE n) ([.sl TCd l, .i .i64 (a : Int), .ptr 0 0, .i .i64 (e : Int)], [some (.box [.i .i64 x0, .s x1, .i .i64 x2, .b x3, .i .i64 x4, .ref 1 0 ks.length]), some (.row false none (.tree LCd) ks)]) (.exit 0) ([.ptr 0 0, .i .i64 ((bif holdsK x0 then kloop (kf l) l a l.length e ks else (ks, e)).2 : Int)], [some (.box [.i .i64 x0, .s x1, .i .i64 x2, .b x3, .i .i64 x4, .ref 1 0 (bif holdsK x0 then kloop (kf l) l a l.length e ks else (ks, e)).1.length]), some (.row false none (.tree LCd) (bif holdsK x0 then kloop (kf l) l a l.length e ks else (ks, e)).1)]) := by
  intro j
  induction j using Nat.strongRecOn with
  | ind j ih =>
    intro e ks he hae hk
    have hM : maxI = 9223372036854775807 := rfl
    have hr := kf_round n l a e x0 x1 x2 x3 x4 ks.length ks
    have hlab : (Rose.node (x0, x1, x2, x3, x4, ()) (List.take ks.length (List.drop 0 ks)) : Rose Lab).lab.1 = x0 := rfl
    simp only [hlab] at hr
    cases hx : holdsK x0 with
    | false =>
      rw [hx, ifB_f] at hr
      rw [cond_false]
      exact .stop _ _ _ hr (by simp)
    | true =>
      rw [hx, ifB_t] at hr
      rw [cond_true]
      by_cases h1 : e < l.length
      · rw [ifB_true (decide_eq_true (by omega)), ifT_true (by simp only [Bool.and_eq_true, decide_eq_true_eq]; omega)] at hr
        simp only [Int.toNat_natCast, List.getElem?_eq_getElem h1, ifSome_s, List.drop_zero, List.take_length] at hr
        by_cases h2 : l[e].2.2.2.2.1 = (a : Int)
        · have hu : upAt l e = some (a : Int) := by unfold upAt; rw [List.getElem?_eq_getElem h1, Option.map_some, h2]
          rw [ifB_true (by rw [h2]; exact beq_self_eq_true _), ifT_true (decide_eq_true ⟨by omega, h1, hl, by omega⟩), ifT_true (by simp only [Bool.and_eq_true, decide_eq_true_eq]; omega)] at hr
          obtain ⟨b1, b2⟩ := kf_bnd l e h1
          rw [kloop_step hu]
          have ht := rose_eta (kf l e).1
          rw [List.drop_zero, List.take_length] at ht
          rw [ht] at hr
          have hlen : (ks ++ [(kf l e).1]).length = ks.length + 1 := by simp
          have ih2 := ih (l.length - (kf l e).2) (by omega) (kf l e).2 (ks ++ [(kf l e).1]) (by omega) (by omega) (by rw [hlen]; omega)
          simp only [hx, cond_true] at ih2
          refine .step _ _ _ _ (hr.trans ?_) ih2
          rw [hlen]
        · have hu : upAt l e ≠ some (a : Int) := by unfold upAt; rw [List.getElem?_eq_getElem h1, Option.map_some]; exact fun h => h2 (Option.some.inj h)
          rw [ifB_false (beq_false_of_ne h2)] at hr
          rw [kloop_stop hu]
          exact .stop _ _ _ hr (by simp)
      · rw [ifB_false (decide_eq_false (by omega))] at hr
        rw [kloop_stop (fun h => h1 (up_lt h))]
        exact .stop _ _ _ hr (by simp)
theorem kf_ok (n : Nat) : LoopsOk Try.prog (look [(67, .rd1 (kfG n)), (110, .rd1 kholdsG)]) (look [(4, kfE n)]) 0 (Try.f67.body.getD .skip) := by
  refine loopsOk_one (a := body Try.f67 0) (by kernel_rfl) fun d ex d' h => ?_
  unfold kfE at h
  dsimp only at h
  split at h
  · rename_i l a e x0 x1 x2 x3 x4 k ks
    obtain ⟨hc, hx⟩ := need_some h
    clear h
    obtain ⟨h0, h1, h2, h3, h4, rfl, h6, h7⟩ := of_decide_eq_true hc
    obtain ⟨a, rfl⟩ := Int.eq_ofNat_of_zero_le h0
    obtain ⟨e, rfl⟩ := Int.eq_ofNat_of_zero_le (by omega : 0 ≤ e)
    simp only [Int.toNat_natCast] at h2 h3 h6 h7 hx
    have h8 := leaf_some hx
    obtain ⟨rfl, rfl⟩ := Prod.mk.inj h8
    exact kf_loop n l a x0 x1 x2 x3 x4 h2 h4 h7 (l.length - e) e ks (by omega) (by omega) h6
  · cases h
theorem kf_fun (n : Nat) (l : List Ty) (a : Int) (hc : 0 ≤ a ∧ a.toNat < l.length ∧ l.length ≤ 4000000000 ∧ l.length - a.toNat ≤ n + 1) : funN Try.prog (look [(67, .rd1 (kfG n)), (110, .rd1 kholdsG)]) (look [(4, kfE n)]) Try.f67 [.sl TCd l, .i .i64 a] [] = some (.tup [.ptr 0 0, .i .i64 ((kf l a.toNat).2 : Int)], [some (.box [.i .i64 (kf l a.toNat).1.lab.1, .s (kf l a.toNat).1.lab.2.1, .i .i64 (kf l a.toNat).1.lab.2.2.1, .b (kf l a.toNat).1.lab.2.2.2.1, .i .i64 (kf l a.toNat).1.lab.2.2.2.2.1, .ref 1 0 (kf l a.toNat).1.kids.length]), some (.row false none (.tree LCd) (kf l a.toNat).1.kids)]) := by
  rw [kf_tree]
  obtain ⟨h0, h1, h2, h3⟩ := hc
  obtain ⟨a, rfl⟩ := Int.eq_ofNat_of_zero_le h0
  rw [Int.toNat_natCast] at h1 h3
  have hM : maxI = 9223372036854775807 := rfl
  have hw : IntKind.i64.wrap ((a : Int) + 1) = ((a + 1 : Nat) : Int) := wrap_succ (by omega)
  rw [ifT_true (by simp only [Bool.and_eq_true, decide_eq_true_eq]; omega)]
  simp only [Int.toNat_natCast, List.getElem?_eq_getElem h1, ifSome_s, hw]
  rw [ifT_true (decide_eq_true ⟨by omega, by omega, h1, by omega, h2, trivial, by omega, by omega⟩)]
  have hk := kf_eq h1
  have hlab : labAt l a = (l[a].1, l[a].2.1, l[a].2.2.1, l[a].2.2.2.1, l[a].2.2.2.2.2.1, ()) := by unfold labAt; rw [List.getElem?_eq_getElem h1]
  rw [hk, hlab]
  rfl
theorem kf_con : ∀ n, (∀ m, m < n → Contract Try.prog 67 (Ent.rd1 (kfG m)).F) → Contract Try.prog 67 (Ent.rd1 (kfG n)).F
  | 0, _ => contract_no fun vs bs => by
    unfold Ent.F kfG
    dsimp only
    split
    · rename_i l a
      have : decide (0 ≤ a ∧ a.toNat < l.length ∧ l.length ≤ 4000000000 ∧ l.length - a.toNat ≤ 0) = false := decide_eq_false (by omega)
      rw [this]; rfl
    · rfl
  | n + 1, ih => by
    refine fun_contractN' (KnowsL.cons (enters_fn Try.func67 (by kernel_rfl) (by kernel_rfl)) (ih n (Nat.lt_succ_self n)) (KnowsL.cons (enters_fn Try.func110 (by kernel_rfl) (by kernel_rfl)) kholds KnowsL.nil)).knows (Λ := (look [(4, kfE n)])) Try.func67 (c := Try.f67.body.getD .skip) (by kernel_rfl) fun vs bs r hq hv hb => ?_
    unfold Ent.F kfG at hq
    dsimp only at hq
    split at hq
    · rename_i l a
      obtain ⟨hc, hx⟩ := need_some hq
      exact ⟨kf_ok n, (kf_fun n l a (of_decide_eq_true hc)).trans hx⟩
    · cases hq
theorem kindFrom : Contract Try.prog 67 (Ent.rd1 kindFromG).F := by
  refine contract_rec (F := fun n => (Ent.rd1 (kfG n)).F) kf_con fun vs bs r h => ?_
  unfold Ent.F kindFromG at h
  dsimp only at h
  split at h
  · rename_i l a
    obtain ⟨hc, hx⟩ := need_some h
    obtain ⟨h0, h1, h2⟩ := of_decide_eq_true hc
    refine ⟨l.length, ?_⟩
    unfold Ent.F kfG
    dsimp only
    have : decide (0 ≤ a ∧ a.toNat < l.length ∧ l.length ≤ 4000000000 ∧ l.length - a.toNat ≤ l.length) = true := decide_eq_true ⟨h0, h1, h2, by omega⟩
    rw [this]
    exact hx
  · cases h
mutual
/-- How many there are in a tree. -/
def cntR : Rose Lab → Nat
  | .node _ ks => cntL ks + 1
def cntL : List (Rose Lab) → Nat
  | [] => 0
  | z :: l => cntR z + cntL l
end
mutual
/-- How many that hold others lie within one another. -/
def deepR : Rose Lab → Nat
  | .node x ks => deepL ks + (bif holdsK x.1 then 1 else 0)
def deepL : List (Rose Lab) → Nat
  | [] => 0
  | z :: l => max (deepR z) (deepL l)
end
def kcountN (n : Nat) : List V → List Blk → Br (V × List (Option Blk))
  | [.tp (.pair (.int .i64) (.pair .str (.pair (.int .i64) (.pair .bool (.pair (.int .i64) .unit))))) z 0], [] => .need (decide (cntR z ≤ n ∧ cntR z ≤ 1000000)) (.leaf (.i .i64 (cntR z : Int), []))
  | _, _ => .no
def kcountG : List V → List Blk → Br (V × List (Option Blk))
  | [.tp (.pair (.int .i64) (.pair .str (.pair (.int .i64) (.pair .bool (.pair (.int .i64) .unit))))) z 0], [] => .need (decide (cntR z ≤ 1000000)) (.leaf (.i .i64 (cntR z : Int), []))
  | _, _ => .no
def kcountE (n : Nat) : LoopEnt := ⟨21, [3,9,10,11], [3], [], fun
  | ([.i .i64 m, .sl (.tree (.pair (.int .i64) (.pair .str (.pair (.int .i64) (.pair .bool (.pair (.int .i64) .unit)))))) ks, .i .i64 k, .i .i64 i], []) => .need (decide (0 ≤ m ∧ m ≤ 1000001 ∧ 0 ≤ i ∧ i.toNat ≤ ks.length ∧ k = ks.length ∧ cntL ks ≤ n ∧ cntL ks ≤ 1000000 ∧ m.toNat + cntL (ks.drop i.toNat) ≤ 1000001)) (.leaf (.exit 0, ([.i .i64 ((m.toNat + cntL (ks.drop i.toNat) : Nat) : Int)], [])))
  | _ => .no⟩
def kdeepN (n : Nat) : List V → List Blk → Br (V × List (Option Blk))
  | [.tp (.pair (.int .i64) (.pair .str (.pair (.int .i64) (.pair .bool (.pair (.int .i64) .unit))))) z 0], [] => .need (decide (cntR z ≤ n ∧ cntR z ≤ 1000000)) (.leaf (.i .i64 (deepR z : Int), []))
  | _, _ => .no
def kdeepG : List V → List Blk → Br (V × List (Option Blk))
  | [.tp (.pair (.int .i64) (.pair .str (.pair (.int .i64) (.pair .bool (.pair (.int .i64) .unit))))) z 0], [] => .need (decide (cntR z ≤ 1000000)) (.leaf (.i .i64 (deepR z : Int), []))
  | _, _ => .no
def kdeepE (n : Nat) : LoopEnt := ⟨25, [0,3,9,10,11], [0,3], [], fun
  | ([.tp (.pair (.int .i64) (.pair .str (.pair (.int .i64) (.pair .bool (.pair (.int .i64) .unit))))) y 0, .i .i64 m, .sl (.tree (.pair (.int .i64) (.pair .str (.pair (.int .i64) (.pair .bool (.pair (.int .i64) .unit)))))) ks, .i .i64 k, .i .i64 i], []) => .need (decide (0 ≤ m ∧ m ≤ 1000001 ∧ 0 ≤ i ∧ i.toNat ≤ ks.length ∧ k = ks.length ∧ cntL ks ≤ n ∧ cntL ks ≤ 1000000)) (.leaf (.exit 0, ([.tp (.pair (.int .i64) (.pair .str (.pair (.int .i64) (.pair .bool (.pair (.int .i64) .unit))))) y 0, .i .i64 ((max m.toNat (deepL (ks.drop i.toNat)) : Nat) : Int)], [])))
  | _ => .no⟩
theorem cnt_mem {z : Rose Lab} : ∀ {l : List (Rose Lab)}, z ∈ l → cntR z ≤ cntL l
  | [], h => by cases h
  | y :: l, h => by
    rw [cntL]
    rcases List.mem_cons.1 h with rfl | h
    · omega
    · have := cnt_mem h; omega
theorem cnt_pos (z : Rose Lab) : 1 ≤ cntR z := by cases z; rw [cntR]; omega
theorem cnt_len : ∀ (l : List (Rose Lab)), l.length ≤ cntL l
  | [] => Nat.le_refl _
  | z :: l => by have := cnt_len l; have := cnt_pos z; rw [cntL, List.length_cons]; omega
theorem cnt_drop (l : List (Rose Lab)) : ∀ i, cntL (l.drop i) ≤ cntL l := by
  induction l with
  | nil => intro i; simp
  | cons z l ih =>
    intro i
    cases i with
    | zero => exact Nat.le_refl _
    | succ i => rw [List.drop_succ_cons, cntL]; have := ih i; omega
theorem cnt_kids (z : Rose Lab) : cntR z = cntL z.kids + 1 := by cases z; rw [cntR]; rfl
mutual
theorem deep_cnt : ∀ z : Rose Lab, deepR z ≤ cntR z
  | .node x ks => by rw [deepR, cntR]; have := deepL_cnt ks; cases holdsK x.1 <;> simp <;> omega
theorem deepL_cnt : ∀ l : List (Rose Lab), deepL l ≤ cntL l
  | [] => Nat.le_refl _
  | z :: l => by rw [deepL, cntL]; have := deep_cnt z; have := deepL_cnt l; omega
end
theorem deep_mem {z : Rose Lab} : ∀ {l : List (Rose Lab)}, z ∈ l → deepR z ≤ deepL l
  | [], h => by cases h
  | y :: l, h => by
    rw [deepL]
    rcases List.mem_cons.1 h with rfl | h
    · omega
    · have := deep_mem h; omega
theorem kcount_round (n : Nat) (m : Int) (ks : List (Rose Lab)) (k i : Int) : roundK Try.prog (look [(157, .rd1 (kcountN n))]) (look [(3, kcountE n)]) 0 (body Try.f157 0) (kcountE n) ([.i .i64 m, .sl (.tree LCd) ks, .i .i64 k, .i .i64 i], []) =
  ((ifB (decide (i < k)) (ifT (decide ((0 : Int) ≤ i) && decide (i < (↑ks.length : Int))) (ifSome ks[i.toNat]? fun z => ifT (decide (cntR z ≤ n ∧ cntR z ≤ (1000000 : Nat)))
 (some (Ex.normal, [V.i .i64 (IntKind.i64.wrap (m + (↑(cntR z) : Int))), V.sl LCd.tree ks, V.i .i64 k, V.i .i64 (IntKind.i64.wrap (i + (1 : Int)))], [])))) (some (Ex.exit
 0, [V.i .i64 m], []))) : _) := by kernel_rfl
theorem kcount_tree (n : Nat) (z : Rose Lab) : funK Try.prog (look [(157, .rd1 (kcountN n))]) (look [(3, kcountE n)]) Try.f157 [.tp LCd z 0] [] =
  ((ifT (decide ((0 : Int) ≤ (1 : Int) ∧ (1 : Int) ≤ (1000001 : Int) ∧ (0 : Int) ≤ (0 : Int) ∧ (0 : Nat) ≤ z.kids.length ∧ (↑z.kids.length : Int) = (↑z.kids.length : Int) ∧
 cntL z.kids ≤ n ∧ cntL z.kids ≤ (1000000 : Nat) ∧ (1 : Nat) + cntL (List.drop (0 : Nat) z.kids) ≤ (1000001 : Nat))) (some (V.i .i64 (↑((1 : Nat) + cntL (List.drop (0 :
 Nat) z.kids)) : Int), []))) : _) := by kernel_rfl
theorem kcount_loop (n : Nat) (ks : List (Rose Lab)) (h1 : cntL ks ≤ n) (h2 : cntL ks ≤ 1000000) : ∀ (j i m : Nat), i + j = ks.length → m ≤ 1000001 → m + cntL (ks.drop i) ≤ 1000001 →
    Runs Try.prog (look [(157, .rd1 (kcountN n))]) (look [(3, kcountE n)]) 0 (body Try.f157 0) (kcountE n) ([.i .i64 (m : Int), .sl (.tree LCd) ks, .i .i64 (ks.length : Int), .i .i64 (i : Int)], []) (.exit 0) ([.i .i64 ((m + cntL (ks.drop i) : Nat) : Int)], [])
  | 0, i, m, hi, hm, hs => by
    have hr := kcount_round n m ks ks.length i
    rw [ifB_false (decide_eq_false (by omega))] at hr
    have e1 : ks.drop i = [] := List.drop_eq_nil_of_le (by omega)
    rw [e1, cntL]
    exact .stop _ _ _ (hr.trans (by simp)) (by simp)
  | j + 1, i, m, hi, hm, hs => by
    have hl : i < ks.length := by omega
    have hM : maxI = 9223372036854775807 := rfl
    have hr := kcount_round n m ks ks.length i
    have hmem := cnt_mem (List.getElem_mem hl)
    have hlen := cnt_len ks
    have hdm := deep_cnt ks[i]
    rw [ifB_true (decide_eq_true (by omega)), ifT_true (by simp only [Bool.and_eq_true, decide_eq_true_eq]; omega)] at hr
    simp only [Int.toNat_natCast, List.getElem?_eq_getElem hl, ifSome_s, wrap_succ (n := i) (by omega)] at hr
    rw [ifT_true (decide_eq_true ⟨by omega, by omega⟩)] at hr
    rw [List.drop_eq_getElem_cons hl, cntL]
    rw [List.drop_eq_getElem_cons hl, cntL] at hs
    have hx : IntKind.i64.wrap ((m : Int) + (cntR ks[i] : Int)) = ((m + cntR ks[i] : Nat) : Int) := by rw [wrap_id (by omega) (by omega)]; omega
    have ih := kcount_loop n ks h1 h2 j (i + 1) (m + cntR ks[i]) (by omega) (by omega) (by omega)
    rw [← Nat.add_assoc]
    exact .step _ _ _ _ (hr.trans (by rw [hx])) ih
theorem kcount_ok (n : Nat) : LoopsOk Try.prog (look [(157, .rd1 (kcountN n))]) (look [(3, kcountE n)]) 0 (Try.f157.body.getD .skip) := by
  refine loopsOk_one (a := body Try.f157 0) (by kernel_rfl) fun d ex d' h => ?_
  unfold kcountE at h
  dsimp only at h
  split at h
  · rename_i m ks k i
    obtain ⟨hc, hx⟩ := need_some h
    clear h
    obtain ⟨h0, h1, h2, h3, rfl, h5, h6, h7⟩ := of_decide_eq_true hc
    obtain ⟨m, rfl⟩ := Int.eq_ofNat_of_zero_le h0
    obtain ⟨i, rfl⟩ := Int.eq_ofNat_of_zero_le h2
    simp only [Int.toNat_natCast] at h3 hx h7
    have h8 := leaf_some hx
    obtain ⟨rfl, rfl⟩ := Prod.mk.inj h8
    exact kcount_loop n ks h5 h6 (ks.length - i) i m (by omega) (by omega) h7
  · cases h
theorem kcount_fun (n : Nat) (z : Rose Lab) (hc : cntR z ≤ n + 1 ∧ cntR z ≤ 1000000) : funK Try.prog (look [(157, .rd1 (kcountN n))]) (look [(3, kcountE n)]) Try.f157 [.tp LCd z 0] [] = some (.i .i64 (cntR z : Int), []) := by
  rw [kcount_tree]
  obtain ⟨x, ks⟩ := z
  obtain ⟨h1, h2⟩ := hc
  rw [cntR] at h1 h2
  have hd : List.drop (Int.toNat 0) ks = ks := rfl
  simp only [Rose.kids, Rose.lab] at *
  rw [ifT_true (decide_eq_true (by refine ⟨by omega, by omega, by omega, by simp, by trivial, by omega, by omega, ?_⟩; simp; omega))]
  rw [cntR]
  simp only [Int.toNat_one, Int.toNat_zero, List.drop_zero]
  rw [Nat.add_comm]
theorem kcount_con : ∀ n, (∀ m, m < n → Contract Try.prog 157 (Ent.rd1 (kcountN m)).F) → Contract Try.prog 157 (Ent.rd1 (kcountN n)).F
  | 0, _ => contract_no fun vs bs => by
    unfold Ent.F kcountN
    dsimp only
    split
    · rename_i z
      have := cnt_pos z
      have : decide (cntR z ≤ 0 ∧ cntR z ≤ 1000000) = false := decide_eq_false (by omega)
      rw [this]; rfl
    · rfl
  | n + 1, ih => by
    refine fun_contract' (KnowsL.cons (enters_fn Try.func157 (by kernel_rfl) (by kernel_rfl)) (ih n (Nat.lt_succ_self n)) KnowsL.nil).knows (Λ := (look [(3, kcountE n)])) Try.func157 (c := Try.f157.body.getD .skip) (by kernel_rfl) fun vs bs r hq hv hb => ?_
    unfold Ent.F kcountN at hq
    dsimp only at hq
    split at hq
    · rename_i z
      obtain ⟨hc, hx⟩ := need_some hq
      exact ⟨kcount_ok n, (kcount_fun n z (of_decide_eq_true hc)).trans hx⟩
    · cases hq
theorem kcount : Contract Try.prog 157 (Ent.rd1 kcountG).F := by
  refine contract_rec (F := fun n => (Ent.rd1 (kcountN n)).F) kcount_con fun vs bs r h => ?_
  unfold Ent.F kcountG at h
  dsimp only at h
  split at h
  · rename_i z
    obtain ⟨hc, hx⟩ := need_some h
    have hc := of_decide_eq_true hc
    refine ⟨1000000, ?_⟩
    show (Br.need (decide (cntR z ≤ 1000000 ∧ cntR z ≤ 1000000)) (.leaf (.i .i64 (cntR z : Int), []))).run = some r
    rw [decide_eq_true (show cntR z ≤ 1000000 ∧ cntR z ≤ 1000000 from ⟨hc, hc⟩)]
    exact hx
  · cases h
theorem kdeep_round (n : Nat) (y : Rose Lab) (m : Int) (ks : List (Rose Lab)) (k i : Int) : roundK Try.prog (look [(156, .rd1 (kdeepN n)), (110, .rd1 kholdsG)]) (look [(3, kdeepE n)]) 0 (body Try.f156 0) (kdeepE n) ([.tp LCd y 0, .i .i64 m, .sl (.tree LCd) ks, .i .i64 k, .i .i64 i], []) =
  ((ifB (decide (i < k)) (ifT (decide ((0 : Int) ≤ i) && decide (i < (↑ks.length : Int))) (ifSome ks[i.toNat]? fun z => ifT (decide (cntR z ≤ n ∧ cntR z ≤ (1000000 : Nat)))
 (some (Ex.normal, [V.tp LCd y (0 : Nat), V.i .i64 (if (↑(deepR z) : Int) > m then (↑(deepR z) : Int) else m), V.sl LCd.tree ks, V.i .i64 k, V.i .i64 (IntKind.i64.wrap (i
 + (1 : Int)))], [])))) (some (Ex.exit 0, [V.tp LCd y (0 : Nat), V.i .i64 m], []))) : _) := by kernel_rfl
theorem kdeep_tree (n : Nat) (z : Rose Lab) : funK Try.prog (look [(156, .rd1 (kdeepN n)), (110, .rd1 kholdsG)]) (look [(3, kdeepE n)]) Try.f156 [.tp LCd z 0] [] =
  ((ifT (decide ((0 : Int) ≤ (0 : Int) ∧ (0 : Int) ≤ (1000001 : Int) ∧ (0 : Int) ≤ (0 : Int) ∧ (0 : Nat) ≤ z.kids.length ∧ (↑z.kids.length : Int) = (↑z.kids.length : Int) ∧
 cntL z.kids ≤ n ∧ cntL z.kids ≤ (1000000 : Nat))) (ifB (holdsK z.lab.fst) (some (V.i .i64 (IntKind.i64.wrap ((↑(max (0 : Nat) (deepL (List.drop (0 : Nat) z.kids))) : Int)
 + (1 : Int))), [])) (some (V.i .i64 (↑(max (0 : Nat) (deepL (List.drop (0 : Nat) z.kids))) : Int), [])))) : _) := by kernel_rfl
theorem kdeep_loop (n : Nat) (y : Rose Lab) (ks : List (Rose Lab)) (h1 : cntL ks ≤ n) (h2 : cntL ks ≤ 1000000) : ∀ (j i m : Nat), i + j = ks.length → m ≤ 1000001 →
    Runs Try.prog (look [(156, .rd1 (kdeepN n)), (110, .rd1 kholdsG)]) (look [(3, kdeepE n)]) 0 (body Try.f156 0) (kdeepE n) ([.tp LCd y 0, .i .i64 (m : Int), .sl (.tree LCd) ks, .i .i64 (ks.length : Int), .i .i64 (i : Int)], []) (.exit 0) ([.tp LCd y 0, .i .i64 ((max m (deepL (ks.drop i)) : Nat) : Int)], [])
  | 0, i, m, hi, hm => by
    have hr := kdeep_round n y m ks ks.length i
    rw [ifB_false (decide_eq_false (by omega))] at hr
    have e1 : ks.drop i = [] := List.drop_eq_nil_of_le (by omega)
    rw [e1, deepL]
    exact .stop _ _ _ (hr.trans (by simp)) (by simp)
  | j + 1, i, m, hi, hm => by
    have hl : i < ks.length := by omega
    have hM : maxI = 9223372036854775807 := rfl
    have hr := kdeep_round n y m ks ks.length i
    have hmem := cnt_mem (List.getElem_mem hl)
    have hlen := cnt_len ks
    have hdm := deep_cnt ks[i]
    rw [ifB_true (decide_eq_true (by omega)), ifT_true (by simp only [Bool.and_eq_true, decide_eq_true_eq]; omega)] at hr
    simp only [Int.toNat_natCast, List.getElem?_eq_getElem hl, ifSome_s, wrap_succ (n := i) (by omega)] at hr
    rw [ifT_true (decide_eq_true ⟨by omega, by omega⟩)] at hr
    rw [List.drop_eq_getElem_cons hl, deepL]
    have hx : (if (deepR ks[i] : Int) > (m : Int) then (deepR ks[i] : Int) else (m : Int)) = ((max m (deepR ks[i]) : Nat) : Int) := by split <;> omega
    have ih := kdeep_loop n y ks h1 h2 j (i + 1) (max m (deepR ks[i])) (by omega) (by omega)
    rw [← Nat.max_assoc]
    exact .step _ _ _ _ (hr.trans (by rw [hx])) ih
theorem kdeep_ok (n : Nat) : LoopsOk Try.prog (look [(156, .rd1 (kdeepN n)), (110, .rd1 kholdsG)]) (look [(3, kdeepE n)]) 0 (Try.f156.body.getD .skip) := by
  refine loopsOk_one (a := body Try.f156 0) (by kernel_rfl) fun d ex d' h => ?_
  unfold kdeepE at h
  dsimp only at h
  split at h
  · rename_i y m ks k i
    obtain ⟨hc, hx⟩ := need_some h
    clear h
    obtain ⟨h0, h1, h2, h3, rfl, h5, h6⟩ := of_decide_eq_true hc
    obtain ⟨m, rfl⟩ := Int.eq_ofNat_of_zero_le h0
    obtain ⟨i, rfl⟩ := Int.eq_ofNat_of_zero_le h2
    simp only [Int.toNat_natCast] at h3 hx
    have h8 := leaf_some hx
    obtain ⟨rfl, rfl⟩ := Prod.mk.inj h8
    exact kdeep_loop n y ks h5 h6 (ks.length - i) i m (by omega) (by omega)
  · cases h
theorem kdeep_fun (n : Nat) (z : Rose Lab) (hc : cntR z ≤ n + 1 ∧ cntR z ≤ 1000000) : funK Try.prog (look [(156, .rd1 (kdeepN n)), (110, .rd1 kholdsG)]) (look [(3, kdeepE n)]) Try.f156 [.tp LCd z 0] [] = some (.i .i64 (deepR z : Int), []) := by
  rw [kdeep_tree]
  obtain ⟨x, ks⟩ := z
  obtain ⟨h1, h2⟩ := hc
  rw [cntR] at h1 h2
  have hd : List.drop (Int.toNat 0) ks = ks := rfl
  simp only [Rose.kids, Rose.lab] at *
  rw [ifT_true (decide_eq_true (by refine ⟨by omega, by omega, by omega, by simp, by trivial, by omega, by omega⟩))]
  have hdp := deepL_cnt ks
  rw [deepR]
  simp only [Int.toNat_zero, List.drop_zero, Nat.zero_max]
  cases hx : holdsK x.1 with
  | true => rw [ifB_t, wrap_id (by omega) (by omega)]; simp
  | false => rw [ifB_f]; simp
theorem kdeep_con : ∀ n, (∀ m, m < n → Contract Try.prog 156 (Ent.rd1 (kdeepN m)).F) → Contract Try.prog 156 (Ent.rd1 (kdeepN n)).F
  | 0, _ => contract_no fun vs bs => by
    unfold Ent.F kdeepN
    dsimp only
    split
    · rename_i z
      have := cnt_pos z
      have : decide (cntR z ≤ 0 ∧ cntR z ≤ 1000000) = false := decide_eq_false (by omega)
      rw [this]; rfl
    · rfl
  | n + 1, ih => by
    refine fun_contract' (KnowsL.cons (enters_fn Try.func156 (by kernel_rfl) (by kernel_rfl)) (ih n (Nat.lt_succ_self n)) (KnowsL.cons (enters_fn Try.func110 (by kernel_rfl) (by kernel_rfl)) kholds KnowsL.nil)).knows (Λ := (look [(3, kdeepE n)])) Try.func156 (c := Try.f156.body.getD .skip) (by kernel_rfl) fun vs bs r hq hv hb => ?_
    unfold Ent.F kdeepN at hq
    dsimp only at hq
    split at hq
    · rename_i z
      obtain ⟨hc, hx⟩ := need_some hq
      exact ⟨kdeep_ok n, (kdeep_fun n z (of_decide_eq_true hc)).trans hx⟩
    · cases hq
theorem kdeep : Contract Try.prog 156 (Ent.rd1 kdeepG).F := by
  refine contract_rec (F := fun n => (Ent.rd1 (kdeepN n)).F) kdeep_con fun vs bs r h => ?_
  unfold Ent.F kdeepG at h
  dsimp only at h
  split at h
  · rename_i z
    obtain ⟨hc, hx⟩ := need_some h
    have hc := of_decide_eq_true hc
    refine ⟨1000000, ?_⟩
    show (Br.need (decide (cntR z ≤ 1000000 ∧ cntR z ≤ 1000000)) (.leaf (.i .i64 (deepR z : Int), []))).run = some r
    rw [decide_eq_true (show cntR z ≤ 1000000 ∧ cntR z ≤ 1000000 from ⟨hc, hc⟩)]
    exact hx
  · cases h
/-- The number of the one ahead of a place is as great or greater. -/
def prevGe (zk : List (Rose Lab)) (i : Nat) (n : Int) : Bool := match i with
  | 0 => false
  | i + 1 => match zk[i]? with | some y => decide (y.lab.2.2.1 ≥ n) | none => false
/-- Parts of a message: names each once, numbers rising. -/
def msgL (zk : List (Rose Lab)) : Nat → List (List UInt8 × Bool) → List (Rose Lab) → Bool
  | _, _, [] => true
  | i, seen, z :: l => if ((mget .str seen z.lab.2.1).getD false || prevGe zk i z.lab.2.2.1) = true then false else msgL zk (i + 1) (mput .str seen z.lab.2.1 true) l
/-- Whether the parts of a type by themselves fit. -/
def partsB (x : Lab) (ks : List (Rose Lab)) : Bool :=
  if x.1 = 1 ∨ x.1 = 2 then x.2.2.2.2.1 == 0 && ks.length == 0
  else if x.1 = 3 then decide (0 ≤ x.2.2.2.2.1 ∧ x.2.2.2.2.1 ≤ 20) && ks.length == 0
  else if x.1 = 4 then x.2.2.2.2.1 == 0 && ks.length == 1
  else if x.1 ≠ 5 ∨ x.2.2.2.2.1 ≠ 0 then false
  else msgL ks 0 [] ks
def partsOKG : List V → List Blk → Br (V × List (Option Blk))
  | [.tp (.pair (.int .i64) (.pair .str (.pair (.int .i64) (.pair .bool (.pair (.int .i64) .unit))))) z 0], [] => .need (decide (z.kids.length ≤ maxI)) (.leaf (.b (partsB z.lab z.kids), []))
  | _, _ => .no
def poE : LoopEnt := ⟨113, [0,3,72,73,74], [], [2], fun
  | ([.tp (.pair (.int .i64) (.pair .str (.pair (.int .i64) (.pair .bool (.pair (.int .i64) .unit))))) z 0, .mref 0, .sl (.tree (.pair (.int .i64) (.pair .str (.pair (.int .i64) (.pair .bool (.pair (.int .i64) .unit)))))) ks, .i .i64 k, .i .i64 i], [some (.mp .str .bool seen)]) => .need (decide (0 ≤ i ∧ i.toNat ≤ ks.length ∧ k = ks.length ∧ ks.length ≤ maxI ∧ z.kids.length = ks.length)) (.br (msgL z.kids i.toNat seen (ks.drop i.toNat)) (.leaf (.exit 1, ([], []))) (.leaf (.ret, ([.b false], []))))
  | _ => .no⟩
theorem po_round (z : Rose Lab) (ks : List (Rose Lab)) (seen : List (List UInt8 × Bool)) (k i : Int) : roundK Try.prog (look [(66, .rd1 withinG)]) (look [(13, poE)]) 0 (body Try.f190 0) poE ([.tp LCd z 0, .mref 0, .sl (.tree LCd) ks, .i .i64 k, .i .i64 i], [some (.mp .str .bool seen)]) =
  ((ifB (decide (i < k)) (ifT (decide ((0 : Int) ≤ i) && decide (i < (↑ks.length : Int))) (ifSome ks[i.toNat]? fun z_1 => ifB ((mget Cd.str seen (Rose.lab z_1).snd.fst).getD
 false) (some (Ex.ret, [V.b false], [])) (ifB (decide (i > (0 : Int))) (ifT (decide ((0 : Int) ≤ IntKind.i64.wrap (i - (1 : Int))) && decide (IntKind.i64.wrap (i - (1 :
 Int)) < (↑z.kids.length : Int))) (ifSome z.kids[(IntKind.i64.wrap (i - (1 : Int))).toNat]? fun z_2 => ifB (decide ((Rose.lab z_2).snd.snd.fst ≥ (Rose.lab
 z_1).snd.snd.fst)) (some (Ex.ret, [V.b false], [])) (some (Ex.normal, [V.tp LCd z (0 : Nat), V.mref (0 : Nat), V.sl LCd.tree ks, V.i .i64 k, V.i .i64 (IntKind.i64.wrap (i
 + (1 : Int)))], [some (Blk.mp Cd.str Cd.bool (mput Cd.str seen (Rose.lab z_1).snd.fst true))])))) (some (Ex.normal, [V.tp LCd z (0 : Nat), V.mref (0 : Nat), V.sl LCd.tree
 ks, V.i .i64 k, V.i .i64 (IntKind.i64.wrap (i + (1 : Int)))], [some (Blk.mp Cd.str Cd.bool (mput Cd.str seen (Rose.lab z_1).snd.fst true))]))))) (some (Ex.exit 1, [],
 []))) : _) := by kernel_rfl
theorem po_tree (z : Rose Lab) : funK Try.prog (look [(66, .rd1 withinG)]) (look [(13, poE)]) Try.f190 [.tp LCd z 0] [] =
  ((ifB (z.lab.fst == (1 : Int)) (ifB (z.lab.fst == (1 : Int)) (ifB (z.lab.snd.snd.snd.snd.fst == (0 : Int)) (some (V.b ((↑z.kids.length : Int) == (0 : Int)), [])) (some (V.b
 false, []))) (ifB (z.lab.fst == (3 : Int)) (ifB (decide ((0 : Int) ≤ z.lab.snd.snd.snd.snd.fst ∧ z.lab.snd.snd.snd.snd.fst ≤ (20 : Int))) (some (V.b ((↑z.kids.length :
 Int) == (0 : Int)), [])) (some (V.b false, []))) (ifB (z.lab.fst == (4 : Int)) (ifB (z.lab.snd.snd.snd.snd.fst == (0 : Int)) (some (V.b ((↑z.kids.length : Int) == (1 :
 Int)), [])) (some (V.b false, []))) (ifB (z.lab.fst != (5 : Int)) (some (V.b false, [])) (ifB (z.lab.snd.snd.snd.snd.fst != (0 : Int)) (some (V.b false, [])) (ifT (decide
 ((0 : Int) ≤ (0 : Int) ∧ (0 : Nat) ≤ z.kids.length ∧ (↑z.kids.length : Int) = (↑z.kids.length : Int) ∧ z.kids.length ≤ maxI ∧ z.kids.length = z.kids.length)) (ifB (msgL
 z.kids (0 : Nat) (nilT (Cd.str.den × Cd.bool.den)) (List.drop (0 : Nat) z.kids)) (some (V.b true, [])) (some (V.b false, []))))))))) (ifB (z.lab.fst == (2 : Int)) (ifB
 (z.lab.snd.snd.snd.snd.fst == (0 : Int)) (some (V.b ((↑z.kids.length : Int) == (0 : Int)), [])) (some (V.b false, []))) (ifB (z.lab.fst == (3 : Int)) (ifB (decide ((0 :
 Int) ≤ z.lab.snd.snd.snd.snd.fst ∧ z.lab.snd.snd.snd.snd.fst ≤ (20 : Int))) (some (V.b ((↑z.kids.length : Int) == (0 : Int)), [])) (some (V.b false, []))) (ifB (z.lab.fst
 == (4 : Int)) (ifB (z.lab.snd.snd.snd.snd.fst == (0 : Int)) (some (V.b ((↑z.kids.length : Int) == (1 : Int)), [])) (some (V.b false, []))) (ifB (z.lab.fst != (5 : Int))
 (some (V.b false, [])) (ifB (z.lab.snd.snd.snd.snd.fst != (0 : Int)) (some (V.b false, [])) (ifT (decide ((0 : Int) ≤ (0 : Int) ∧ (0 : Nat) ≤ z.kids.length ∧
 (↑z.kids.length : Int) = (↑z.kids.length : Int) ∧ z.kids.length ≤ maxI ∧ z.kids.length = z.kids.length)) (ifB (msgL z.kids (0 : Nat) (nilT (Cd.str.den × Cd.bool.den))
 (List.drop (0 : Nat) z.kids)) (some (V.b true, [])) (some (V.b false, [])))))))))) : _) := by kernel_rfl
theorem po_loop (z : Rose Lab) (ks : List (Rose Lab)) (hz : z.kids.length = ks.length) (hm : ks.length ≤ maxI) : ∀ (j i : Nat) (seen : List (List UInt8 × Bool)), i + j = ks.length → ∀ ex d, (Br.br (msgL z.kids i seen (ks.drop i)) (.leaf (.exit 1, ([], []))) (.leaf (.ret, ([.b false], []))) : Br (Ex × Dt)).run = some (ex, d) →
    Runs Try.prog (look [(66, .rd1 withinG)]) (look [(13, poE)]) 0 (body Try.f190 0) poE ([.tp LCd z 0, .mref 0, .sl (.tree LCd) ks, .i .i64 (ks.length : Int), .i .i64 (i : Int)], [some (.mp .str .bool seen)]) ex d
  | 0, i, seen, hi, ex, d, h => by
    have hr := po_round z ks seen ks.length i
    rw [ifB_false (decide_eq_false (by omega))] at hr
    have e1 : ks.drop i = [] := List.drop_eq_nil_of_le (by omega)
    rw [e1, msgL] at h
    have h8 := leaf_some h
    obtain ⟨rfl, rfl⟩ := Prod.mk.inj h8
    exact .stop _ _ _ hr (by simp)
  | j + 1, i, seen, hi, ex, d, h => by
    have hl : i < ks.length := by omega
    have hM : maxI = 9223372036854775807 := rfl
    have hr := po_round z ks seen ks.length i
    rw [ifB_true (decide_eq_true (by omega)), ifT_true (by simp only [Bool.and_eq_true, decide_eq_true_eq]; omega)] at hr
    simp only [Int.toNat_natCast, List.getElem?_eq_getElem hl, ifSome_s, wrap_succ (n := i) (by omega)] at hr
    rw [List.drop_eq_getElem_cons hl, msgL] at h
    have stop : ∀ {x : Option (Ex × Dt)}, x = some (.ret, ([.b false], [])) → (Br.br false (.leaf (.exit 1, ([], []))) (.leaf (.ret, ([.b false], []))) : Br (Ex × Dt)).run = some (ex, d) → x = some (ex, d) ∧ ex ≠ .normal := fun hx h => by
      have h8 := leaf_some h
      obtain ⟨rfl, rfl⟩ := Prod.mk.inj h8
      exact ⟨hx, by simp⟩
    cases h1 : (mget .str seen ks[i].lab.2.1).getD false with
    | true =>
      rw [h1, Bool.true_or, if_pos rfl] at h
      rw [h1, ifB_t] at hr
      obtain ⟨g1, g2⟩ := stop hr h
      exact .stop _ _ _ g1 g2
    | false =>
      rw [h1, Bool.false_or] at h
      rw [h1, ifB_f] at hr
      cases i with
      | zero =>
        rw [ifB_false (decide_eq_false (by omega))] at hr
        rw [prevGe, if_neg (by simp)] at h
        exact .step _ _ _ _ hr (po_loop z ks hz hm j 1 _ (by omega) ex d h)
      | succ i =>
        have hl' : i < z.kids.length := by omega
        have hw : IntKind.i64.wrap (((i + 1 : Nat) : Int) - 1) = (i : Int) := by rw [wrap_id (by omega) (by omega)]; omega
        rw [ifB_true (decide_eq_true (by omega)), hw, ifT_true (by simp only [Bool.and_eq_true, decide_eq_true_eq]; omega)] at hr
        simp only [Int.toNat_natCast, List.getElem?_eq_getElem hl', ifSome_s] at hr
        have hp : prevGe z.kids (i + 1) ks[i + 1].lab.2.2.1 = decide (z.kids[i].lab.2.2.1 ≥ ks[i + 1].lab.2.2.1) := by unfold prevGe; simp only [List.getElem?_eq_getElem hl']
        rw [hp] at h
        cases h2 : decide (z.kids[i].lab.2.2.1 ≥ ks[i + 1].lab.2.2.1) with
        | true =>
          rw [h2, if_pos rfl] at h
          rw [h2, ifB_t] at hr
          obtain ⟨g1, g2⟩ := stop hr h
          exact .stop _ _ _ g1 g2
        | false =>
          rw [h2, if_neg (by simp)] at h
          rw [h2, ifB_f] at hr
          exact .step _ _ _ _ hr (po_loop z ks hz hm j (i + 1 + 1) _ (by omega) ex d h)
theorem po_ok : LoopsOk Try.prog (look [(66, .rd1 withinG)]) (look [(13, poE)]) 0 (Try.f190.body.getD .skip) := by
  refine loopsOk_one (a := body Try.f190 0) (by kernel_rfl) fun d ex d' h => ?_
  unfold poE at h
  dsimp only at h
  split at h
  · rename_i z ks k i seen
    obtain ⟨hc, hx⟩ := need_some h
    clear h
    obtain ⟨h0, h1, rfl, h3, h4⟩ := of_decide_eq_true hc
    obtain ⟨i, rfl⟩ := Int.eq_ofNat_of_zero_le h0
    simp only [Int.toNat_natCast] at h1 hx
    exact po_loop z ks h4 h3 (ks.length - i) i seen (by omega) ex d' hx
  · cases h
theorem partsOK_fun (z : Rose Lab) (hc : z.kids.length ≤ maxI) : funK Try.prog (look [(66, .rd1 withinG)]) (look [(13, poE)]) Try.f190 [.tp LCd z 0] [] = some (.b (partsB z.lab z.kids), []) := by
  rw [po_tree]
  have hl : ∀ n : Nat, ((z.kids.length : Int) == (n : Int)) = (z.kids.length == n) := fun n => by
    by_cases h : z.kids.length = n
    · subst h; simp
    · rw [beq_false_of_ne h, beq_false_of_ne (by omega)]
  have hl0 : ((z.kids.length : Int) == 0) = (z.kids.length == 0) := hl 0
  have hl1 : ((z.kids.length : Int) == 1) = (z.kids.length == 1) := hl 1
  have hd : decide ((0 : Int) ≤ 0 ∧ 0 ≤ z.kids.length ∧ (z.kids.length : Int) = (z.kids.length : Int) ∧ z.kids.length ≤ maxI ∧ z.kids.length = z.kids.length) = true := decide_eq_true ⟨by omega, by omega, rfl, hc, rfl⟩
  unfold partsB
  rw [List.drop_zero, hl0, hl1]
  by_cases a1 : z.lab.1 = 1
  · rw [if_pos (.inl a1), a1]
    cases z.lab.2.2.2.2.1 == 0 <;> rfl
  by_cases a2 : z.lab.1 = 2
  · rw [if_pos (.inr a2), a2]
    cases z.lab.2.2.2.2.1 == 0 <;> rfl
  rw [ifB_false (beq_false_of_ne a1), ifB_false (beq_false_of_ne a2), if_neg (by rintro (h | h); exact a1 h; exact a2 h)]
  by_cases a3 : z.lab.1 = 3
  · rw [if_pos a3, a3, ifB_true (by rfl)]
    by_cases a5 : 0 ≤ z.lab.2.2.2.2.1 ∧ z.lab.2.2.2.2.1 ≤ 20
    · rw [decide_eq_true a5]; rfl
    · rw [decide_eq_false a5]; rfl
  rw [ifB_false (beq_false_of_ne a3), if_neg a3]
  by_cases a4 : z.lab.1 = 4
  · rw [if_pos a4, a4, ifB_true (by rfl)]
    cases z.lab.2.2.2.2.1 == 0 <;> rfl
  rw [ifB_false (beq_false_of_ne a4), if_neg a4]
  by_cases a5 : z.lab.1 = 5
  · rw [ifB_false (by rw [a5]; rfl)]
    by_cases a6 : z.lab.2.2.2.2.1 = 0
    · rw [ifB_false (by rw [a6]; rfl), if_neg (by rintro (h | h); exact h a5; exact h a6), hd, ifT_t]
      cases msgL z.kids 0 [] z.kids <;> rfl
    · rw [ifB_true (by simpa using a6), if_pos (.inr a6)]
  · rw [ifB_true (by simpa using a5), if_pos (.inl a5)]
theorem partsOK : Contract Try.prog 190 (Ent.rd1 partsOKG).F := by
  refine fun_contract' (KnowsL.cons (enters_fn Try.func66 (by kernel_rfl) (by kernel_rfl)) within KnowsL.nil).knows (Λ := (look [(13, poE)])) Try.func190 (c := Try.f190.body.getD .skip) (by kernel_rfl) fun vs bs r hq hv hb => ?_
  unfold Ent.F partsOKG at hq
  dsimp only at hq
  split at hq
  · rename_i z
    obtain ⟨hc, hx⟩ := need_some hq
    exact ⟨po_ok, (partsOK_fun z (of_decide_eq_true hc)).trans hx⟩
  · cases hq
/-- The first that p takes, counted from n; -1: none. -/
def firstP {α : Type} (p : α → Bool) : Nat → List α → Int
  | _, [] => -1
  | n, z :: l => if p z = true then (n : Int) else firstP p (n + 1) l
mutual
/-- Whether a tree and all in it are right. -/
def rightR : Rose Lab → Bool
  | .node x ks => partsB x ks && rightL x.1 ks
def rightL (k : Int) : List (Rose Lab) → Bool
  | [] => true
  | z :: l => (partB k z.lab && rightR z) && rightL k l
end
mutual
/-- The names in a tree are no longer than a number can say. -/
def namR : Rose Lab → Bool
  | .node x ks => decide (x.2.1.length ≤ maxI) && namL ks
def namL : List (Rose Lab) → Bool
  | [] => true
  | z :: l => namR z && namL l
end
/-- Whether a tree is a good schema. -/
def goodR (z : Rose Lab) : Bool := z.lab.1 == 5 && z.lab.2.1 == [] && z.lab.2.2.1 == 0 && !z.lab.2.2.2.1 && rightR z && decide (deepR z ≤ 5) && decide (cntR z ≤ 30)
def badP (k : Int) (z : Rose Lab) : Bool := !(partB k z.lab && rightR z)
def kright (n : Nat) : List V → List Blk → Br (V × List (Option Blk))
  | [.tp (.pair (.int .i64) (.pair .str (.pair (.int .i64) (.pair .bool (.pair (.int .i64) .unit))))) z 0], [] => .need (decide (cntR z ≤ n ∧ cntR z ≤ 1000000 ∧ namR z = true)) (.leaf (.b (rightR z), []))
  | _, _ => .no
def krightC (n : Nat) : List V → List Blk → Br (V × List (Option Blk))
  | [.tp (.pair (.int .i64) (.pair .str (.pair (.int .i64) (.pair .bool (.pair (.int .i64) .unit))))) z 0, .bx [.tp (.pair (.int .i64) (.pair .str (.pair (.int .i64) (.pair .bool (.pair (.int .i64) .unit))))) y 0] 0], [] => .need (decide (cntR z ≤ n ∧ cntR z ≤ 1000000 ∧ namR z = true)) (.leaf (.b (badP y.lab.1 z), []))
  | _, _ => .no
def rightG : List V → List Blk → Br (V × List (Option Blk))
  | [.tp (.pair (.int .i64) (.pair .str (.pair (.int .i64) (.pair .bool (.pair (.int .i64) .unit))))) z 0], [] => .need (decide (cntR z ≤ 1000000 ∧ namR z = true)) (.leaf (.b (rightR z), []))
  | _, _ => .no
def kgoodG : List V → List Blk → Br (V × List (Option Blk))
  | [.tp (.pair (.int .i64) (.pair .str (.pair (.int .i64) (.pair .bool (.pair (.int .i64) .unit))))) z 0], [] => .need (decide (cntR z ≤ 1000000 ∧ namR z = true)) (.leaf (.b (goodR z), []))
  | _, _ => .no
def krE (n : Nat) : LoopEnt := ⟨19, [0,1,4,7,8], [], [4], fun
  | ([.sl (.tree (.pair (.int .i64) (.pair .str (.pair (.int .i64) (.pair .bool (.pair (.int .i64) .unit)))))) l, .fn 192 [] [.ptr 0 0], .i .i64 r, .i .i64 k, .i .i64 i], [some (.box [.tp (.pair (.int .i64) (.pair .str (.pair (.int .i64) (.pair .bool (.pair (.int .i64) .unit))))) y 0])]) =>
    .need (decide (0 ≤ i ∧ i.toNat ≤ l.length ∧ l.length ≤ maxI ∧ k = l.length) && l.all (fun z : Rose Lab => decide (cntR z ≤ n ∧ cntR z ≤ 1000000 ∧ namR z = true))) (.br (decide (firstP (fun z : Rose Lab => badP y.lab.1 z) i.toNat (l.drop i.toNat) < 0)) (.leaf (.exit 0, ([], [some (.box [.tp (.pair (.int .i64) (.pair .str (.pair (.int .i64) (.pair .bool (.pair (.int .i64) .unit))))) y 0])]))) (.leaf (.ret, ([.i .i64 (firstP (fun z : Rose Lab => badP y.lab.1 z) i.toNat (l.drop i.toNat))], [some (.box [.tp (.pair (.int .i64) (.pair .str (.pair (.int .i64) (.pair .bool (.pair (.int .i64) .unit))))) y 0])]))))
  | _ => .no⟩
def kriG (n : Nat) : List V → List Blk → Br (V × List (Option Blk))
  | [.sl (.tree (.pair (.int .i64) (.pair .str (.pair (.int .i64) (.pair .bool (.pair (.int .i64) .unit)))))) l, .fn 192 [] [.ptr 0 0]], [.box [.tp (.pair (.int .i64) (.pair .str (.pair (.int .i64) (.pair .bool (.pair (.int .i64) .unit))))) y 0]] => .need (l.all (fun z : Rose Lab => decide (cntR z ≤ n ∧ cntR z ≤ 1000000 ∧ namR z = true))) (.leaf (.i .i64 (firstP (fun z : Rose Lab => badP y.lab.1 z) 0 l), [some (.box [.tp (.pair (.int .i64) (.pair .str (.pair (.int .i64) (.pair .bool (.pair (.int .i64) .unit))))) y 0])]))
  | _, _ => .no
def krhG (n : Nat) : List V → List Blk → Br (V × List (Option Blk))
  | [.sl (.tree (.pair (.int .i64) (.pair .str (.pair (.int .i64) (.pair .bool (.pair (.int .i64) .unit)))))) l, .fn 192 [] [.ptr 0 0]], [.box [.tp (.pair (.int .i64) (.pair .str (.pair (.int .i64) (.pair .bool (.pair (.int .i64) .unit))))) y 0]] => .need (l.all (fun z : Rose Lab => decide (cntR z ≤ n ∧ cntR z ≤ 1000000 ∧ namR z = true))) (.leaf (.b (l.any (fun z : Rose Lab => badP y.lab.1 z)), [some (.box [.tp (.pair (.int .i64) (.pair .str (.pair (.int .i64) (.pair .bool (.pair (.int .i64) .unit))))) y 0])]))
  | _, _ => .no
theorem firstP_ge {α : Type} (p : α → Bool) : ∀ (l : List α) (n : Nat), (firstP p n l = -1 ∧ l.any p = false) ∨ ((n : Int) ≤ firstP p n l ∧ firstP p n l < n + l.length ∧ l.any p = true)
  | [], n => .inl ⟨rfl, rfl⟩
  | z :: l, n => by
    rw [firstP, List.any_cons]
    by_cases h : p z = true
    · rw [if_pos h, h]; exact .inr ⟨Int.le_refl _, by simp; omega, rfl⟩
    · rw [if_neg h, show p z = false by simpa using h, Bool.false_or]
      rcases firstP_ge p l (n + 1) with ⟨h1, h2⟩ | ⟨h1, h2, h3⟩
      · exact .inl ⟨h1, h2⟩
      · exact .inr ⟨by omega, by simp; omega, h3⟩
theorem firstP_any {α : Type} (p : α → Bool) (l : List α) (n : Nat) : decide (firstP p n l ≥ 0) = l.any p := by
  rcases firstP_ge p l n with ⟨h1, h2⟩ | ⟨h1, h2, h3⟩
  · rw [h2]; exact decide_eq_false (by omega)
  · rw [h3]; exact decide_eq_true (by omega)
theorem firstP_neg {α : Type} (p : α → Bool) (l : List α) (n : Nat) (h : firstP p n l < 0) : firstP p n l = -1 := by
  rcases firstP_ge p l n with ⟨h1, h2⟩ | ⟨h1, h2⟩
  · exact h1
  · omega
theorem firstP_at {α : Type} (p : α → Bool) : ∀ (l : List α) (n : Nat), 0 ≤ firstP p n l → ∃ i, ∃ h : i < l.length, firstP p n l = ((n + i : Nat) : Int) ∧ p l[i] = true ∧ l.find? p = some l[i]
  | [], n, h => by rw [firstP] at h; omega
  | z :: l, n, h => by
    rw [firstP] at h ⊢
    by_cases hp : p z = true
    · rw [if_pos hp]; exact ⟨0, by simp, by simp, hp, by simp [hp]⟩
    · rw [if_neg hp] at h ⊢
      obtain ⟨i, h1, h2, h3, h4⟩ := firstP_at p l (n + 1) h
      exact ⟨i + 1, by simp; omega, by rw [h2]; congr 1; omega, by simpa using h3, by simp [hp, h4]⟩
theorem firstP_no {α : Type} (p : α → Bool) : ∀ (l : List α) (n : Nat), firstP p n l < 0 → l.find? p = none
  | [], n, _ => rfl
  | z :: l, n, h => by
    rw [firstP] at h
    by_cases hp : p z = true
    · rw [if_pos hp] at h; omega
    · rw [if_neg hp] at h
      simp [hp, firstP_no p l (n + 1) h]
theorem namL_mem {z : Rose Lab} : ∀ {l : List (Rose Lab)}, namL l = true → z ∈ l → namR z = true
  | [], _, h => by cases h
  | y :: l, hn, h => by
    rw [namL, Bool.and_eq_true] at hn
    rcases List.mem_cons.1 h with rfl | h
    · exact hn.1
    · exact namL_mem hn.2 h
theorem namR_lab {z : Rose Lab} (h : namR z = true) : z.lab.2.1.length ≤ maxI := by
  cases z
  rw [namR, Bool.and_eq_true] at h
  exact of_decide_eq_true h.1
theorem namR_kids {z : Rose Lab} (h : namR z = true) : namL z.kids = true := by
  cases z
  rw [namR, Bool.and_eq_true] at h
  exact h.2
theorem rightL_any (k : Int) : ∀ l : List (Rose Lab), rightL k l = !(l.any fun z => badP k z)
  | [] => rfl
  | z :: l => by rw [rightL, rightL_any k l, List.any_cons, badP]; cases partB k z.lab <;> cases rightR z <;> simp
theorem krightC_con (n : Nat) (hf : Contract Try.prog 155 (Ent.rd1 (kright n)).F) : Contract Try.prog 192 (Ent.rd1 (krightC n)).F := by
  refine fun_contract' (KnowsL.cons (enters_fn Try.func193 (by kernel_rfl) (by kernel_rfl)) partOf (KnowsL.cons (enters_fn Try.func155 (by kernel_rfl) (by kernel_rfl)) hf KnowsL.nil)).knows (Λ := look []) Try.func192 (c := Try.f192.body.getD .skip) (by kernel_rfl) fun vs bs r hq hv hb => ?_
  unfold Ent.F krightC at hq
  dsimp only at hq
  split at hq
  · rename_i z y
    obtain ⟨hc, hx⟩ := need_some hq
    refine ⟨loopsOk_nil _, Eq.trans ?_ hx⟩
    have e : funK Try.prog (look [(193, .rd1 partOfG), (155, .rd1 (kright n))]) (look []) Try.f192 [.tp LCd z 0, .bx [.tp LCd y 0] 0] [] = ((ifT (decide (List.length z.lab.snd.fst ≤ maxI)) (ifB (!partB y.lab.fst z.lab) (some (V.b true, [])) (ifT (decide (cntR z ≤ n ∧ cntR z ≤ (1000000 : Nat) ∧ namR z = true))
 (some (V.b !rightR z, []))))) : _) := by kernel_rfl
    have hn := of_decide_eq_true hc
    rw [e, ifT_true (decide_eq_true (namR_lab hn.2.2))]
    unfold badP
    cases partB y.lab.1 z.lab with
    | true => rw [ifT_true hc]; rfl
    | false => rfl
  · cases hq
theorem kr_round (n : Nat) (y : Rose Lab) (l : List (Rose Lab)) (r k i : Int) : roundK Try.prog (look [(192, .rd1 (krightC n))]) (look [(2, (krE n))]) 1 (body Try.f120 0) (krE n) ([.sl (.tree LCd) l, .fn 192 [] [.ptr 0 0], .i .i64 r, .i .i64 k, .i .i64 i], [some (.box [.tp LCd y 0])]) =
  ((ifB (decide (i < k)) (ifT (decide ((0 : Int) ≤ i) && decide (i < (↑l.length : Int))) (ifSome l[i.toNat]? fun z => ifT (decide (cntR z ≤ n ∧ cntR z ≤ (1000000 : Nat) ∧ namR
 z = true)) (ifB (badP y.lab.fst z) (some (Ex.ret, [V.i .i64 i], [some (Blk.box [V.tp LCd y (0 : Nat)])])) (some (Ex.normal, [V.sl LCd.tree l, V.fn
 192 [] [V.ptr 0 0], V.i .i64 r, V.i .i64 k, V.i .i64 (IntKind.i64.wrap (i + (1 : Int)))], [some (Blk.box [V.tp LCd y (0 : Nat)])]))))) (some
 (Ex.exit 0, [], [some (Blk.box [V.tp LCd y (0 : Nat)])]))) : _) := by kernel_rfl
theorem kr_loop (n : Nat) (y : Rose Lab) {l : List (Rose Lab)} {r : Int} (hx : l.length ≤ maxI) (hs : (l.all (fun z : Rose Lab => decide (cntR z ≤ n ∧ cntR z ≤ 1000000 ∧ namR z = true))) = true) : ∀ (j i : Nat), i + j = l.length → ∀ e d', (.br (decide (firstP (fun z : Rose Lab => badP y.lab.1 z) i (l.drop i) < 0)) (.leaf (.exit 0, ([], [some (.box [.tp LCd y 0])]))) (.leaf (.ret, ([.i .i64 (firstP (fun z : Rose Lab => badP y.lab.1 z) i (l.drop i))], [some (.box [.tp LCd y 0])]))) : Br (Ex × Dt)).run = some (e, d') →
    Runs Try.prog (look [(192, .rd1 (krightC n))]) (look [(2, (krE n))]) 1 (body Try.f120 0) (krE n) ([.sl (.tree LCd) l, .fn 192 [] [.ptr 0 0], .i .i64 r, .i .i64 (l.length : Int), .i .i64 (i : Int)], [some (.box [.tp LCd y 0])]) e d'
  | 0, i, hi, e, d', h => by
    have e1 : l.drop i = [] := List.drop_eq_nil_of_le (by omega)
    rw [e1, br_run, firstP, if_pos (by omega)] at h
    cases h
    have hr := kr_round n y l r l.length i
    rw [ifB_false (decide_eq_false (by omega))] at hr
    exact .stop _ _ _ hr (by simp)
  | j + 1, i, hi, e, d', h => by
    have h1 : i < l.length := by omega
    have hr := kr_round n y l r l.length i
    rw [ifB_true (decide_eq_true (by omega)), ifT_true (by simp only [Bool.and_eq_true, decide_eq_true_eq]; omega)] at hr
    simp only [Int.toNat_natCast, List.getElem?_eq_getElem h1, ifSome_s, wrap_succ (n := i) (by omega)] at hr
    have hz := of_decide_eq_true (List.all_eq_true.1 hs _ (List.getElem_mem h1))
    rw [ifT_true (by simpa only [Bool.and_eq_true, decide_eq_true_eq] using hz)] at hr
    rw [List.drop_eq_getElem_cons h1, br_run, firstP] at h
    by_cases he : (fun z : Rose Lab => badP y.lab.1 z) l[i] = true
    · rw [if_pos he, if_neg (by omega)] at h
      cases h
      rw [ifB_true he] at hr
      exact .stop _ _ _ hr (by simp)
    · rw [if_neg he] at h
      rw [ifB_false (by simpa using he)] at hr
      exact .step _ _ _ _ hr (kr_loop n y hx hs j (i + 1) (by omega) e d' (by rw [br_run]; exact h))
theorem kr_ok (n : Nat) : LoopsOk Try.prog (look [(192, .rd1 (krightC n))]) (look [(2, (krE n))]) 1 (Try.f120.body.getD .skip) := by
  refine loopsOk_one (a := body Try.f120 0) (by kernel_rfl) fun d e d' h => ?_
  unfold krE at h
  dsimp only at h
  split at h
  · obtain ⟨hc, h'⟩ := need_some h
    rw [Bool.and_eq_true] at hc
    obtain ⟨hc, hs⟩ := hc
    obtain ⟨h0, h1, h2, rfl⟩ := of_decide_eq_true hc
    obtain ⟨i, rfl⟩ := Int.eq_ofNat_of_zero_le h0
    exact kr_loop n _  h2 hs _ i (Nat.add_sub_of_le h1) e d' h'
  · cases h
theorem kr_fun (n : Nat) (y : Rose Lab) (l : List (Rose Lab)) (hx : l.length ≤ maxI) (hs : (l.all (fun z : Rose Lab => decide (cntR z ≤ n ∧ cntR z ≤ 1000000 ∧ namR z = true))) = true) : funK Try.prog (look [(192, .rd1 (krightC n))]) (look [(2, (krE n))]) Try.f120 [.sl (.tree LCd) l, .fn 192 [] [.ptr 0 0]] [.box [.tp LCd y 0]] = some (.i .i64 (firstP (fun z : Rose Lab => badP y.lab.1 z) 0 l), [some (.box [.tp LCd y 0])]) := by
  have e : funK Try.prog (look [(192, .rd1 (krightC n))]) (look [(2, (krE n))]) Try.f120 [.sl (.tree LCd) l, .fn 192 [] [.ptr 0 0]] [.box [.tp LCd y 0]] =
    ((ifT (decide ((0 : Int) ≤ (0 : Int) ∧ (0 : Nat) ≤ l.length ∧ l.length ≤ maxI ∧ (↑l.length : Int) = (↑l.length : Int)) && l.all fun z => decide (cntR z ≤ n ∧ cntR z ≤
 (1000000 : Nat) ∧ namR z = true)) (ifB (decide (firstP (fun z => badP y.lab.fst z) (0 : Nat) (List.drop (0 : Nat) l) < (0 : Int))) (some (V.i .i64 (-1), [some (Blk.box
 [V.tp LCd y (0 : Nat)])])) (some (V.i .i64 (firstP (fun z => badP y.lab.fst z) (0 : Nat) (List.drop (0 : Nat) l)), [some (Blk.box [V.tp LCd y (0 : Nat)])])))) : _) := by kernel_rfl
  rw [e, ifT_true (by rw [Bool.and_eq_true]; exact ⟨decide_eq_true ⟨by omega, by omega, hx, rfl⟩, hs⟩)]
  simp only [Int.toNat_zero, List.drop_zero]
  by_cases q : firstP (fun z : Rose Lab => badP y.lab.1 z) 0 l < 0
  · rw [ifB_true (decide_eq_true q), firstP_neg _ _ _ q]
  · rw [ifB_false (decide_eq_false q)]
theorem kr_idx (n : Nat) (hf : Contract Try.prog 192 (Ent.rd1 (krightC n)).F) : Contract Try.prog 120 (Ent.own (kriG n)).F := by
  refine fun_contract' (KnowsL.cons (enters_fn Try.func192 (by kernel_rfl) (by kernel_rfl)) hf KnowsL.nil).knows (Λ := (look [(2, (krE n))])) Try.func120 (c := Try.f120.body.getD .skip) (by kernel_rfl) fun vs bs r h hv hb => ?_
  unfold Ent.F kriG at h
  dsimp only at h
  split at h
  · rename_i l y
    obtain ⟨hc, h'⟩ := need_some h
    exact ⟨kr_ok n, (kr_fun n y l (hv (.sl (.tree LCd) l) (by simp)).1 hc).trans (by cases h'; rfl)⟩
  · cases h
theorem kr_hfun (n : Nat) (y : Rose Lab) (l : List (Rose Lab)) (hs : (l.all (fun z : Rose Lab => decide (cntR z ≤ n ∧ cntR z ≤ 1000000 ∧ namR z = true))) = true) : funK Try.prog (look [(120, .own (kriG n))]) (look []) Try.f191 [.sl (.tree LCd) l, .fn 192 [] [.ptr 0 0]] [.box [.tp LCd y 0]] = some (.b (l.any (fun z : Rose Lab => badP y.lab.1 z)), [some (.box [.tp LCd y 0])]) := by
  have e : funK Try.prog (look [(120, .own (kriG n))]) (look []) Try.f191 [.sl (.tree LCd) l, .fn 192 [] [.ptr 0 0]] [.box [.tp LCd y 0]] =
    ((ifT (l.all fun z => decide (cntR z ≤ n ∧ cntR z ≤ (1000000 : Nat) ∧ namR z = true)) (some (V.b (decide (firstP (fun z => badP y.lab.fst z) (0 : Nat) l ≥ (0 : Int))), [some
 (Blk.box [V.tp LCd y (0 : Nat)])]))) : _) := by kernel_rfl
  rw [e]
  rw [ifT_true hs]
  rw [firstP_any]
theorem kr_has (n : Nat) (hf : Contract Try.prog 192 (Ent.rd1 (krightC n)).F) : Contract Try.prog 191 (Ent.own (krhG n)).F := by
  refine fun_contract' (KnowsL.cons (enters_fn Try.func120 (by kernel_rfl) (by kernel_rfl)) (kr_idx n hf) KnowsL.nil).knows (Λ := look []) Try.func191 (c := Try.f191.body.getD .skip) (by kernel_rfl) fun vs bs r h hv hb => ?_
  unfold Ent.F krhG at h
  dsimp only at h
  split at h
  · rename_i l y
    obtain ⟨hc, h'⟩ := need_some h
    exact ⟨loopsOk_nil _, (kr_hfun n y l hc).trans (by cases h'; rfl)⟩
  · cases h
theorem kright_con : ∀ n, (∀ m, m < n → Contract Try.prog 155 (Ent.rd1 (kright m)).F) → Contract Try.prog 155 (Ent.rd1 (kright n)).F
  | 0, _ => contract_no fun vs bs => by
    unfold Ent.F kright
    dsimp only
    split
    · rename_i z
      have := cnt_pos z
      rw [decide_eq_false (show ¬ (cntR z ≤ 0 ∧ cntR z ≤ 1000000 ∧ namR z = true) by omega)]; rfl
    · rfl
  | n + 1, ih => by
    have hC := kr_has n (krightC_con n (ih n (Nat.lt_succ_self n)))
    refine fun_contract' (KnowsL.cons (enters_fn Try.func190 (by kernel_rfl) (by kernel_rfl)) partsOK (KnowsL.cons (enters_fn Try.func191 (by kernel_rfl) (by kernel_rfl)) hC KnowsL.nil)).knows (Λ := look []) Try.func155 (c := Try.f155.body.getD .skip) (by kernel_rfl) fun vs bs r hq hv hb => ?_
    unfold Ent.F kright at hq
    dsimp only at hq
    split at hq
    · rename_i z
      obtain ⟨hc, hx⟩ := need_some hq
      obtain ⟨h1, h2, h3⟩ := of_decide_eq_true hc
      refine ⟨loopsOk_nil _, Eq.trans ?_ hx⟩
      have e : funK Try.prog (look [(190, .rd1 partsOKG), (191, .own (krhG n))]) (look []) Try.f155 [.tp LCd z 0] [] = ((ifT (decide (z.kids.length ≤ maxI)) (ifB (partsB z.lab z.kids) (ifT (z.kids.all fun z => decide (cntR z ≤ n ∧ cntR z ≤ (1000000 : Nat) ∧ namR z = true)) (some (V.b
 !z.kids.any fun z_1 => badP z.lab.fst z_1, []))) (some (V.b false, [])))) : _) := by kernel_rfl
      rw [cnt_kids] at h1 h2
      have hl := cnt_len z.kids
      have hM : maxI = 9223372036854775807 := rfl
      have hall : (z.kids.all fun z : Rose Lab => decide (cntR z ≤ n ∧ cntR z ≤ 1000000 ∧ namR z = true)) = true := List.all_eq_true.2 fun w hw => decide_eq_true ⟨by have := cnt_mem hw; omega, by have := cnt_mem hw; omega, namL_mem (namR_kids h3) hw⟩
      rw [e, ifT_true (decide_eq_true (by omega))]
      have hr : rightR z = (partsB z.lab z.kids && !(z.kids.any fun w => badP z.lab.1 w)) := by cases z; rw [rightR, rightL_any]; rfl
      rw [hr]
      cases partsB z.lab z.kids with
      | true => rw [ifB_t, ifT_true hall]; rfl
      | false => rfl
    · cases hq
theorem right : Contract Try.prog 155 (Ent.rd1 rightG).F := by
  refine contract_rec (F := fun n => (Ent.rd1 (kright n)).F) kright_con fun vs bs r h => ?_
  unfold Ent.F rightG at h
  dsimp only at h
  split at h
  · rename_i z
    obtain ⟨hc, hx⟩ := need_some h
    obtain ⟨h1, h2⟩ := of_decide_eq_true hc
    refine ⟨1000000, ?_⟩
    show (Br.need (decide (cntR z ≤ 1000000 ∧ cntR z ≤ 1000000 ∧ namR z = true)) (.leaf (.b (rightR z), []))).run = some r
    rw [decide_eq_true (show cntR z ≤ 1000000 ∧ cntR z ≤ 1000000 ∧ namR z = true from ⟨h1, h1, h2⟩)]
    exact hx
  · cases h
theorem kgood : Contract Try.prog 109 (Ent.rd1 kgoodG).F := by
  refine fun_contract' (KnowsL.cons (enters_fn Try.func155 (by kernel_rfl) (by kernel_rfl)) right (KnowsL.cons (enters_fn Try.func156 (by kernel_rfl) (by kernel_rfl)) kdeep (KnowsL.cons (enters_fn Try.func157 (by kernel_rfl) (by kernel_rfl)) kcount KnowsL.nil))).knows (Λ := look []) Try.func109 (c := Try.f109.body.getD .skip) (by kernel_rfl) fun vs bs r hq hv hb => ?_
  unfold Ent.F kgoodG at hq
  dsimp only at hq
  split at hq
  · rename_i z
    obtain ⟨hc, hx⟩ := need_some hq
    obtain ⟨h1, h2⟩ := of_decide_eq_true hc
    refine ⟨loopsOk_nil _, Eq.trans ?_ hx⟩
    have e : funK Try.prog (look [(155, .rd1 rightG), (156, .rd1 kdeepG), (157, .rd1 kcountG)]) (look []) Try.f109 [.tp LCd z 0] [] = ((ifB (z.lab.fst == (5 : Int)) (ifB (z.lab.snd.fst == nilT UInt8) (ifB (z.lab.snd.snd.fst == (0 : Int)) (ifB (!z.lab.snd.snd.snd.fst) (ifT (decide (cntR z ≤ (1000000 : Nat)
 ∧ namR z = true)) (ifB (rightR z) (ifT (decide (cntR z ≤ (1000000 : Nat))) (ifB (decide ((↑(deepR z) : Int) ≤ (5 : Int))) (ifT (decide (cntR z ≤ (1000000 : Nat))) (some
 (V.b (decide ((↑(cntR z) : Int) ≤ (30 : Int))), []))) (some (V.b false, [])))) (some (V.b false, [])))) (some (V.b false, []))) (some (V.b false, []))) (some (V.b false,
 []))) (some (V.b false, []))) : _) := by kernel_rfl
    rw [e, decide_eq_true h1, hc]
    have d1 : decide ((deepR z : Int) ≤ 5) = decide (deepR z ≤ 5) := decide_eq_decide.2 (by omega)
    have d2 : decide ((cntR z : Int) ≤ 30) = decide (cntR z ≤ 30) := decide_eq_decide.2 (by omega)
    rw [d1, d2]
    unfold goodR
    cases z.lab.1 == 5 <;> cases z.lab.2.1 == [] <;> cases z.lab.2.2.1 == 0 <;> cases z.lab.2.2.2.1 <;> cases rightR z <;> cases decide (deepR z ≤ 5) <;> rfl
  · cases hq
/-- Whether types are a good schema. -/
def kindB (l : List Ty) : Bool := decide (1 ≤ l.length ∧ l.length ≤ 30) && decide (upAt l 0 = some (-1)) && (kf l 0).2 == l.length && goodR (kf l 0).1
def nmL (l : List Ty) : Bool := l.all fun x => decide (x.2.1.length ≤ maxI)
def kindOfG : List V → List Blk → Br (V × List (Option Blk))
  | [.agg [.sl (.pair (.int .i64) (.pair .str (.pair (.int .i64) (.pair .bool (.pair (.int .i64) (.pair (.int .i64) .unit)))))) l]], [] => .need (decide (l.length ≤ 4000000000) && nmL l) (.br (kindB l) (.leaf (.ptr 0 0, [some (.box [.i .i64 (kf l 0).1.lab.1, .s (kf l 0).1.lab.2.1, .i .i64 (kf l 0).1.lab.2.2.1, .b (kf l 0).1.lab.2.2.2.1, .i .i64 (kf l 0).1.lab.2.2.2.2.1, .ref 1 0 (kf l 0).1.kids.length]), some (.row false none (.tree (.pair (.int .i64) (.pair .str (.pair (.int .i64) (.pair .bool (.pair (.int .i64) .unit)))))) (kf l 0).1.kids)])) (.leaf (.np, [])))
  | _, _ => .no
def gschG : List V → List Blk → Br (V × List (Option Blk))
  | [.agg [.sl (.pair (.int .i64) (.pair .str (.pair (.int .i64) (.pair .bool (.pair (.int .i64) (.pair (.int .i64) .unit)))))) l]], [] => .need (decide (l.length ≤ 4000000000) && nmL l) (.leaf (.b (kindB l), []))
  | _, _ => .no
theorem kloop_cnt {l : List Ty} {g : Nat → Rose Lab × Nat} {a : Nat} (hg : ∀ e, e < l.length → e + cntR (g e).1 = (g e).2) : ∀ (n e : Nat) (ks : List (Rose Lab)), (kloop g l a n e ks).2 + cntL ks = e + cntL (kloop g l a n e ks).1
  | 0, e, ks => rfl
  | n + 1, e, ks => by
    unfold kloop
    split
    · rename_i hu
      have h1 := hg e (up_lt hu)
      have h2 := kloop_cnt (a := a) hg n (g e).2 (ks ++ [(g e).1])
      have h3 : ∀ (ks : List (Rose Lab)) (z : Rose Lab), cntL (ks ++ [z]) = cntL ks + cntR z := fun ks z => by
        induction ks with
        | nil => simp [cntL]
        | cons y ks ih => rw [List.cons_append, cntL, cntL, ih]; omega
      rw [h3] at h2
      omega
    · rfl
theorem kfr_cnt (l : List Ty) : ∀ f a, a < l.length → a + cntR (kfr l f a).1 = (kfr l f a).2
  | 0, a, h => by simp [kfr, cntR, cntL]
  | f + 1, a, h => by
    unfold kfr
    dsimp only
    cases holdsK (labAt l a).1 with
    | true =>
      have := kloop_cnt (a := a) (kfr_cnt l f) l.length (a + 1) []
      rw [cntL] at this
      rw [cond_true, cntR]; omega
    | false => rw [cond_false, cntR, cntL]
theorem kf_cnt {l : List Ty} {a : Nat} (h : a < l.length) : a + cntR (kf l a).1 = (kf l a).2 := kfr_cnt l l.length a h
theorem namL_app : ∀ (ks : List (Rose Lab)) (z : Rose Lab), namL ks = true → namR z = true → namL (ks ++ [z]) = true
  | [], z, _, h => by simp [namL, h]
  | y :: ks, z, h1, h2 => by
    rw [namL, Bool.and_eq_true] at h1
    rw [List.cons_append, namL, h1.1, namL_app ks z h1.2 h2]; rfl
theorem kloop_nam {l : List Ty} {g : Nat → Rose Lab × Nat} {a : Nat} (hg : ∀ e, namR (g e).1 = true) : ∀ (n e : Nat) (ks : List (Rose Lab)), namL ks = true → namL (kloop g l a n e ks).1 = true
  | 0, e, ks, h => h
  | n + 1, e, ks, h => by
    unfold kloop
    split
    · exact kloop_nam hg n _ _ (namL_app _ _ h (hg e))
    · exact h
theorem kfr_nam {l : List Ty} (hn : nmL l = true) : ∀ f a, namR (kfr l f a).1 = true := by
  have lab : ∀ a, (labAt l a).2.1.length ≤ maxI := fun a => by
    unfold labAt
    cases h : l[a]? with
    | none => exact Nat.zero_le _
    | some x => exact of_decide_eq_true (List.all_eq_true.1 hn x (List.mem_of_getElem? h))
  intro f
  induction f with
  | zero => intro a; simp [kfr, namR, namL, lab a]
  | succ f ih =>
    intro a
    unfold kfr
    dsimp only
    cases holdsK (labAt l a).1 with
    | true => rw [cond_true, namR, decide_eq_true (lab a), kloop_nam ih _ _ _ rfl]; rfl
    | false => rw [cond_false, namR, decide_eq_true (lab a)]; rfl
theorem kindOf_fun (l : List Ty) (h1 : l.length ≤ 4000000000) (h2 : nmL l = true) : funN Try.prog (look [(66, .rd1 withinG), (67, .rd1 kindFromG), (109, .rd1 kgoodG)]) (look []) Try.f48 [.agg [.sl TCd l]] [] = (.br (kindB l) (.leaf (.ptr 0 0, [some (.box [.i .i64 (kf l 0).1.lab.1, .s (kf l 0).1.lab.2.1, .i .i64 (kf l 0).1.lab.2.2.1, .b (kf l 0).1.lab.2.2.2.1, .i .i64 (kf l 0).1.lab.2.2.2.2.1, .ref 1 0 (kf l 0).1.kids.length]), some (.row false none (.tree LCd) (kf l 0).1.kids)])) (.leaf (.np, [])) : Br (V × List (Option Blk))).run := by
  have e : funN Try.prog (look [(66, .rd1 withinG), (67, .rd1 kindFromG), (109, .rd1 kgoodG)]) (look []) Try.f48 [.agg [.sl TCd l]] [] = ((ifB (!decide ((1 : Int) ≤ (↑l.length : Int) ∧ (↑l.length : Int) ≤ (30 : Int))) (some (V.np, [])) (ifT (decide ((0 : Int) ≤ (0 : Int)) && decide ((0 : Int) < (↑l.length :
 Int))) (ifSome l[(0 : Nat)]? fun z => ifB (z.snd.snd.snd.snd.fst != (-1 : Int)) (some (V.np, [])) (ifT (decide ((0 : Int) ≤ (0 : Int) ∧ (0 : Nat) < l.length ∧ l.length ≤
 (4000000000 : Nat))) (ifB ((↑(kf l (0 : Nat)).snd : Int) != (↑l.length : Int)) (some (V.np, [])) (ifT (decide (cntR (Rose.node ((kf l (0 : Nat)).fst.lab.fst, (kf l (0 :
 Nat)).fst.lab.snd.fst, (kf l (0 : Nat)).fst.lab.snd.snd.fst, (kf l (0 : Nat)).fst.lab.snd.snd.snd.fst, (kf l (0 : Nat)).fst.lab.snd.snd.snd.snd.fst, ()) (List.take (kf l
 (0 : Nat)).fst.kids.length (List.drop (0 : Nat) (kf l (0 : Nat)).fst.kids))) ≤ (1000000 : Nat) ∧ namR (Rose.node ((kf l (0 : Nat)).fst.lab.fst, (kf l (0 :
 Nat)).fst.lab.snd.fst, (kf l (0 : Nat)).fst.lab.snd.snd.fst, (kf l (0 : Nat)).fst.lab.snd.snd.snd.fst, (kf l (0 : Nat)).fst.lab.snd.snd.snd.snd.fst, ()) (List.take (kf l
 (0 : Nat)).fst.kids.length (List.drop (0 : Nat) (kf l (0 : Nat)).fst.kids))) = true)) (ifB (!goodR (Rose.node ((kf l (0 : Nat)).fst.lab.fst, (kf l (0 :
 Nat)).fst.lab.snd.fst, (kf l (0 : Nat)).fst.lab.snd.snd.fst, (kf l (0 : Nat)).fst.lab.snd.snd.snd.fst, (kf l (0 : Nat)).fst.lab.snd.snd.snd.snd.fst, ()) (List.take (kf l
 (0 : Nat)).fst.kids.length (List.drop (0 : Nat) (kf l (0 : Nat)).fst.kids)))) (some (V.np, [])) (some (V.ptr 0 0, [some (Blk.box [V.i .i64 (kf l (0 : Nat)).fst.lab.fst,
 V.s (kf l (0 : Nat)).fst.lab.snd.fst, V.i .i64 (kf l (0 : Nat)).fst.lab.snd.snd.fst, V.b (kf l (0 : Nat)).fst.lab.snd.snd.snd.fst, V.i .i64 (kf l (0 :
 Nat)).fst.lab.snd.snd.snd.snd.fst, V.ref 1 0 (kf l (0 : Nat)).fst.kids.length]), some (Blk.row false none LCd.tree (kf l (0 : Nat)).fst.kids)]))))))))) : _) := by kernel_rfl
  rw [e]
  clear e
  unfold kindB
  by_cases a1 : 1 ≤ l.length ∧ l.length ≤ 30
  · have hl : 0 < l.length := by omega
    have d1 : decide ((1 : Int) ≤ (l.length : Int) ∧ (l.length : Int) ≤ 30) = true := decide_eq_true (by omega)
    have d2 : (decide ((0 : Int) ≤ 0) && decide ((0 : Int) < (l.length : Int))) = true := by simp only [Bool.and_eq_true, decide_eq_true_eq]; omega
    have d3 : decide ((0 : Int) ≤ 0 ∧ 0 < l.length ∧ l.length ≤ 4000000000) = true := decide_eq_true ⟨by omega, hl, h1⟩
    have hc := kf_cnt hl
    have hb := kf_bnd l 0 hl
    have d4 : decide (cntR (kf l 0).1 ≤ 1000000 ∧ namR (kf l 0).1 = true) = true := decide_eq_true ⟨by omega, kfr_nam h2 _ _⟩
    have ht := rose_eta (kf l 0).1
    rw [List.drop_zero, List.take_length] at ht
    rw [d1, decide_eq_true a1]
    simp only [ifB_t, Bool.not_true, ifB_f, d2, ifT_t, Int.toNat_zero, List.getElem?_eq_getElem hl, ifSome_s, d3, List.drop_zero, List.take_length, ht, d4, Bool.true_and]
    have hu : upAt l 0 = some (l[0].2.2.2.2.1) := by unfold upAt; rw [List.getElem?_eq_getElem hl]; rfl
    rw [hu]
    by_cases a2 : l[0].2.2.2.2.1 = -1
    · rw [a2]
      by_cases a3 : (kf l 0).2 = l.length
      · rw [a3]
        cases goodR (kf l 0).1 <;> simp [Br.run]
      · rw [beq_false_of_ne a3]
        have : (((kf l 0).2 : Int) != (l.length : Int)) = true := by simpa using a3
        simp [this, Br.run]
    · have : (l[0].2.2.2.2.1 != (-1 : Int)) = true := by simpa using a2
      simp [a2, this, Br.run]
  · have d1 : decide ((1 : Int) ≤ (l.length : Int) ∧ (l.length : Int) ≤ 30) = false := decide_eq_false (by omega)
    rw [d1, decide_eq_false a1]
    rfl
theorem kindOf : Contract Try.prog 48 (Ent.rd1 kindOfG).F := by
  refine fun_contractN' (KnowsL.cons (enters_fn Try.func66 (by kernel_rfl) (by kernel_rfl)) within (KnowsL.cons (enters_fn Try.func67 (by kernel_rfl) (by kernel_rfl)) kindFrom (KnowsL.cons (enters_fn Try.func109 (by kernel_rfl) (by kernel_rfl)) kgood KnowsL.nil))).knows (Λ := look []) Try.func48 (c := Try.f48.body.getD .skip) (by kernel_rfl) fun vs bs r hq hv hb => ?_
  unfold Ent.F kindOfG at hq
  dsimp only at hq
  split at hq
  · rename_i l
    obtain ⟨hc, hx⟩ := need_some hq
    rw [Bool.and_eq_true] at hc
    exact ⟨loopsOk_nil _, (kindOf_fun l (of_decide_eq_true hc.1) hc.2).trans hx⟩
  · cases hq
theorem igsch : Contract Try.prog 65 (Ent.rd1 gschG).F := by
  refine fun_contract' (KnowsL.cons (enters_fn Try.func48 (by kernel_rfl) (by kernel_rfl)) kindOf KnowsL.nil).knows (Λ := look []) Try.func65 (c := Try.f65.body.getD .skip) (by kernel_rfl) fun vs bs r hq hv hb => ?_
  unfold Ent.F gschG at hq
  dsimp only at hq
  split at hq
  · rename_i l
    obtain ⟨hc, hx⟩ := need_some hq
    refine ⟨loopsOk_nil _, Eq.trans ?_ hx⟩
    have e : funK Try.prog (look [(48, .rd1 kindOfG)]) (look []) Try.f65 [.agg [.sl TCd l]] [] = ((ifT (decide (l.length ≤ (4000000000 : Nat)) && nmL l) (ifB (kindB l) (some (V.b true, [])) (some (V.b false, [])))) : _) := by kernel_rfl
    rw [e, ifT_true hc]
    cases kindB l <;> rfl
  · cases hq
/-- The places of the parts of a type, from a place on. -/
def kidsL (k : Int) : Nat → List Ty → List Int
  | _, [] => []
  | i, x :: l => if x.2.2.2.2.1 = k then (i : Int) :: kidsL k (i + 1) l else kidsL k (i + 1) l
def kidsAt (l : List Ty) (k : Nat) : List Int := kidsL k (k + 1) (l.drop (k + 1))
/-- The tree of a type, by the places of its parts. -/
def t2 (l : List Ty) : Nat → Nat → Rose Lab
  | 0, k => .node (labAt l k) []
  | f + 1, k => .node (labAt l k) ((kidsAt l k).map fun i => t2 l f i.toNat)
def t2L (l : List Ty) (k : Nat) : Rose Lab := t2 l l.length k
def l2KidsE : LoopEnt := ⟨29, [1,2,5,6], [5], [], fun
  | ([.i .i64 k, .ptr 0 0, .ref 1 0 n, .i .i64 i], [some (.box [.sl (.pair (.int .i64) (.pair .str (.pair (.int .i64) (.pair .bool (.pair (.int .i64) (.pair (.int .i64) .unit)))))) l]), some (.row false none (.int .i64) o)]) => .need (decide (0 ≤ i ∧ i.toNat ≤ l.length ∧ l.length ≤ 4000000000 ∧ n = o.length ∧ o.length ≤ i.toNat)) (.leaf (.exit 0, ([.ref 0 0 (o ++ kidsL k i.toNat (l.drop i.toNat)).length], [some (.row false none (.int .i64) (o ++ kidsL k i.toNat (l.drop i.toNat)))])))
  | _ => .no⟩
def l2KidsG : List V → List Blk → Br (V × List (Option Blk))
  | [.agg [.sl (.pair (.int .i64) (.pair .str (.pair (.int .i64) (.pair .bool (.pair (.int .i64) (.pair (.int .i64) .unit)))))) l], .i .i64 k], [] => .need (decide (0 ≤ k ∧ k.toNat < l.length ∧ l.length ≤ 4000000000)) (.leaf (.ref 0 0 (kidsAt l k.toNat).length, [some (.row false none (.int .i64) (kidsAt l k.toNat))]))
  | _, _ => .no
def l2TreeN (n : Nat) : List V → List Blk → Br (V × List (Option Blk))
  | [.agg [.sl (.pair (.int .i64) (.pair .str (.pair (.int .i64) (.pair .bool (.pair (.int .i64) (.pair (.int .i64) .unit)))))) l], .i .i64 k], [] => .need (decide (0 ≤ k ∧ k.toNat < l.length ∧ l.length ≤ 4000000000 ∧ l.length - k.toNat ≤ n)) (.leaf (.agg [.i .i64 (t2L l k.toNat).lab.1, .s (t2L l k.toNat).lab.2.1, .i .i64 (t2L l k.toNat).lab.2.2.1, .b (t2L l k.toNat).lab.2.2.2.1, .i .i64 (t2L l k.toNat).lab.2.2.2.2.1, .ref 0 0 (t2L l k.toNat).kids.length], [some (.row false none (.rose (.pair (.int .i64) (.pair .str (.pair (.int .i64) (.pair .bool (.pair (.int .i64) .unit)))))) (t2L l k.toNat).kids)]))
  | _, _ => .no
def l2TreeG : List V → List Blk → Br (V × List (Option Blk))
  | [.agg [.sl (.pair (.int .i64) (.pair .str (.pair (.int .i64) (.pair .bool (.pair (.int .i64) (.pair (.int .i64) .unit)))))) l], .i .i64 k], [] => .need (decide (0 ≤ k ∧ k.toNat < l.length ∧ l.length ≤ 4000000000)) (.leaf (.agg [.i .i64 (t2L l k.toNat).lab.1, .s (t2L l k.toNat).lab.2.1, .i .i64 (t2L l k.toNat).lab.2.2.1, .b (t2L l k.toNat).lab.2.2.2.1, .i .i64 (t2L l k.toNat).lab.2.2.2.2.1, .ref 0 0 (t2L l k.toNat).kids.length], [some (.row false none (.rose (.pair (.int .i64) (.pair .str (.pair (.int .i64) (.pair .bool (.pair (.int .i64) .unit)))))) (t2L l k.toNat).kids)]))
  | _, _ => .no
def l2TreeE (n : Nat) : LoopEnt := ⟨43, [2,4,6,27,28,29], [4,6], [], fun
  | ([.ptr 0 0, .ptr 1 0, .ptr 2 0, .ref 3 0 p, .i .i64 m, .i .i64 i], [some (.box [.sl (.pair (.int .i64) (.pair .str (.pair (.int .i64) (.pair .bool (.pair (.int .i64) (.pair (.int .i64) .unit)))))) l]), some (.box [.i .i64 0, .s [], .i .i64 0, .b false, .i .i64 0, .ref 4 0 0]), some (.box [.i .i64 x0, .s x1, .i .i64 x2, .b x3, .i .i64 x4, .ref 5 0 k]), some (.row false none (.int .i64) q), some (.row false none (.rose (.pair (.int .i64) (.pair .str (.pair (.int .i64) (.pair .bool (.pair (.int .i64) .unit)))))) []), some (.row false none (.rose (.pair (.int .i64) (.pair .str (.pair (.int .i64) (.pair .bool (.pair (.int .i64) .unit)))))) ks)]) => .need (decide (0 ≤ i ∧ i.toNat ≤ q.length ∧ m = q.length ∧ p = q.length ∧ k = ks.length ∧ ks.length ≤ i.toNat ∧ q.length ≤ 4000000000 ∧ l.length ≤ 4000000000) && (q.all fun i : Int => decide (0 ≤ i ∧ i.toNat < l.length ∧ l.length - i.toNat ≤ n))) (.leaf (.exit 0, ([.ptr 0 0, .ptr 1 0], [some (.box [.i .i64 0, .s [], .i .i64 0, .b false, .i .i64 0, .ref 2 0 0]), some (.box [.i .i64 x0, .s x1, .i .i64 x2, .b x3, .i .i64 x4, .ref 3 0 (ks ++ (q.drop i.toNat).map fun i => t2L l i.toNat).length]), some (.row false none (.rose (.pair (.int .i64) (.pair .str (.pair (.int .i64) (.pair .bool (.pair (.int .i64) .unit)))))) []), some (.row false none (.rose (.pair (.int .i64) (.pair .str (.pair (.int .i64) (.pair .bool (.pair (.int .i64) .unit)))))) (ks ++ (q.drop i.toNat).map fun i => t2L l i.toNat))])))
  | _ => .no⟩
theorem kidsL_mem {k : Int} : ∀ {l : List Ty} {i : Nat} {x : Int}, x ∈ kidsL k i l → ∃ j : Nat, x = (j : Int) ∧ i ≤ j ∧ j < i + l.length
  | [], i, x, h => by simp [kidsL] at h
  | y :: l, i, x, h => by
    rw [kidsL] at h
    have rest : x ∈ kidsL k (i + 1) l → ∃ j : Nat, x = (j : Int) ∧ i ≤ j ∧ j < i + (y :: l).length := fun h => by
      obtain ⟨j, h1, h2, h3⟩ := kidsL_mem h
      exact ⟨j, h1, by omega, by simp; omega⟩
    split at h
    · rcases List.mem_cons.1 h with rfl | h
      · exact ⟨i, rfl, Nat.le_refl _, by simp⟩
      · exact rest h
    · exact rest h
theorem kidsAt_mem {l : List Ty} {k : Nat} {x : Int} (h : x ∈ kidsAt l k) : ∃ j : Nat, x = (j : Int) ∧ k < j ∧ j < l.length := by
  obtain ⟨j, h1, h2, h3⟩ := kidsL_mem h
  rw [List.length_drop] at h3
  exact ⟨j, h1, by omega, by omega⟩
theorem kidsL_len (k : Int) : ∀ (l : List Ty) (i : Nat), (kidsL k i l).length ≤ l.length
  | [], i => Nat.le_refl _
  | y :: l, i => by
    rw [kidsL]
    have := kidsL_len k l (i + 1)
    split <;> simp <;> omega
theorem t2_fuel (l : List Ty) : ∀ (f f' k : Nat), l.length - k ≤ f → l.length - k ≤ f' → k < l.length → t2 l f k = t2 l f' k
  | 0, f', k, h1, _, h => by omega
  | f + 1, 0, k, _, h1, h => by omega
  | f + 1, f' + 1, k, h1, h2, h => by
    unfold t2
    congr 1
    refine List.map_congr_left fun x hx => ?_
    obtain ⟨j, rfl, h3, h4⟩ := kidsAt_mem hx
    exact t2_fuel l f f' _ (by simp; omega) (by simp; omega) (by simpa using h4)
theorem t2_eq {l : List Ty} {k : Nat} (h : k < l.length) : t2L l k = .node (labAt l k) ((kidsAt l k).map fun i => t2L l i.toNat) := by
  obtain ⟨m, hm⟩ : ∃ m, l.length = m + 1 := ⟨l.length - 1, by omega⟩
  unfold t2L
  conv => lhs; rw [hm]
  rw [t2]
  congr 1
  refine List.map_congr_left fun x hx => ?_
  obtain ⟨j, rfl, h3, h4⟩ := kidsAt_mem hx
  exact t2_fuel l m l.length _ (by simp; omega) (by simp) (by simpa using h4)
theorem l2Kids_round (l : List Ty) (k : Int) (n : Nat) (i : Int) (o : List Int) : roundK Try.prog (look []) (look [(3, l2KidsE)]) 0 (body Try.f113 0) l2KidsE ([.i .i64 k, .ptr 0 0, .ref 1 0 n, .i .i64 i], [some (.box [.sl TCd l]), some (.row false none (.int .i64) o)]) =
  ((ifB (decide (i < (↑l.length : Int))) (ifT (decide ((0 : Int) ≤ i) && decide (i < (↑l.length : Int))) (ifSome l[i.toNat]? fun z => ifB (z.snd.snd.snd.snd.fst == k) (ifT
 (decide ((n + (1 : Nat)) * (8 : Nat) ≤ (140737488355328 : Nat)) && decide (n + (1 : Nat) ≤ maxI)) (some (Ex.normal, [V.i .i64 k, V.ptr 0 0, V.ref 1 0 (n + (1 : Nat)), V.i
 .i64 (IntKind.i64.wrap (i + (1 : Int)))], [some (Blk.box [V.sl TCd l]), some (Blk.row false none (Cd.int .i64) (List.take n (List.drop (0 : Nat) o) ++ i :: nilT (Cd.int
 .i64).den))]))) (some (Ex.normal, [V.i .i64 k, V.ptr 0 0, V.ref 1 0 n, V.i .i64 (IntKind.i64.wrap (i + (1 : Int)))], [some (Blk.box [V.sl TCd l]), some (Blk.row false
 none (Cd.int .i64) o)])))) (some (Ex.exit 0, [V.ref 0 0 n], [some (Blk.row false none (Cd.int .i64) o)]))) : _) := by kernel_rfl
theorem l2Kids_loop (l : List Ty) (k : Int) (hl : l.length ≤ 4000000000) : ∀ (j i : Nat) (o : List Int), i + j = l.length → o.length ≤ i →
    Runs Try.prog (look []) (look [(3, l2KidsE)]) 0 (body Try.f113 0) l2KidsE ([.i .i64 k, .ptr 0 0, .ref 1 0 o.length, .i .i64 (i : Int)], [some (.box [.sl TCd l]), some (.row false none (.int .i64) o)]) (.exit 0) ([.ref 0 0 (o ++ kidsL k i (l.drop i)).length], [some (.row false none (.int .i64) (o ++ kidsL k i (l.drop i)))])
  | 0, i, o, hi, ho => by
    have hr := l2Kids_round l k o.length i o
    rw [ifB_false (decide_eq_false (by omega))] at hr
    rw [List.drop_eq_nil_of_le (by omega), kidsL, List.append_nil]
    exact .stop _ _ _ hr (by simp)
  | j + 1, i, o, hi, ho => by
    have h1 : i < l.length := by omega
    have hM : maxI = 9223372036854775807 := rfl
    have hr := l2Kids_round l k o.length i o
    rw [ifB_true (decide_eq_true (by omega)), ifT_true (by simp only [Bool.and_eq_true, decide_eq_true_eq]; omega)] at hr
    simp only [Int.toNat_natCast, List.getElem?_eq_getElem h1, ifSome_s, wrap_succ (n := i) (by omega), List.drop_zero, List.take_length] at hr
    rw [List.drop_eq_getElem_cons h1, kidsL]
    by_cases h2 : l[i].2.2.2.2.1 = k
    · rw [ifB_true (by rw [h2]; exact beq_self_eq_true _), ifT_true (by simp only [Bool.and_eq_true, decide_eq_true_eq]; omega)] at hr
      rw [if_pos h2]
      have ih := l2Kids_loop l k hl j (i + 1) (o ++ [(i : Int)]) (by omega) (by simp; omega)
      rw [List.append_assoc] at ih
      exact .step _ _ _ _ (hr.trans (by simp)) ih
    · rw [ifB_false (beq_false_of_ne h2)] at hr
      rw [if_neg h2]
      exact .step _ _ _ _ hr (l2Kids_loop l k hl j (i + 1) o (by omega) (by omega))
theorem l2Kids_ok : LoopsOk Try.prog (look []) (look [(3, l2KidsE)]) 0 (Try.f113.body.getD .skip) := by
  refine loopsOk_one (a := body Try.f113 0) (by kernel_rfl) fun d ex d' h => ?_
  unfold l2KidsE at h
  dsimp only at h
  split at h
  · rename_i k n i l o
    obtain ⟨hc, hx⟩ := need_some h
    clear h
    obtain ⟨h0, h1, h2, rfl, h4⟩ := of_decide_eq_true hc
    obtain ⟨i, rfl⟩ := Int.eq_ofNat_of_zero_le h0
    simp only [Int.toNat_natCast] at h1 h4 hx
    have h8 := leaf_some hx
    obtain ⟨rfl, rfl⟩ := Prod.mk.inj h8
    exact l2Kids_loop l k h2 (l.length - i) i o (by omega) h4
  · cases h
theorem l2Kids_fun (l : List Ty) (k : Int) (hc : 0 ≤ k ∧ k.toNat < l.length ∧ l.length ≤ 4000000000) : funN Try.prog (look []) (look [(3, l2KidsE)]) Try.f113 [.agg [.sl TCd l], .i .i64 k] [] = some (.ref 0 0 (kidsAt l k.toNat).length, [some (.row false none (.int .i64) (kidsAt l k.toNat))]) := by
  have e : funN Try.prog (look []) (look [(3, l2KidsE)]) Try.f113 [.agg [.sl TCd l], .i .i64 k] [] = ((ifT (decide ((0 : Int) ≤ IntKind.i64.wrap (k + (1 : Int)) ∧ (IntKind.i64.wrap (k + (1 : Int))).toNat ≤ l.length ∧ l.length ≤ (4000000000 : Nat) ∧ (0 : Nat) = (0 : Nat) ∧
 (0 : Nat) ≤ (IntKind.i64.wrap (k + (1 : Int))).toNat)) (some (V.ref 0 0 (nilT (Cd.int .i64).den ++ kidsL k (IntKind.i64.wrap (k + (1 : Int))).toNat (List.drop
 (IntKind.i64.wrap (k + (1 : Int))).toNat l)).length, [some (Blk.row false none (Cd.int .i64) (nilT (Cd.int .i64).den ++ kidsL k (IntKind.i64.wrap (k + (1 : Int))).toNat
 (List.drop (IntKind.i64.wrap (k + (1 : Int))).toNat l)))]))) : _) := by kernel_rfl
  rw [e]
  clear e
  obtain ⟨h0, h1, h2⟩ := hc
  obtain ⟨k, rfl⟩ := Int.eq_ofNat_of_zero_le h0
  rw [Int.toNat_natCast] at h1
  have hM : maxI = 9223372036854775807 := rfl
  rw [wrap_succ (n := k) (by omega), ifT_true (decide_eq_true ⟨by omega, by omega, h2, by simp, by simp⟩)]
  simp only [Int.toNat_natCast, nilT_eq, List.nil_append]
  rfl
theorem l2Kids : Contract Try.prog 113 (Ent.rd1 l2KidsG).F := by
  refine fun_contractN' KnowsL.nil.knows (Λ := (look [(3, l2KidsE)])) Try.func113 (c := Try.f113.body.getD .skip) (by kernel_rfl) fun vs bs r hq hv hb => ?_
  unfold Ent.F l2KidsG at hq
  dsimp only at hq
  split at hq
  · rename_i l k
    obtain ⟨hc, hx⟩ := need_some hq
    exact ⟨l2Kids_ok, (l2Kids_fun l k (of_decide_eq_true hc)).trans hx⟩
  · cases hq
theorem l2Tree_round (n : Nat) (l : List Ty) (x0 : Int) (x1 : List UInt8) (x2 : Int) (x3 : Bool) (x4 : Int) (p : Nat) (m i : Int) (k : Nat) (q : List Int) (ks : List (Rose Lab)) : roundK Try.prog (look [(113, .rd1 l2KidsG), (53, .rd1 (l2TreeN n))]) (look [(4, l2TreeE n)]) 0 (body Try.f53 0) (l2TreeE n) ([.ptr 0 0, .ptr 1 0, .ptr 2 0, .ref 3 0 p, .i .i64 m, .i .i64 i], [some (.box [.sl TCd l]), some (.box [.i .i64 0, .s [], .i .i64 0, .b false, .i .i64 0, .ref 4 0 0]), some (.box [.i .i64 x0, .s x1, .i .i64 x2, .b x3, .i .i64 x4, .ref 5 0 k]), some (.row false none (.int .i64) q), some (.row false none (.rose LCd) []), some (.row false none (.rose LCd) ks)]) =
  ((ifB (decide (i < m)) (ifT (decide ((0 : Int) ≤ i) && decide (i < (↑p : Int))) (ifSome q[(0 : Nat) + i.toNat]? fun z => ifT (decide ((0 : Int) ≤ z ∧ Int.toNat z < l.length
 ∧ l.length ≤ (4000000000 : Nat) ∧ l.length - Int.toNat z ≤ n)) (ifT (decide ((k + (1 : Nat)) * (72 : Nat) ≤ (140737488355328 : Nat)) && decide (k + (1 : Nat) ≤ maxI))
 (some (Ex.normal, [V.ptr 0 0, V.ptr 1 0, V.ptr 2 0, V.ref 3 0 p, V.i .i64 m, V.i .i64 (IntKind.i64.wrap (i + (1 : Int)))], [some (Blk.box [V.sl TCd l]), some (Blk.box
 [V.i .i64 0, V.s (nilT UInt8), V.i .i64 0, V.b false, V.i .i64 0, V.ref 4 0 0]), some (Blk.box [V.i .i64 x0, V.s x1, V.i .i64 x2, V.b x3, V.i .i64 x4, V.ref 5 0 (k + (1 :
 Nat))]), some (Blk.row false none (Cd.int .i64) q), some (Blk.row false none LCd.rose (nilT LCd.rose.den)), some (Blk.row false none LCd.rose (List.take k (List.drop (0 :
 Nat) ks) ++ Rose.node ((t2L l (Int.toNat z)).lab.fst, (t2L l (Int.toNat z)).lab.snd.fst, (t2L l (Int.toNat z)).lab.snd.snd.fst, (t2L l (Int.toNat z)).lab.snd.snd.snd.fst,
 (t2L l (Int.toNat z)).lab.snd.snd.snd.snd.fst, ()) (List.take (t2L l (Int.toNat z)).kids.length (List.drop (0 : Nat) (t2L l (Int.toNat z)).kids)) :: nilT
 LCd.rose.den))]))))) (some (Ex.exit 0, [V.ptr 0 0, V.ptr 1 0], [some (Blk.box [V.i .i64 0, V.s (nilT UInt8), V.i .i64 0, V.b false, V.i .i64 0, V.ref 2 0 0]), some
 (Blk.box [V.i .i64 x0, V.s x1, V.i .i64 x2, V.b x3, V.i .i64 x4, V.ref 3 0 k]), some (Blk.row false none LCd.rose (nilT LCd.rose.den)), some (Blk.row false none LCd.rose
 ks)]))) : _) := by kernel_rfl
theorem l2Tree_tree (n : Nat) (l : List Ty) (k : Int) : funN Try.prog (look [(113, .rd1 l2KidsG), (53, .rd1 (l2TreeN n))]) (look [(4, l2TreeE n)]) Try.f53 [.agg [.sl TCd l], .i .i64 k] [] =
  ((ifT (decide ((0 : Int) ≤ k) && decide (k < (↑l.length : Int))) (ifSome l[k.toNat]? fun z => ifT (decide ((0 : Int) ≤ k ∧ k.toNat < l.length ∧ l.length ≤ (4000000000 :
 Nat))) (ifT (decide ((0 : Int) ≤ (0 : Int) ∧ (0 : Nat) ≤ (kidsAt l k.toNat).length ∧ (↑(kidsAt l k.toNat).length : Int) = (↑(kidsAt l k.toNat).length : Int) ∧ (kidsAt l
 k.toNat).length = (kidsAt l k.toNat).length ∧ (0 : Nat) = (0 : Nat) ∧ (0 : Nat) ≤ (0 : Nat) ∧ (kidsAt l k.toNat).length ≤ (4000000000 : Nat) ∧ l.length ≤ (4000000000 :
 Nat)) && (kidsAt l k.toNat).all fun i => decide ((0 : Int) ≤ i ∧ i.toNat < l.length ∧ l.length - i.toNat ≤ n)) (some (V.agg [V.i .i64 z.fst, V.s z.snd.fst, V.i .i64
 z.snd.snd.fst, V.b z.snd.snd.snd.fst, V.i .i64 z.snd.snd.snd.snd.snd.fst, V.ref 0 0 (nilT LCd.rose.den ++ List.map (fun i => t2L l (Int.toNat i)) (List.drop (0 : Nat)
 (kidsAt l k.toNat))).length], [some (Blk.row false none LCd.rose (nilT LCd.rose.den ++ List.map (fun i => t2L l (Int.toNat i)) (List.drop (0 : Nat) (kidsAt l
 k.toNat))))]))))) : _) := by kernel_rfl
theorem l2Tree_loop (n : Nat) (l : List Ty) (x0 : Int) (x1 : List UInt8) (x2 : Int) (x3 : Bool) (x4 : Int) (q : List Int) (hl : l.length ≤ 4000000000) (hq : q.length ≤ 4000000000) (hs : (q.all fun i : Int => decide (0 ≤ i ∧ i.toNat < l.length ∧ l.length - i.toNat ≤ n)) = true) : ∀ (j i : Nat) (ks : List (Rose Lab)), i + j = q.length → ks.length ≤ i →
    Runs Try.prog (look [(113, .rd1 l2KidsG), (53, .rd1 (l2TreeN n))]) (look [(4, l2TreeE n)]) 0 (body Try.f53 0) (l2TreeE n) ([.ptr 0 0, .ptr 1 0, .ptr 2 0, .ref 3 0 q.length, .i .i64 (q.length : Int), .i .i64 (i : Int)], [some (.box [.sl TCd l]), some (.box [.i .i64 0, .s [], .i .i64 0, .b false, .i .i64 0, .ref 4 0 0]), some (.box [.i .i64 x0, .s x1, .i .i64 x2, .b x3, .i .i64 x4, .ref 5 0 ks.length]), some (.row false none (.int .i64) q), some (.row false none (.rose LCd) []), some (.row false none (.rose LCd) ks)]) (.exit 0) ([.ptr 0 0, .ptr 1 0], [some (.box [.i .i64 0, .s [], .i .i64 0, .b false, .i .i64 0, .ref 2 0 0]), some (.box [.i .i64 x0, .s x1, .i .i64 x2, .b x3, .i .i64 x4, .ref 3 0 (ks ++ (q.drop i).map fun i => t2L l i.toNat).length]), some (.row false none (.rose LCd) []), some (.row false none (.rose LCd) (ks ++ (q.drop i).map fun i => t2L l i.toNat))])
  | 0, i, ks, hi, hk => by
    have hr := l2Tree_round n l x0 x1 x2 x3 x4 q.length q.length i ks.length q ks
    rw [ifB_false (decide_eq_false (by omega))] at hr
    rw [List.drop_eq_nil_of_le (by omega), List.map_nil, List.append_nil]
    exact .stop _ _ _ hr (by simp)
  | j + 1, i, ks, hi, hk => by
    have h1 : i < q.length := by omega
    have hM : maxI = 9223372036854775807 := rfl
    have hr := l2Tree_round n l x0 x1 x2 x3 x4 q.length q.length i ks.length q ks
    have hz := of_decide_eq_true (List.all_eq_true.1 hs _ (List.getElem_mem h1))
    rw [ifB_true (decide_eq_true (by omega)), ifT_true (by simp only [Bool.and_eq_true, decide_eq_true_eq]; omega)] at hr
    simp only [Int.toNat_natCast, Nat.zero_add, List.getElem?_eq_getElem h1, ifSome_s, wrap_succ (n := i) (by omega), List.drop_zero, List.take_length] at hr
    rw [ifT_true (decide_eq_true ⟨hz.1, hz.2.1, hl, hz.2.2⟩), ifT_true (by simp only [Bool.and_eq_true, decide_eq_true_eq]; omega)] at hr
    have ht := rose_eta (t2L l q[i].toNat)
    rw [List.drop_zero, List.take_length] at ht
    rw [ht] at hr
    rw [List.drop_eq_getElem_cons h1, List.map_cons]
    have ih := l2Tree_loop n l x0 x1 x2 x3 x4 q hl hq hs j (i + 1) (ks ++ [t2L l q[i].toNat]) (by omega) (by simp; omega)
    rw [List.append_assoc] at ih
    exact .step _ _ _ _ (hr.trans (by simp)) ih
theorem l2Tree_ok (n : Nat) : LoopsOk Try.prog (look [(113, .rd1 l2KidsG), (53, .rd1 (l2TreeN n))]) (look [(4, l2TreeE n)]) 0 (Try.f53.body.getD .skip) := by
  refine loopsOk_one (a := body Try.f53 0) (by kernel_rfl) fun d ex d' h => ?_
  unfold l2TreeE at h
  dsimp only at h
  split at h
  · rename_i p m i l x0 x1 x2 x3 x4 k q ks
    obtain ⟨hc, hx⟩ := need_some h
    clear h
    rw [Bool.and_eq_true] at hc
    obtain ⟨hc, hs⟩ := hc
    obtain ⟨h0, h1, rfl, rfl, rfl, h5, h6, h7⟩ := of_decide_eq_true hc
    obtain ⟨i, rfl⟩ := Int.eq_ofNat_of_zero_le h0
    simp only [Int.toNat_natCast] at h1 h5 hx
    have h8 := leaf_some hx
    obtain ⟨rfl, rfl⟩ := Prod.mk.inj h8
    exact l2Tree_loop n l x0 x1 x2 x3 x4 q h7 h6 hs (q.length - i) i ks (by omega) h5
  · cases h
theorem l2Tree_fun (n : Nat) (l : List Ty) (k : Int) (hc : 0 ≤ k ∧ k.toNat < l.length ∧ l.length ≤ 4000000000 ∧ l.length - k.toNat ≤ n + 1) : funN Try.prog (look [(113, .rd1 l2KidsG), (53, .rd1 (l2TreeN n))]) (look [(4, l2TreeE n)]) Try.f53 [.agg [.sl TCd l], .i .i64 k] [] = some (.agg [.i .i64 (t2L l k.toNat).lab.1, .s (t2L l k.toNat).lab.2.1, .i .i64 (t2L l k.toNat).lab.2.2.1, .b (t2L l k.toNat).lab.2.2.2.1, .i .i64 (t2L l k.toNat).lab.2.2.2.2.1, .ref 0 0 (t2L l k.toNat).kids.length], [some (.row false none (.rose LCd) (t2L l k.toNat).kids)]) := by
  rw [l2Tree_tree]
  obtain ⟨h0, h1, h2, h3⟩ := hc
  obtain ⟨k, rfl⟩ := Int.eq_ofNat_of_zero_le h0
  rw [Int.toNat_natCast] at h1 h3
  have hkl := kidsL_len (k : Int) (l.drop (k + 1)) (k + 1)
  rw [List.length_drop] at hkl
  have hkl2 : (kidsAt l k).length ≤ l.length - (k + 1) := hkl
  rw [ifT_true (by simp only [Bool.and_eq_true, decide_eq_true_eq]; omega)]
  simp only [Int.toNat_natCast, List.getElem?_eq_getElem h1, ifSome_s]
  rw [ifT_true (decide_eq_true ⟨by omega, h1, h2⟩)]
  have hall : ((kidsAt l k).all fun i : Int => decide (0 ≤ i ∧ i.toNat < l.length ∧ l.length - i.toNat ≤ n)) = true := List.all_eq_true.2 fun x hx => by
    obtain ⟨j, rfl, h5, h6⟩ := kidsAt_mem hx
    exact decide_eq_true ⟨by omega, by simpa using h6, by simp; omega⟩
  rw [ifT_true (by rw [Bool.and_eq_true]; exact ⟨decide_eq_true ⟨by omega, by simp, by simp, by simp, by simp, by simp, by omega, h2⟩, hall⟩)]
  have hlab : labAt l k = (l[k].1, l[k].2.1, l[k].2.2.1, l[k].2.2.2.1, l[k].2.2.2.2.2.1, ()) := by unfold labAt; rw [List.getElem?_eq_getElem h1]
  rw [t2_eq h1, hlab]
  simp [Rose.lab, Rose.kids]
theorem l2Tree_con : ∀ n, (∀ m, m < n → Contract Try.prog 53 (Ent.rd1 (l2TreeN m)).F) → Contract Try.prog 53 (Ent.rd1 (l2TreeN n)).F
  | 0, _ => contract_no fun vs bs => by
    unfold Ent.F l2TreeN
    dsimp only
    split
    · rename_i l a
      have : decide (0 ≤ a ∧ a.toNat < l.length ∧ l.length ≤ 4000000000 ∧ l.length - a.toNat ≤ 0) = false := decide_eq_false (by omega)
      rw [this]; rfl
    · rfl
  | n + 1, ih => by
    refine fun_contractN' (KnowsL.cons (enters_fn Try.func113 (by kernel_rfl) (by kernel_rfl)) l2Kids (KnowsL.cons (enters_fn Try.func53 (by kernel_rfl) (by kernel_rfl)) (ih n (Nat.lt_succ_self n)) KnowsL.nil)).knows (Λ := (look [(4, l2TreeE n)])) Try.func53 (c := Try.f53.body.getD .skip) (by kernel_rfl) fun vs bs r hq hv hb => ?_
    unfold Ent.F l2TreeN at hq
    dsimp only at hq
    split at hq
    · rename_i l a
      obtain ⟨hc, hx⟩ := need_some hq
      exact ⟨l2Tree_ok n, (l2Tree_fun n l a (of_decide_eq_true hc)).trans hx⟩
    · cases hq
theorem l2Tree : Contract Try.prog 53 (Ent.rd1 l2TreeG).F := by
  refine contract_rec (F := fun n => (Ent.rd1 (l2TreeN n)).F) l2Tree_con fun vs bs r h => ?_
  unfold Ent.F l2TreeG at h
  dsimp only at h
  split at h
  · rename_i l a
    obtain ⟨hc, hx⟩ := need_some h
    obtain ⟨h0, h1, h2⟩ := of_decide_eq_true hc
    refine ⟨l.length, ?_⟩
    unfold Ent.F l2TreeN
    dsimp only
    have : decide (0 ≤ a ∧ a.toNat < l.length ∧ l.length ≤ 4000000000 ∧ l.length - a.toNat ≤ l.length) = true := decide_eq_true ⟨h0, h1, h2, by omega⟩
    rw [this]
    exact hx
  · cases h
def sdeepN (n : Nat) : List V → List Blk → Br (V × List (Option Blk))
  | [.agg [.i .i64 z0, .s z1, .i .i64 z2, .b z3, .i .i64 z4, .sl (.rose (.pair (.int .i64) (.pair .str (.pair (.int .i64) (.pair .bool (.pair (.int .i64) .unit)))))) zs]], [] => .need (decide (cntL zs + 1 ≤ n ∧ cntL zs + 1 ≤ 1000000)) (.leaf (.i .i64 ((deepL zs + (bif holdsK z0 then 1 else 0) : Nat) : Int), []))
  | _, _ => .no
def sdeepG : List V → List Blk → Br (V × List (Option Blk))
  | [.agg [.i .i64 z0, .s z1, .i .i64 z2, .b z3, .i .i64 z4, .sl (.rose (.pair (.int .i64) (.pair .str (.pair (.int .i64) (.pair .bool (.pair (.int .i64) .unit)))))) zs]], [] => .need (decide (cntL zs + 1 ≤ 1000000)) (.leaf (.i .i64 ((deepL zs + (bif holdsK z0 then 1 else 0) : Nat) : Int), []))
  | _, _ => .no
def sdeepE (n : Nat) : LoopEnt := ⟨27, [1,3,8,9,10], [1,3], [], fun
  | ([.ptr 0 0, .i .i64 m, .sl (.rose (.pair (.int .i64) (.pair .str (.pair (.int .i64) (.pair .bool (.pair (.int .i64) .unit)))))) ks, .i .i64 k, .i .i64 i], [some (.box [.i .i64 y0, .s y1, .i .i64 y2, .b y3, .i .i64 y4, .sl (.rose (.pair (.int .i64) (.pair .str (.pair (.int .i64) (.pair .bool (.pair (.int .i64) .unit)))))) ys])]) => .need (decide (0 ≤ m ∧ m ≤ 1000001 ∧ 0 ≤ i ∧ i.toNat ≤ ks.length ∧ k = ks.length ∧ cntL ks ≤ n ∧ cntL ks ≤ 1000000)) (.leaf (.exit 0, ([.ptr 0 0, .i .i64 ((max m.toNat (deepL (ks.drop i.toNat)) : Nat) : Int)], [some (.box [.i .i64 y0, .s y1, .i .i64 y2, .b y3, .i .i64 y4, .sl (.rose (.pair (.int .i64) (.pair .str (.pair (.int .i64) (.pair .bool (.pair (.int .i64) .unit)))))) ys])])))
  | _ => .no⟩
/-- Whether a place is met on the way out from another one. -/
def arnd (l : List Ty) (u : Int) : Nat → Int → Bool
  | 0, _ => false
  | f + 1, x => if x < 0 then false else if x = u then true else match upAt l x.toNat with | some v => arnd l u f v | none => false
/-- All ahead of a place lie behind those around them. -/
def upsOK (l : List Ty) (i : Nat) : Bool := (List.range i).all fun j => match upAt l j with | some v => decide (v < (j : Int)) | none => false
def aroundB (l : List Ty) (i : Nat) : Bool := match upAt l i with | some u => arnd l u (i + 1) ((i : Int) - 1) | none => false
def l2AroundG : List V → List Blk → Br (V × List (Option Blk))
  | [.sl (.pair (.int .i64) (.pair .str (.pair (.int .i64) (.pair .bool (.pair (.int .i64) (.pair (.int .i64) .unit)))))) l, .i .i64 i], [] => .need (decide (0 ≤ i ∧ i.toNat < l.length ∧ l.length ≤ 4000000000) && upsOK l i.toNat) (.leaf (.b (aroundB l i.toNat), []))
  | _, _ => .no
def l2AroundE : LoopEnt := ⟨22, [0,1,5], [], [4], fun
  | ([.sl (.pair (.int .i64) (.pair .str (.pair (.int .i64) (.pair .bool (.pair (.int .i64) (.pair (.int .i64) .unit)))))) l, .i .i64 i, .i .i64 x], []) => .need (decide (0 ≤ i ∧ i.toNat < l.length ∧ l.length ≤ 4000000000 ∧ x < i) && upsOK l i.toNat) (.opt (.int .i64) (upAt l i.toNat) fun u => .br (arnd l u (x + 1).toNat x) (.leaf (.ret, ([.b true], []))) (.leaf (.exit 0, ([], []))))
  | _ => .no⟩
theorem rose_deep (z : Rose Lab) : deepL z.kids + (bif holdsK z.lab.1 then 1 else 0) = deepR z := by cases z; rw [deepR]; rfl
theorem sdeep_round (n : Nat) (y0 : Int) (y1 : List UInt8) (y2 : Int) (y3 : Bool) (y4 : Int) (ys : List (Rose Lab)) (m : Int) (ks : List (Rose Lab)) (k i : Int) : roundK Try.prog (look [(114, .rd1 (sdeepN n)), (116, .rd1 l2HoldsG)]) (look [(3, sdeepE n)]) 0 (body Try.f114 0) (sdeepE n) ([.ptr 0 0, .i .i64 m, .sl (.rose LCd) ks, .i .i64 k, .i .i64 i], [some (.box [.i .i64 y0, .s y1, .i .i64 y2, .b y3, .i .i64 y4, .sl (.rose LCd) ys])]) =
  ((ifB (decide (i < k)) (ifT (decide ((0 : Int) ≤ i) && decide (i < (↑ks.length : Int))) (ifSome ks[i.toNat]? fun z => ifT (decide (cntL (Rose.kids z) + (1 : Nat) ≤ n ∧ cntL
 (Rose.kids z) + (1 : Nat) ≤ (1000000 : Nat))) (ifB (decide ((↑(deepL (Rose.kids z) + bif holdsK (Rose.lab z).fst then (1 : Nat) else (0 : Nat)) : Int) > m)) (some
 (Ex.normal, [V.ptr 0 0, V.i .i64 (↑(deepL (Rose.kids z) + bif holdsK (Rose.lab z).fst then (1 : Nat) else (0 : Nat)) : Int), V.sl LCd.rose ks, V.i .i64 k, V.i .i64
 (IntKind.i64.wrap (i + (1 : Int)))], [some (Blk.box [V.i .i64 y0, V.s y1, V.i .i64 y2, V.b y3, V.i .i64 y4, V.sl LCd.rose ys])])) (some (Ex.normal, [V.ptr 0 0, V.i .i64
 m, V.sl LCd.rose ks, V.i .i64 k, V.i .i64 (IntKind.i64.wrap (i + (1 : Int)))], [some (Blk.box [V.i .i64 y0, V.s y1, V.i .i64 y2, V.b y3, V.i .i64 y4, V.sl LCd.rose
 ys])]))))) (some (Ex.exit 0, [V.ptr 0 0, V.i .i64 m], [some (Blk.box [V.i .i64 y0, V.s y1, V.i .i64 y2, V.b y3, V.i .i64 y4, V.sl LCd.rose ys])]))) : _) := by kernel_rfl
theorem sdeep_tree (n : Nat) (z0 : Int) (z1 : List UInt8) (z2 : Int) (z3 : Bool) (z4 : Int) (zs : List (Rose Lab)) : funK Try.prog (look [(114, .rd1 (sdeepN n)), (116, .rd1 l2HoldsG)]) (look [(3, sdeepE n)]) Try.f114 [.agg [.i .i64 z0, .s z1, .i .i64 z2, .b z3, .i .i64 z4, .sl (.rose LCd) zs]] [] =
  ((ifT (decide ((0 : Int) ≤ (0 : Int) ∧ (0 : Int) ≤ (1000001 : Int) ∧ (0 : Int) ≤ (0 : Int) ∧ (0 : Nat) ≤ zs.length ∧ (↑zs.length : Int) = (↑zs.length : Int) ∧ cntL zs ≤ n ∧
 cntL zs ≤ (1000000 : Nat))) (ifB (holdsK z0) (some (V.i .i64 (IntKind.i64.wrap ((↑(max (0 : Nat) (deepL (List.drop (0 : Nat) zs))) : Int) + (1 : Int))), [])) (some (V.i
 .i64 (↑(max (0 : Nat) (deepL (List.drop (0 : Nat) zs))) : Int), [])))) : _) := by kernel_rfl
theorem sdeep_loop (n : Nat) (y0 : Int) (y1 : List UInt8) (y2 : Int) (y3 : Bool) (y4 : Int) (ys : List (Rose Lab)) (ks : List (Rose Lab)) (h1 : cntL ks ≤ n) (h2 : cntL ks ≤ 1000000) : ∀ (j i m : Nat), i + j = ks.length → m ≤ 1000001 →
    Runs Try.prog (look [(114, .rd1 (sdeepN n)), (116, .rd1 l2HoldsG)]) (look [(3, sdeepE n)]) 0 (body Try.f114 0) (sdeepE n) ([.ptr 0 0, .i .i64 (m : Int), .sl (.rose LCd) ks, .i .i64 (ks.length : Int), .i .i64 (i : Int)], [some (.box [.i .i64 y0, .s y1, .i .i64 y2, .b y3, .i .i64 y4, .sl (.rose LCd) ys])]) (.exit 0) ([.ptr 0 0, .i .i64 ((max m (deepL (ks.drop i)) : Nat) : Int)], [some (.box [.i .i64 y0, .s y1, .i .i64 y2, .b y3, .i .i64 y4, .sl (.rose LCd) ys])])
  | 0, i, m, hi, hm => by
    have hr := sdeep_round n y0 y1 y2 y3 y4 ys m ks ks.length i
    rw [ifB_false (decide_eq_false (by omega))] at hr
    have e1 : ks.drop i = [] := List.drop_eq_nil_of_le (by omega)
    rw [e1, deepL]
    exact .stop _ _ _ (hr.trans (by simp)) (by simp)
  | j + 1, i, m, hi, hm => by
    have hl : i < ks.length := by omega
    have hM : maxI = 9223372036854775807 := rfl
    have hr := sdeep_round n y0 y1 y2 y3 y4 ys m ks ks.length i
    have hmem := cnt_mem (List.getElem_mem hl)
    have hlen := cnt_len ks
    have hdm := deep_cnt ks[i]
    have hck := cnt_kids ks[i]
    rw [ifB_true (decide_eq_true (by omega)), ifT_true (by simp only [Bool.and_eq_true, decide_eq_true_eq]; omega)] at hr
    simp only [Int.toNat_natCast, List.getElem?_eq_getElem hl, ifSome_s, wrap_succ (n := i) (by omega)] at hr
    rw [ifT_true (decide_eq_true ⟨by omega, by omega⟩)] at hr
    simp only [rose_deep] at hr
    rw [List.drop_eq_getElem_cons hl, deepL]
    have ih := sdeep_loop n y0 y1 y2 y3 y4 ys ks h1 h2 j (i + 1) (max m (deepR ks[i])) (by omega) (by omega)
    rw [← Nat.max_assoc]
    by_cases hx : (deepR ks[i] : Int) > (m : Int)
    · rw [ifB_true (decide_eq_true hx)] at hr
      have hmx : max m (deepR ks[i]) = deepR ks[i] := by omega
      exact .step _ _ _ _ (hr.trans (by rw [hmx])) ih
    · rw [ifB_false (decide_eq_false hx)] at hr
      have hmx : max m (deepR ks[i]) = m := by omega
      exact .step _ _ _ _ (hr.trans (by rw [hmx])) ih
theorem sdeep_ok (n : Nat) : LoopsOk Try.prog (look [(114, .rd1 (sdeepN n)), (116, .rd1 l2HoldsG)]) (look [(3, sdeepE n)]) 0 (Try.f114.body.getD .skip) := by
  refine loopsOk_one (a := body Try.f114 0) (by kernel_rfl) fun d ex d' h => ?_
  unfold sdeepE at h
  dsimp only at h
  split at h
  · rename_i m ks k i y0 y1 y2 y3 y4 ys
    obtain ⟨hc, hx⟩ := need_some h
    clear h
    obtain ⟨h0, h1, h2, h3, rfl, h5, h6⟩ := of_decide_eq_true hc
    obtain ⟨m, rfl⟩ := Int.eq_ofNat_of_zero_le h0
    obtain ⟨i, rfl⟩ := Int.eq_ofNat_of_zero_le h2
    simp only [Int.toNat_natCast] at h3 hx
    have h8 := leaf_some hx
    obtain ⟨rfl, rfl⟩ := Prod.mk.inj h8
    exact sdeep_loop n y0 y1 y2 y3 y4 ys ks h5 h6 (ks.length - i) i m (by omega) (by omega)
  · cases h
theorem sdeep_fun (n : Nat) (z0 : Int) (z1 : List UInt8) (z2 : Int) (z3 : Bool) (z4 : Int) (zs : List (Rose Lab)) (hc : cntL zs + 1 ≤ n + 1 ∧ cntL zs + 1 ≤ 1000000) : funK Try.prog (look [(114, .rd1 (sdeepN n)), (116, .rd1 l2HoldsG)]) (look [(3, sdeepE n)]) Try.f114 [.agg [.i .i64 z0, .s z1, .i .i64 z2, .b z3, .i .i64 z4, .sl (.rose LCd) zs]] [] = some (.i .i64 ((deepL zs + (bif holdsK z0 then 1 else 0) : Nat) : Int), []) := by
  rw [sdeep_tree]
  obtain ⟨h1, h2⟩ := hc
  have hdp := deepL_cnt zs
  rw [ifT_true (decide_eq_true (by refine ⟨by omega, by omega, by omega, by simp, by trivial, by omega, by omega⟩))]
  simp only [Int.toNat_zero, List.drop_zero, Nat.zero_max]
  cases hx : holdsK z0 with
  | true => rw [ifB_t, wrap_id (by omega) (by omega)]; simp
  | false => rw [ifB_f]; simp
theorem sdeep_con : ∀ n, (∀ m, m < n → Contract Try.prog 114 (Ent.rd1 (sdeepN m)).F) → Contract Try.prog 114 (Ent.rd1 (sdeepN n)).F
  | 0, _ => contract_no fun vs bs => by
    unfold Ent.F sdeepN
    dsimp only
    split
    · rename_i z0 z1 z2 z3 z4 zs
      rw [decide_eq_false (show ¬ (cntL zs + 1 ≤ 0 ∧ cntL zs + 1 ≤ 1000000) by omega)]; rfl
    · rfl
  | n + 1, ih => by
    refine fun_contract' (KnowsL.cons (enters_fn Try.func114 (by kernel_rfl) (by kernel_rfl)) (ih n (Nat.lt_succ_self n)) (KnowsL.cons (enters_fn Try.func116 (by kernel_rfl) (by kernel_rfl)) l2Holds KnowsL.nil)).knows (Λ := (look [(3, sdeepE n)])) Try.func114 (c := Try.f114.body.getD .skip) (by kernel_rfl) fun vs bs r hq hv hb => ?_
    unfold Ent.F sdeepN at hq
    dsimp only at hq
    split at hq
    · rename_i z0 z1 z2 z3 z4 zs
      obtain ⟨hc, hx⟩ := need_some hq
      exact ⟨sdeep_ok n, (sdeep_fun n z0 z1 z2 z3 z4 zs (of_decide_eq_true hc)).trans hx⟩
    · cases hq
theorem sdeep : Contract Try.prog 114 (Ent.rd1 sdeepG).F := by
  refine contract_rec (F := fun n => (Ent.rd1 (sdeepN n)).F) sdeep_con fun vs bs r h => ?_
  unfold Ent.F sdeepG at h
  dsimp only at h
  split at h
  · rename_i z0 z1 z2 z3 z4 zs
    obtain ⟨hc, hx⟩ := need_some h
    have hc := of_decide_eq_true hc
    refine ⟨1000000, ?_⟩
    show (Br.need (decide (cntL zs + 1 ≤ 1000000 ∧ cntL zs + 1 ≤ 1000000)) (.leaf (.i .i64 ((deepL zs + (bif holdsK z0 then 1 else 0) : Nat) : Int), []))).run = some r
    rw [decide_eq_true (show cntL zs + 1 ≤ 1000000 ∧ cntL zs + 1 ≤ 1000000 from ⟨hc, hc⟩)]
    exact hx
  · cases h
theorem l2Around_round (l : List Ty) (i x : Int) : roundK Try.prog (look []) (look [(2, l2AroundE)]) 0 (body Try.f158 0) l2AroundE ([.sl TCd l, .i .i64 i, .i .i64 x], []) =
  ((ifB (decide (x ≥ (0 : Int))) (ifT (decide ((0 : Int) ≤ i) && decide (i < (↑l.length : Int))) (ifSome l[i.toNat]? fun z => ifB (x == z.snd.snd.snd.snd.fst) (some (Ex.ret,
 [V.b true], [])) (ifT (decide ((0 : Int) ≤ x) && decide (x < (↑l.length : Int))) (ifSome l[x.toNat]? fun z => some (Ex.normal, [V.sl TCd l, V.i .i64 i, V.i .i64
 z.snd.snd.snd.snd.fst], []))))) (some (Ex.exit 0, [], []))) : _) := by kernel_rfl
theorem ups_at {l : List Ty} {i j : Nat} (h : upsOK l i = true) (hj : j < i) : ∃ v, upAt l j = some v ∧ v < (j : Int) := by
  have := List.all_eq_true.1 h j (List.mem_range.2 hj)
  cases hu : upAt l j with
  | none => rw [hu] at this; cases this
  | some v => rw [hu] at this; exact ⟨v, rfl, of_decide_eq_true this⟩
theorem arnd_fuel {l : List Ty} {i : Nat} (h : upsOK l i = true) (u : Int) : ∀ (f f' : Nat) (x : Int), x < (i : Int) → (x + 1).toNat ≤ f → (x + 1).toNat ≤ f' → arnd l u f x = arnd l u f' x
  | 0, 0, x, _, _, _ => rfl
  | 0, f' + 1, x, hx, h1, h2 => by rw [arnd, arnd, if_pos (by omega)]
  | f + 1, 0, x, hx, h1, h2 => by rw [arnd, arnd, if_pos (by omega)]
  | f + 1, f' + 1, x, hx, h1, h2 => by
    rw [arnd, arnd]
    by_cases a : x < 0
    · rw [if_pos a, if_pos a]
    · rw [if_neg a, if_neg a]
      by_cases b : x = u
      · rw [if_pos b, if_pos b]
      · rw [if_neg b, if_neg b]
        obtain ⟨v, hv, hv2⟩ := ups_at h (j := x.toNat) (by omega)
        rw [hv]
        exact arnd_fuel h u f f' v (by omega) (by omega) (by omega)
theorem l2Around_loop (l : List Ty) (i : Nat) (u : Int) (hi : i < l.length) (hl : l.length ≤ 4000000000) (hu : upAt l i = some u) (hs : upsOK l i = true) : ∀ (j : Nat) (x : Int), (x + 1).toNat = j → x < (i : Int) → ∀ ex d, (Br.br (arnd l u (x + 1).toNat x) (.leaf (.ret, ([.b true], []))) (.leaf (.exit 0, ([], []))) : Br (Ex × Dt)).run = some (ex, d) →
    Runs Try.prog (look []) (look [(2, l2AroundE)]) 0 (body Try.f158 0) l2AroundE ([.sl TCd l, .i .i64 (i : Int), .i .i64 x], []) ex d := by
  intro j
  induction j using Nat.strongRecOn with
  | ind j ih =>
    intro x hj hx ex d h
    have hr := l2Around_round l i x
    have h0 : l[i].2.2.2.2.1 = u := by unfold upAt at hu; rw [List.getElem?_eq_getElem hi] at hu; exact Option.some.inj hu
    by_cases a : x < 0
    · rw [ifB_false (decide_eq_false (by omega))] at hr
      have e0 : (x + 1).toNat = 0 := by omega
      rw [e0, arnd] at h
      have h8 := leaf_some h
      obtain ⟨rfl, rfl⟩ := Prod.mk.inj h8
      exact .stop _ _ _ hr (by simp)
    · rw [ifB_true (decide_eq_true (by omega)), ifT_true (by simp only [Bool.and_eq_true, decide_eq_true_eq]; omega)] at hr
      simp only [Int.toNat_natCast, List.getElem?_eq_getElem hi, ifSome_s, h0] at hr
      obtain ⟨x, rfl⟩ := Int.eq_ofNat_of_zero_le (by omega : 0 ≤ x)
      have e0 : ((x : Int) + 1).toNat = x + 1 := by omega
      rw [e0, arnd, if_neg (by omega)] at h
      by_cases b : (x : Int) = u
      · rw [if_pos b] at h
        rw [ifB_true (by rw [b]; exact beq_self_eq_true _)] at hr
        have h8 := leaf_some h
        obtain ⟨rfl, rfl⟩ := Prod.mk.inj h8
        exact .stop _ _ _ hr (by simp)
      · rw [if_neg b] at h
        have hxl : x < l.length := by omega
        rw [ifB_false (beq_false_of_ne b), ifT_true (by simp only [Bool.and_eq_true, decide_eq_true_eq]; omega)] at hr
        simp only [Int.toNat_natCast, List.getElem?_eq_getElem hxl, ifSome_s] at hr
        obtain ⟨v, hv, hv2⟩ := ups_at hs (j := x) (by omega)
        have hv3 : l[x].2.2.2.2.1 = v := by unfold upAt at hv; rw [List.getElem?_eq_getElem hxl] at hv; exact Option.some.inj hv
        rw [Int.toNat_natCast, hv] at h
        dsimp only at h
        rw [arnd_fuel hs u x (v + 1).toNat v (by omega) (by omega) (Nat.le_refl _)] at h
        rw [hv3] at hr
        exact .step _ _ _ _ hr (ih (v + 1).toNat (by omega) v rfl (by omega) ex d h)
theorem l2Around_ok : LoopsOk Try.prog (look []) (look [(2, l2AroundE)]) 0 (Try.f158.body.getD .skip) := by
  refine loopsOk_one (a := body Try.f158 0) (by kernel_rfl) fun d ex d' h => ?_
  unfold l2AroundE at h
  dsimp only at h
  split at h
  · rename_i l i x
    obtain ⟨hc, hx⟩ := need_some h
    clear h
    rw [Bool.and_eq_true] at hc
    obtain ⟨hc, hs⟩ := hc
    obtain ⟨h0, h1, h2, h3⟩ := of_decide_eq_true hc
    obtain ⟨i, rfl⟩ := Int.eq_ofNat_of_zero_le h0
    simp only [Int.toNat_natCast] at h1 hs hx
    cases hu : upAt l i with
    | some u => rw [hu] at hx; exact l2Around_loop l i u h1 h2 hu hs _ x rfl h3 ex d' hx
    | none => rw [hu] at hx; cases hx
  · cases h
theorem l2Around_fun (l : List Ty) (i : Int) (hc : 0 ≤ i ∧ i.toNat < l.length ∧ l.length ≤ 4000000000) (hs : upsOK l i.toNat = true) : funK Try.prog (look []) (look [(2, l2AroundE)]) Try.f158 [.sl TCd l, .i .i64 i] [] = some (.b (aroundB l i.toNat), []) := by
  have e : funK Try.prog (look []) (look [(2, l2AroundE)]) Try.f158 [.sl TCd l, .i .i64 i] [] = ((ifT (decide ((0 : Int) ≤ i ∧ i.toNat < l.length ∧ l.length ≤ (4000000000 : Nat) ∧ IntKind.i64.wrap (i - (1 : Int)) < i) && upsOK l i.toNat) (ifSome (upAt l i.toNat) fun z
 => ifB (arnd l z (IntKind.i64.wrap (i - (1 : Int)) + (1 : Int)).toNat (IntKind.i64.wrap (i - (1 : Int)))) (some (V.b true, [])) (some (V.b false, [])))) : _) := by kernel_rfl
  obtain ⟨h0, h1, h2⟩ := hc
  obtain ⟨i, rfl⟩ := Int.eq_ofNat_of_zero_le h0
  simp only [Int.toNat_natCast] at h1 hs
  have hw : IntKind.i64.wrap ((i : Int) - 1) = (i : Int) - 1 := wrap_id (by omega) (by omega)
  obtain ⟨u, hu⟩ : ∃ u, upAt l i = some u := ⟨_, by unfold upAt; rw [List.getElem?_eq_getElem h1]; rfl⟩
  rw [e]
  clear e
  rw [hw]
  simp only [Int.toNat_natCast]
  rw [ifT_true (by rw [Bool.and_eq_true]; exact ⟨decide_eq_true ⟨by omega, h1, h2, by omega⟩, hs⟩)]
  unfold aroundB
  rw [hu, ifSome_s]
  have e2 : arnd l u (i + 1) ((i : Int) - 1) = arnd l u ((i : Int) - 1 + 1).toNat ((i : Int) - 1) := arnd_fuel hs u _ _ _ (by omega) (by omega) (Nat.le_refl _)
  dsimp only
  rw [e2]
  cases arnd l u ((i : Int) - 1 + 1).toNat ((i : Int) - 1) <;> rfl
theorem l2Around : Contract Try.prog 158 (Ent.rd1 l2AroundG).F := by
  refine fun_contract' KnowsL.nil.knows (Λ := (look [(2, l2AroundE)])) Try.func158 (c := Try.f158.body.getD .skip) (by kernel_rfl) fun vs bs r hq hv hb => ?_
  unfold Ent.F l2AroundG at hq
  dsimp only at hq
  split at hq
  · rename_i l i
    obtain ⟨hc, hx⟩ := need_some hq
    rw [Bool.and_eq_true] at hc
    exact ⟨l2Around_ok, (l2Around_fun l i (of_decide_eq_true hc.1) hc.2).trans hx⟩
  · cases hq
def sibs (u no : Int) (nm : List UInt8) (l : List Ty) : Bool := l.all fun o => !(o.2.2.2.2.1 == u && (decide (o.2.2.1 ≥ no) || o.2.1 == nm))
def partSB (l : List Ty) (i : Nat) : Bool := match upAt l i with
  | none => false
  | some u => decide (0 ≤ u ∧ u < (i : Int)) && holdsK (labAt l u.toNat).1 && aroundB l i && (if (labAt l u.toNat).1 = 4 then (labAt l i).2.1 == [] && (labAt l i).2.2.1 == 0 && !(labAt l i).2.2.2.1
    else nameB (labAt l i).2.1 && (decide (1 ≤ (labAt l i).2.2.1) && decide ((labAt l i).2.2.1 ≤ 30)) && sibs u (labAt l i).2.2.1 (labAt l i).2.1 ((l.take i).drop (u.toNat + 1)))
def kmB (x : Lab) : Bool := decide (1 ≤ x.1 ∧ x.1 ≤ 5) && (if x.1 = 3 then decide (0 ≤ x.2.2.2.2.1 ∧ x.2.2.2.2.1 ≤ 20) else x.2.2.2.2.1 == 0)
def okT (l : List Ty) (i : Nat) : Bool := kmB (labAt l i) && (if i = 0 then (labAt l 0).1 == 5 && decide (upAt l 0 = some (-1)) && (labAt l 0).2.1 == [] && (labAt l 0).2.2.1 == 0 && !(labAt l 0).2.2.2.1 else partSB l i)
def oneKid (l : List Ty) (i : Nat) : Bool := !((labAt l i).1 == 4 && (kidsAt l i).length != 1)
/-- Whether types are a good schema, by their places. -/
def gschS (l : List Ty) : Bool := decide (1 ≤ l.length ∧ l.length ≤ 30) && (List.range l.length).all (okT l) && (List.range l.length).all (oneKid l) && decide (deepR (t2L l 0) ≤ 5)
/-- A place is met on the way out. -/
inductive Out (l : List Ty) : Nat → Nat → Prop
  | refl (x : Nat) : Out l x x
  | step (x v y : Nat) (h : upAt l x = some (v : Int)) (h2 : Out l v y) : Out l x y
/-- Types that are one tree, in its order. -/
structure Ord (l : List Ty) : Prop where
  zero : upAt l 0 = some (-1)
  up : ∀ i, 0 < i → i < l.length → ∃ u : Nat, upAt l i = some (u : Int) ∧ u < i ∧ holdsK (labAt l u).1 = true ∧ Out l (i - 1) u
/-- The parts of a type between two places. -/
def KK (l : List Ty) (a s t : Nat) : List Nat := (List.range' s (t - s)).filter fun j => decide (upAt l j = some (a : Int))
theorem Out.trans {l : List Ty} {x y z : Nat} (h : Out l x y) (h2 : Out l y z) : Out l x z := by
  induction h with
  | refl => exact h2
  | step x v y h _ ih => exact .step x v z h (ih h2)
theorem arnd_out (l : List Ty) (u : Int) : ∀ (f : Nat) (x : Nat), arnd l u f (x : Int) = true → ∃ y : Nat, u = (y : Int) ∧ Out l x y
  | 0, x, h => by rw [arnd] at h; cases h
  | f + 1, x, h => by
    rw [arnd, if_neg (by omega)] at h
    split at h
    · rename_i e; exact ⟨x, e.symm, .refl x⟩
    · rw [Int.toNat_natCast] at h
      cases hu : upAt l x with
      | none => rw [hu] at h; cases h
      | some v =>
        rw [hu] at h
        dsimp only at h
        by_cases hv : v < 0
        · cases f with
          | zero => rw [arnd] at h; cases h
          | succ f => rw [arnd, if_pos hv] at h; cases h
        · obtain ⟨v, rfl⟩ := Int.eq_ofNat_of_zero_le (by omega : 0 ≤ v)
          obtain ⟨y, h1, h2⟩ := arnd_out l u f v h
          exact ⟨y, h1, .step x v y hu h2⟩
theorem out_le {l : List Ty} {i x y : Nat} (hs : ∀ j, j < i → ∀ v : Nat, upAt l j = some (v : Int) → v < j) (h : Out l x y) : x < i → y ≤ x := by
  induction h with
  | refl => intro _; exact Nat.le_refl _
  | step x v y h _ ih => intro hx; have := hs x hx v h; have := ih (by omega); omega
theorem out_arnd {l : List Ty} {i x y : Nat} (hs : ∀ j, j < i → ∀ v : Nat, upAt l j = some (v : Int) → v < j) (h : Out l x y) : x < i → ∀ f, x + 1 ≤ f → arnd l (y : Int) f (x : Int) = true := by
  induction h with
  | refl x =>
    intro hx f hf
    obtain ⟨f, rfl⟩ : ∃ g, f = g + 1 := ⟨f - 1, by omega⟩
    rw [arnd, if_neg (by omega), if_pos rfl]
  | step x v y h _ ih =>
    intro hx f hf
    obtain ⟨f, rfl⟩ : ∃ g, f = g + 1 := ⟨f - 1, by omega⟩
    rw [arnd, if_neg (by omega)]
    split
    · rfl
    · rw [Int.toNat_natCast, h]
      have := hs x hx v h
      exact ih (by omega) f (by omega)
theorem Ord.lt {l : List Ty} (H : Ord l) : ∀ j, j < l.length → ∀ v : Nat, upAt l j = some (v : Int) → v < j := fun j hj v hv => by
  rcases Nat.eq_zero_or_pos j with rfl | hp
  · rw [H.zero] at hv; injection hv with hv; omega
  · obtain ⟨u, h1, h2, _⟩ := H.up j hp hj
    rw [h1] at hv; injection hv with hv; omega
theorem out_in {l : List Ty} {c e x y : Nat} (hs : ∀ j, j < e → ∀ v : Nat, upAt l j = some (v : Int) → v < j) (hb : ∀ j, c < j → j < e → ∃ u : Nat, upAt l j = some (u : Int) ∧ c ≤ u) (h : Out l x y) : c ≤ x → x < e → c ≤ y ∨ ∃ v : Nat, upAt l c = some (v : Int) ∧ Out l v y := by
  induction h with
  | refl x => intro h1 _; exact .inl h1
  | step x v y h h2 ih =>
    intro h1 h3
    by_cases e1 : x = c
    · subst e1; exact .inr ⟨v, h, h2⟩
    · obtain ⟨u, g1, g2⟩ := hb x (by omega) h3
      rw [h] at g1; injection g1 with g1
      have := hs x h3 v h
      exact ih (by omega) (by omega)
theorem out_ex {l : List Ty} {a e i x y : Nat} (hs : ∀ j, j < i → ∀ v : Nat, upAt l j = some (v : Int) → v < j) (ha : a ≤ i) (hn : ∀ j, e ≤ j → j < i → ∀ u : Nat, upAt l j = some (u : Int) → u < a ∨ e ≤ u) (h : Out l x y) : e ≤ x → x < i → y < a ∨ e ≤ y := by
  induction h with
  | refl x => intro h1 _; exact .inr h1
  | step x v y h h2 ih =>
    intro h1 h3
    have := hs x h3 v h
    rcases hn x h1 h3 v h with h4 | h4
    · have := out_le hs h2 (by omega)
      exact .inl (by omega)
    · exact ih h4 (by omega)
theorem KK_app {l : List Ty} {a s t u : Nat} (h1 : s ≤ t) (h2 : t ≤ u) : KK l a s t ++ KK l a t u = KK l a s u := by
  unfold KK
  rw [← List.filter_append]
  congr 1
  have e : t = s + (t - s) := by omega
  conv => lhs; rhs; rw [e]
  rw [show s + (t - s) = s + 1 * (t - s) by omega, List.range'_append]
  congr 1; omega
theorem KK_nil {l : List Ty} {a s t : Nat} (h : ∀ j, s ≤ j → j < t → upAt l j ≠ some (a : Int)) : KK l a s t = [] := by
  unfold KK
  rw [List.filter_eq_nil_iff]
  intro j hj
  have := List.mem_range'_1.1 hj
  simpa using h j (by omega) (by omega)
theorem KK_one {l : List Ty} {a e t : Nat} (h0 : e < t) (h : upAt l e = some (a : Int)) (h2 : ∀ j, e < j → j < t → upAt l j ≠ some (a : Int)) : KK l a e t = [e] := by
  have e1 : KK l a e (e + 1) = [e] := by
    unfold KK
    rw [show e + 1 - e = 1 by omega, List.range'_one]
    simp [h]
  rw [← KK_app (Nat.le_succ e) h0, e1, KK_nil (fun j hj hj2 => h2 j (by omega) hj2)]
  rfl
theorem kids_KK (l : List Ty) (a : Nat) : ∀ (n i : Nat), l.length - i = n → kidsL (a : Int) i (l.drop i) = (KK l a i l.length).map Int.ofNat
  | 0, i, h => by
    rw [List.drop_eq_nil_of_le (by omega), kidsL, KK_nil (fun j h1 h2 => by omega)]; rfl
  | n + 1, i, h => by
    have hl : i < l.length := by omega
    rw [List.drop_eq_getElem_cons hl, kidsL, kids_KK l a n (i + 1) (by omega), ← KK_app (Nat.le_succ i) hl (l := l) (a := a)]
    have hu : upAt l i = some (l[i].2.2.2.2.1) := by unfold upAt; rw [List.getElem?_eq_getElem hl]; rfl
    by_cases hk : l[i].2.2.2.2.1 = (a : Int)
    · rw [if_pos hk, KK_one (Nat.lt_succ_self i) (by rw [hu, hk]) (fun j h1 h2 => by omega)]; rfl
    · rw [if_neg hk, KK_nil (s := i) (fun j h1 h2 => by
        have : j = i := by omega
        subst this; rw [hu]; exact fun h => hk (Option.some.inj h))]; rfl
theorem kidsAt_KK (l : List Ty) (a : Nat) : kidsAt l a = (KK l a (a + 1) l.length).map Int.ofNat := kids_KK l a _ (a + 1) rfl
theorem t2_KK {l : List Ty} {a : Nat} (h : a < l.length) : t2L l a = .node (labAt l a) ((KK l a (a + 1) l.length).map (t2L l)) := by
  rw [t2_eq h, kidsAt_KK, List.map_map]
  rfl
/-- What lies within the type at a place. -/
structure Blk2 (l : List Ty) (a : Nat) : Prop where
  inn : ∀ j, a < j → j < (kf l a).2 → ∃ u : Nat, upAt l j = some (u : Int) ∧ a ≤ u
  out : (kf l a).2 < l.length → ∀ u : Nat, upAt l (kf l a).2 = some (u : Int) → u < a
  tree : (kf l a).1 = t2L l a
theorem loop_blk {l : List Ty} (H : Ord l) {a : Nat} (ha : a < l.length) (IH : ∀ b, a < b → b < l.length → Blk2 l b) : ∀ (n e : Nat) (ks : List (Rose Lab)), l.length - e ≤ n → a < e → e ≤ l.length →
    (∀ j, a < j → j < e → ∃ u : Nat, upAt l j = some (u : Int) ∧ a ≤ u) → (e < l.length → ∀ u : Nat, upAt l e = some (u : Int) → u ≤ a) → ks = (KK l a (a + 1) e).map (t2L l) →
    (∀ j, a < j → j < (kloop (kf l) l a n e ks).2 → ∃ u : Nat, upAt l j = some (u : Int) ∧ a ≤ u) ∧ ((kloop (kf l) l a n e ks).2 < l.length → ∀ u : Nat, upAt l (kloop (kf l) l a n e ks).2 = some (u : Int) → u < a) ∧ (kloop (kf l) l a n e ks).1 = (KK l a (a + 1) (kloop (kf l) l a n e ks).2).map (t2L l) ∧ a < (kloop (kf l) l a n e ks).2
  | 0, e, ks, h1, h2, h3, h4, h5, h6 => ⟨h4, fun h => by simp only [kloop] at h; omega, h6, h2⟩
  | n + 1, e, ks, h1, h2, h3, h4, h5, h6 => by
    unfold kloop
    split
    · rename_i hu
      have hl := up_lt hu
      obtain ⟨b1, b2⟩ := kf_bnd l e hl
      have B := IH e h2 hl
      have inn' : ∀ j, a < j → j < (kf l e).2 → ∃ u : Nat, upAt l j = some (u : Int) ∧ a ≤ u := fun j g1 g2 => by
        rcases Nat.lt_trichotomy j e with g3 | g3 | g3
        · exact h4 j g1 g3
        · subst g3; exact ⟨a, hu, Nat.le_refl _⟩
        · obtain ⟨u, k1, k2⟩ := B.inn j g3 g2; exact ⟨u, k1, by omega⟩
      refine loop_blk H ha IH n (kf l e).2 _ (by omega) (by omega) b2 inn' (fun g1 u g2 => ?_) ?_
      · have g3 := B.out g1 u g2
        obtain ⟨u', k1, k2, k3, k4⟩ := H.up (kf l e).2 (by omega) g1
        rw [g2] at k1; injection k1 with k1
        have : u = u' := by omega
        subst this
        rcases out_in (fun j hj => H.lt j (by omega)) B.inn k4 (by omega) (by omega) with k5 | ⟨v, k5, k6⟩
        · omega
        · rw [hu] at k5; injection k5 with k5
          have : a = v := by omega
          subst this
          exact out_le H.lt k6 ha
      · rw [h6, B.tree, ← KK_app (l := l) (a := a) (show a + 1 ≤ e by omega) (Nat.le_of_lt b1), List.map_append, KK_one b1 hu (fun j g1 g2 g3 => by
          obtain ⟨u, k1, k2⟩ := B.inn j g1 g2
          rw [g3] at k1; injection k1 with k1; omega)]
        rfl
    · rename_i hu
      refine ⟨h4, fun g1 u g2 => ?_, h6, h2⟩
      have := h5 g1 u g2
      have : u ≠ a := fun e => by subst e; exact hu g2
      omega
theorem blk_all {l : List Ty} (H : Ord l) : ∀ (n a : Nat), l.length - a ≤ n → a < l.length → Blk2 l a
  | 0, a, h1, h2 => by omega
  | n + 1, a, h1, h2 => by
    have IH : ∀ b, a < b → b < l.length → Blk2 l b := fun b g1 g2 => blk_all H n b (by omega) g2
    have hq : a + 1 < l.length → ∀ u : Nat, upAt l (a + 1) = some (u : Int) → u ≤ a := fun g1 u g2 => by
      have := H.lt (a + 1) g1 u g2; omega
    have hk := kf_eq h2
    cases hh : holdsK (labAt l a).1 with
    | true =>
      rw [hh, cond_true] at hk
      obtain ⟨r1, r2, r3, r4⟩ := loop_blk H h2 IH l.length (a + 1) [] (by omega) (by omega) (by omega) (fun j g1 g2 => by omega) hq (by rw [KK_nil (fun j g1 g2 => by omega)]; rfl)
      have hb := kloop_bnd (a := a) (kf_bnd l) l.length (a + 1) [] h2
      generalize kloop (kf l) l a l.length (a + 1) [] = r at *
      have hN : ∀ j, r.2 ≤ j → j < l.length → ∀ u : Nat, upAt l j = some (u : Int) → u < a ∨ r.2 ≤ u := by
        intro j
        induction j using Nat.strongRecOn with
        | ind j ih =>
          intro g1 g2 u g3
          by_cases e : j = r.2
          · subst e; exact .inl (r2 g2 u g3)
          · obtain ⟨u', k1, k2, k3, k4⟩ := H.up j (by omega) g2
            rw [g3] at k1; injection k1 with k1
            have : u = u' := by omega
            subst this
            exact out_ex (i := j) (fun x hx => H.lt x (by omega)) (by omega) (fun x q1 q2 => ih x q2 q1 (by omega)) k4 (by omega) (by omega)
      refine ⟨by rw [hk]; exact r1, by rw [hk]; exact r2, ?_⟩
      rw [hk, t2_KK h2, r3, ← KK_app (l := l) (a := a) (show a + 1 ≤ r.2 by omega) hb.2, KK_nil (s := r.2) (fun j g1 g2 g3 => by
        rcases hN j g1 g2 a g3 with k | k <;> omega), List.append_nil]
    | false =>
      rw [hh, cond_false] at hk
      have none : ∀ j, a < j → j < l.length → upAt l j ≠ some (a : Int) := fun j g1 g2 g3 => by
        obtain ⟨u, k1, k2, k3, k4⟩ := H.up j (by omega) g2
        rw [g3] at k1; injection k1 with k1
        have : a = u := by omega
        subst this
        rw [hh] at k3; cases k3
      refine ⟨?_, ?_, ?_⟩
      · rw [hk]; intro j g1 g2
        have g2 : j < a + 1 := g2
        omega
      · rw [hk]; intro g1 u g2
        have g1 : a + 1 < l.length := g1
        have := hq g1 u g2
        have : u ≠ a := fun e => by subst e; exact none _ (by omega) g1 g2
        omega
      rw [hk, t2_KK h2, KK_nil (fun j g1 g2 => none j (by omega) g2)]
      rfl
theorem Ord.end' {l : List Ty} (H : Ord l) (h : 0 < l.length) : (kf l 0).2 = l.length ∧ (kf l 0).1 = t2L l 0 := by
  have B := blk_all H l.length 0 (by omega) h
  have hb := kf_bnd l 0 h
  refine ⟨?_, B.tree⟩
  by_cases e : (kf l 0).2 < l.length
  · obtain ⟨u, k1, _⟩ := H.up _ hb.1 e
    have := B.out e u k1; omega
  · omega
/-- A part goes ahead of another one. -/
def Ahead (y z : Lab) : Prop := y.2.2.1 < z.2.2.1 ∧ y.2.1 ≠ z.2.1
structure Prs (l : List Ty) (a : Nat) : Prop where
  inn : ∀ j, a < j → j < (kf l a).2 → ∃ u : Nat, upAt l j = some (u : Int) ∧ a ≤ u ∧ u < j ∧ holdsK (labAt l u).1 = true ∧ Out l (j - 1) u
  out : ∀ j, a ≤ j → j < (kf l a).2 → Out l j a
theorem loop_prs {l : List Ty} {a : Nat} (ha : a < l.length) (hh : holdsK (labAt l a).1 = true) (IH : ∀ b, a < b → b < l.length → Prs l b) : ∀ (n e : Nat) (ks : List (Rose Lab)), a < e → e ≤ l.length →
    (∀ j, a < j → j < e → ∃ u : Nat, upAt l j = some (u : Int) ∧ a ≤ u ∧ u < j ∧ holdsK (labAt l u).1 = true ∧ Out l (j - 1) u) → (∀ j, a ≤ j → j < e → Out l j a) →
    (∀ j, a < j → j < (kloop (kf l) l a n e ks).2 → ∃ u : Nat, upAt l j = some (u : Int) ∧ a ≤ u ∧ u < j ∧ holdsK (labAt l u).1 = true ∧ Out l (j - 1) u) ∧ (∀ j, a ≤ j → j < (kloop (kf l) l a n e ks).2 → Out l j a)
  | 0, e, ks, h1, h2, h3, h4 => ⟨h3, h4⟩
  | n + 1, e, ks, h1, h2, h3, h4 => by
    unfold kloop
    split
    · rename_i hu
      have hl := up_lt hu
      obtain ⟨b1, b2⟩ := kf_bnd l e hl
      have B := IH e h1 hl
      refine loop_prs ha hh IH n (kf l e).2 _ (by omega) b2 (fun j g1 g2 => ?_) (fun j g1 g2 => ?_)
      · rcases Nat.lt_trichotomy j e with g3 | g3 | g3
        · exact h3 j g1 g3
        · subst g3; exact ⟨a, hu, Nat.le_refl _, h1, hh, h4 (j - 1) (by omega) (by omega)⟩
        · obtain ⟨u, k1, k2, k3⟩ := B.inn j g3 g2; exact ⟨u, k1, by omega, k3⟩
      · by_cases g3 : j < e
        · exact h4 j g1 g3
        · exact (B.out j (by omega) g2).trans (.step e a a hu (.refl a))
    · exact ⟨h3, h4⟩
theorem prs_all {l : List Ty} : ∀ (n a : Nat), l.length - a ≤ n → a < l.length → Prs l a
  | 0, a, h1, h2 => by omega
  | n + 1, a, h1, h2 => by
    have IH : ∀ b, a < b → b < l.length → Prs l b := fun b g1 g2 => prs_all n b (by omega) g2
    have hk := kf_eq h2
    have base : ∀ j, a ≤ j → j < a + 1 → Out l j a := fun j g1 g2 => by
      have : j = a := by omega
      subst this; exact .refl j
    cases hh : holdsK (labAt l a).1 with
    | true =>
      rw [hh, cond_true] at hk
      obtain ⟨r1, r2⟩ := loop_prs h2 hh IH l.length (a + 1) [] (by omega) (by omega) (fun j g1 g2 => by omega) base
      exact ⟨by rw [hk]; exact r1, by rw [hk]; exact r2⟩
    | false =>
      rw [hh, cond_false] at hk
      refine ⟨?_, by rw [hk]; exact base⟩
      rw [hk]; intro j g1 g2
      have g2 : j < a + 1 := g2
      omega
theorem ord_of_parse {l : List Ty} (h : 0 < l.length) (h0 : upAt l 0 = some (-1)) (he : (kf l 0).2 = l.length) : Ord l := by
  have B := prs_all l.length 0 (by omega) h
  refine ⟨h0, fun i g1 g2 => ?_⟩
  obtain ⟨u, k1, k2, k3, k4, k5⟩ := B.inn i g1 (by omega)
  exact ⟨u, k1, k3, k4, k5⟩
theorem ord_of_S {l : List Ty} (h : 0 < l.length) (ho : (List.range l.length).all (okT l) = true) : Ord l := by
  have at' : ∀ i, i < l.length → okT l i = true := fun i hi => List.all_eq_true.1 ho i (List.mem_range.2 hi)
  refine ⟨?_, fun i g1 g2 => ?_⟩
  · have := at' 0 h
    unfold okT at this
    rw [if_pos rfl] at this
    simp only [Bool.and_eq_true, decide_eq_true_eq] at this
    exact this.2.1.1.1.2
  · have := at' i g2
    unfold okT partSB at this
    rw [if_neg (by omega), Bool.and_eq_true] at this
    have this := this.2
    cases hu : upAt l i with
    | none => rw [hu] at this; cases this
    | some u =>
      rw [hu] at this
      simp only [Bool.and_eq_true, decide_eq_true_eq] at this
      obtain ⟨⟨⟨⟨c1, c2⟩, c3⟩, c4⟩, _⟩ := this
      obtain ⟨u, rfl⟩ := Int.eq_ofNat_of_zero_le c1
      unfold aroundB at c4
      rw [hu] at c4
      dsimp only at c4
      have e : (i : Int) - 1 = ((i - 1 : Nat) : Int) := by omega
      rw [e] at c4
      obtain ⟨y, k1, k2⟩ := arnd_out l u (i + 1) (i - 1) c4
      have : u = y := by omega
      subst this
      exact ⟨u, rfl, by omega, c3, k2⟩
theorem Ord.around {l : List Ty} (H : Ord l) {i : Nat} (h1 : 0 < i) (h2 : i < l.length) : aroundB l i = true := by
  obtain ⟨u, k1, k2, k3, k4⟩ := H.up i h1 h2
  unfold aroundB
  rw [k1]
  dsimp only
  have e : (i : Int) - 1 = ((i - 1 : Nat) : Int) := by omega
  rw [e]
  exact out_arnd (i := l.length) H.lt k4 (by omega) (i + 1) (by omega)
/-! Maps. -/
theorem mget_put (x y : List UInt8) (v : Bool) : ∀ l : List (List UInt8 × Bool), mget .str (mput .str l x v) y = if y = x then some v else mget .str l y
  | [] => by
    show (match keyEq .str y x with | true => some v | false => mget .str [] y) = _
    by_cases h : y = x
    · subst h
      have : keyEq .str y y = true := beq_self_eq_true y
      rw [this, if_pos rfl]
    · have : keyEq .str y x = false := beq_false_of_ne h
      rw [this, if_neg h]
  | e :: l => by
    unfold mput
    by_cases h : x = e.1
    · subst h
      simp only [keyEq, beq_self_eq_true]
      unfold mget
      by_cases h2 : y = e.1
      · subst h2; simp [keyEq]
      · simp only [keyEq, beq_false_of_ne h2, if_neg h2]
    · have : keyEq .str x e.1 = false := beq_false_of_ne h
      rw [this]
      dsimp only
      unfold mget
      by_cases h2 : y = e.1
      · subst h2; simp [keyEq, Ne.symm h]
      · have h3 : keyEq .str y e.1 = false := beq_false_of_ne h2
        rw [h3]
        exact mget_put x y v l
theorem msgL_pw : ∀ (l pre : List (Rose Lab)) (seen : List (List UInt8 × Bool)), (∀ nm, (mget .str seen nm).getD false = true ↔ ∃ z ∈ pre, z.lab.2.1 = nm) → pre.Pairwise (fun y z => Ahead y.lab z.lab) →
    (msgL (pre ++ l) pre.length seen l = true ↔ (pre ++ l).Pairwise (fun y z => Ahead y.lab z.lab))
  | [], pre, seen, _, hp => by rw [msgL, List.append_nil]; exact ⟨fun _ => hp, fun _ => rfl⟩
  | z :: l, pre, seen, hs, hp => by
    have hpg : prevGe (pre ++ z :: l) pre.length z.lab.2.2.1 = true ↔ ∃ y, pre.getLast? = some y ∧ y.lab.2.2.1 ≥ z.lab.2.2.1 := by
      cases hl : pre.getLast? with
      | none =>
        have : pre = [] := by simpa using hl
        subst this
        simp [prevGe]
      | some y =>
        have hne : pre ≠ [] := by intro e; subst e; cases hl
        obtain ⟨m, hm⟩ : ∃ m, pre.length = m + 1 := ⟨pre.length - 1, by have := List.length_pos_iff.2 hne; omega⟩
        have hy : (pre ++ z :: l)[m]? = some y := by
          rw [List.getElem?_append_left (by omega), ← hl, List.getLast?_eq_getElem?, hm]; rfl
        rw [hm]
        unfold prevGe
        dsimp only
        rw [hy]
        simp
    have hR : (∀ y ∈ pre, Ahead y.lab z.lab) ↔ ¬ ((mget .str seen z.lab.2.1).getD false || prevGe (pre ++ z :: l) pre.length z.lab.2.2.1) = true := by
      rw [Bool.or_eq_true, hs, hpg]
      constructor
      · rintro h (⟨y, g1, g2⟩ | ⟨y, g1, g2⟩)
        · exact (h y g1).2 g2
        · have := (h y (List.mem_of_getLast? g1)).1; omega
      · intro h y hy
        refine ⟨?_, fun e => h (.inl ⟨y, hy, e⟩)⟩
        cases hl : pre.getLast? with
        | none =>
          have : pre = [] := by simpa using hl
          subst this; cases hy
        | some w =>
          have h1 : ¬ w.lab.2.2.1 ≥ z.lab.2.2.1 := fun g => h (.inr ⟨w, hl, g⟩)
          have hne : pre ≠ [] := by intro e; subst e; cases hl
          have e : pre = pre.dropLast ++ [w] := by
            rw [List.getLast?_eq_some_getLast hne] at hl
            have := (List.dropLast_concat_getLast hne).symm
            rw [Option.some.inj hl] at this
            exact this
          rw [e] at hy hp
          rcases List.mem_append.1 hy with hy | hy
          · have := (List.pairwise_append.1 hp).2.2 y hy w (by simp)
            have := this.1; omega
          · simp at hy; subst hy; omega
    rw [msgL]
    by_cases hc : ((mget .str seen z.lab.2.1).getD false || prevGe (pre ++ z :: l) pre.length z.lab.2.2.1) = true
    · rw [if_pos hc]
      refine ⟨fun h => (by cases h), fun h => ?_⟩
      exact absurd hc (hR.1 fun y hy => (List.pairwise_append.1 h).2.2 y hy z (by simp))
    · rw [if_neg hc]
      have hall := hR.2 hc
      have hp2 : (pre ++ [z]).Pairwise (fun y z => Ahead y.lab z.lab) := List.pairwise_append.2 ⟨hp, List.pairwise_singleton _ _, fun y hy w hw => by simp at hw; subst hw; exact hall y hy⟩
      have ih := msgL_pw l (pre ++ [z]) (mput .str seen z.lab.2.1 true) (fun nm => by
        rw [mget_put]
        by_cases e : nm = z.lab.2.1
        · rw [if_pos e]; simp [e]
        · rw [if_neg e, hs]
          constructor
          · rintro ⟨w, g1, g2⟩; exact ⟨w, by simp [g1], g2⟩
          · rintro ⟨w, g1, g2⟩
            rcases List.mem_append.1 g1 with g1 | g1
            · exact ⟨w, g1, g2⟩
            · simp at g1; subst g1; exact absurd g2.symm e) hp2
      rw [List.append_assoc] at ih
      simpa using ih
theorem msgL_iff (zs : List (Rose Lab)) : msgL zs 0 [] zs = true ↔ zs.Pairwise (fun y z => Ahead y.lab z.lab) := by
  have := msgL_pw zs [] [] (fun nm => by simp [mget]) List.Pairwise.nil
  simpa using this
theorem pairwise_sorted {R : Nat → Nat → Prop} : ∀ {l : List Nat}, l.Pairwise (· < ·) → (l.Pairwise R ↔ ∀ a ∈ l, ∀ b ∈ l, a < b → R a b)
  | [], _ => by simp
  | x :: l, h => by
    rw [List.pairwise_cons] at h
    rw [List.pairwise_cons, pairwise_sorted h.2]
    constructor
    · rintro ⟨h1, h2⟩ a ha b hb hab
      rcases List.mem_cons.1 ha with ea | ha'
      · rcases List.mem_cons.1 hb with eb | hb'
        · omega
        · rw [ea]; exact h1 b hb'
      · rcases List.mem_cons.1 hb with eb | hb'
        · have := h.1 a ha'; omega
        · exact h2 a ha' b hb' hab
    · intro g
      exact ⟨fun b hb => g x (by simp) b (by simp [hb]) (h.1 b hb), fun a ha b hb hab => g a (by simp [ha]) b (by simp [hb]) hab⟩
theorem KK_mem {l : List Ty} {a s t j : Nat} : j ∈ KK l a s t ↔ (s ≤ j ∧ j < t) ∧ upAt l j = some (a : Int) := by
  unfold KK
  rw [List.mem_filter, List.mem_range'_1, decide_eq_true_eq]
  constructor
  · rintro ⟨h1, h2⟩; exact ⟨by omega, h2⟩
  · rintro ⟨h1, h2⟩; exact ⟨by omega, h2⟩
theorem KK_sorted (l : List Ty) (a s t : Nat) : (KK l a s t).Pairwise (· < ·) := (List.pairwise_lt_range').filter _
def CD (l : List Ty) : Prop := ∀ j, j < l.length → partsB (labAt l j) ((KK l j (j + 1) l.length).map (t2L l)) = true ∧ ∀ c ∈ KK l j (j + 1) l.length, partB (labAt l j).1 (labAt l c) = true
theorem t2_lab {l : List Ty} {a : Nat} (h : a < l.length) : (t2L l a).lab = labAt l a := by rw [t2_KK h]; rfl
theorem rightL_all (k : Int) : ∀ ks : List (Rose Lab), rightL k ks = true ↔ ∀ z ∈ ks, partB k z.lab = true ∧ rightR z = true
  | [] => by simp [rightL]
  | z :: ks => by
    rw [rightL, Bool.and_eq_true, Bool.and_eq_true, rightL_all k ks]
    constructor
    · rintro ⟨h1, h2⟩ w hw
      rcases List.mem_cons.1 hw with e | hw'
      · rw [e]; exact h1
      · exact h2 w hw'
    · intro h
      exact ⟨h z (by simp), fun w hw => h w (by simp [hw])⟩
theorem right_t2 {l : List Ty} {a : Nat} (h : a < l.length) : rightR (t2L l a) = true ↔ partsB (labAt l a) ((KK l a (a + 1) l.length).map (t2L l)) = true ∧ ∀ c ∈ KK l a (a + 1) l.length, partB (labAt l a).1 (labAt l c) = true ∧ rightR (t2L l c) = true := by
  rw [t2_KK h, rightR, Bool.and_eq_true, rightL_all]
  constructor
  · rintro ⟨h1, h2⟩
    refine ⟨h1, fun c hc => ?_⟩
    have hcl := (KK_mem.1 hc).1.2
    have := h2 (t2L l c) (List.mem_map.2 ⟨c, hc, rfl⟩)
    rw [t2_lab hcl] at this
    exact this
  · rintro ⟨h1, h2⟩
    refine ⟨h1, fun z hz => ?_⟩
    obtain ⟨c, hc, rfl⟩ := List.mem_map.1 hz
    have hcl := (KK_mem.1 hc).1.2
    rw [t2_lab hcl]
    exact h2 c hc
theorem right_iff {l : List Ty} (H : Ord l) (h0 : 0 < l.length) : rightR (t2L l 0) = true ↔ CD l := by
  constructor
  · intro h
    have all : ∀ j, j < l.length → rightR (t2L l j) = true := by
      intro j
      induction j using Nat.strongRecOn with
      | ind j ih =>
        intro hj
        rcases Nat.eq_zero_or_pos j with rfl | hp
        · exact h
        · obtain ⟨u, k1, k2, _⟩ := H.up j hp hj
          exact (((right_t2 (by omega)).1 (ih u k2 (by omega))).2 j (KK_mem.2 ⟨⟨by omega, hj⟩, k1⟩)).2
    intro j hj
    have := (right_t2 hj).1 (all j hj)
    exact ⟨this.1, fun c hc => (this.2 c hc).1⟩
  · intro h
    have all : ∀ n j, l.length - j ≤ n → j < l.length → rightR (t2L l j) = true := by
      intro n
      induction n with
      | zero => intro j g1 g2; omega
      | succ n ih =>
        intro j g1 g2
        refine (right_t2 g2).2 ⟨(h j g2).1, fun c hc => ⟨(h j g2).2 c hc, ?_⟩⟩
        have := (KK_mem.1 hc).1
        exact ih c (by omega) (by omega)
    exact all l.length 0 (by omega) h0
theorem lab_at {l : List Ty} {i : Nat} (h : i < l.length) : labAt l i = (l[i].1, l[i].2.1, l[i].2.2.1, l[i].2.2.2.1, l[i].2.2.2.2.2.1, ()) := by unfold labAt; rw [List.getElem?_eq_getElem h]
theorem sibs_iff {l : List Ty} {a c : Nat} (hc : c ≤ l.length) (no : Int) (nm : List UInt8) : sibs (a : Int) no nm ((l.take c).drop (a + 1)) = true ↔ ∀ k, a < k → k < c → upAt l k = some (a : Int) → (labAt l k).2.2.1 < no ∧ (labAt l k).2.1 ≠ nm := by
  have up : ∀ k (h : k < l.length), upAt l k = some (l[k].2.2.2.2.1) := fun k h => by unfold upAt; rw [List.getElem?_eq_getElem h]; rfl
  unfold sibs
  rw [List.all_eq_true]
  constructor
  · intro h k g1 g2 g3
    have hk : k < l.length := by omega
    have hm : l[k] ∈ (l.take c).drop (a + 1) := by
      refine List.mem_iff_getElem?.2 ⟨k - (a + 1), ?_⟩
      rw [List.getElem?_drop, show a + 1 + (k - (a + 1)) = k by omega, List.getElem?_take, if_pos g2, List.getElem?_eq_getElem hk]
    have := h _ hm
    rw [up k hk] at g3
    rw [Option.some.inj g3, beq_self_eq_true, Bool.true_and] at this
    rw [lab_at hk]
    simp only [Bool.not_eq_true', Bool.or_eq_false_iff, decide_eq_false_iff_not, beq_eq_false_iff_ne] at this
    show l[k].2.2.1 < no ∧ l[k].2.1 ≠ nm
    exact ⟨by have := this.1; omega, this.2⟩
  · intro h o ho
    obtain ⟨j, hj⟩ := List.mem_iff_getElem?.1 ho
    rw [List.getElem?_drop, List.getElem?_take] at hj
    split at hj
    · rename_i hlt
      have hk : a + 1 + j < l.length := by omega
      rw [List.getElem?_eq_getElem hk] at hj
      have e := Option.some.inj hj
      by_cases hu : o.2.2.2.2.1 = (a : Int)
      · have := h (a + 1 + j) (by omega) hlt (by rw [up _ hk, e, hu])
        rw [lab_at hk, e] at this
        have this : o.2.2.1 < no ∧ o.2.1 ≠ nm := this
        have h1 : decide (o.2.2.1 ≥ no) = false := decide_eq_false (by have := this.1; omega)
        have h2 : (o.2.1 == nm) = false := beq_false_of_ne this.2
        rw [h1, h2]; simp
      · rw [beq_false_of_ne hu]; rfl
    · cases hj
theorem holds_cases {k : Int} (h : holdsK k = true) : k = 4 ∨ k = 5 := by
  unfold holdsK at h
  rw [Bool.or_eq_true] at h
  rcases h with h | h
  · exact .inl (by simpa using h)
  · exact .inr (by simpa using h)
theorem KK_leaf {l : List Ty} (H : Ord l) {j : Nat} (h : holdsK (labAt l j).1 = false) : KK l j (j + 1) l.length = [] := KK_nil fun c g1 g2 g3 => by
  obtain ⟨u, k1, k2, k3, _⟩ := H.up c (by omega) g2
  rw [g3] at k1; injection k1 with k1
  have : j = u := by omega
  subst this
  rw [h] at k3; cases k3
theorem parts_iff {l : List Ty} (H : Ord l) {j : Nat} (hj : j < l.length) : partsB (labAt l j) ((KK l j (j + 1) l.length).map (t2L l)) = true ↔ kmB (labAt l j) = true ∧ oneKid l j = true ∧ ((labAt l j).1 = 5 → ∀ c ∈ KK l j (j + 1) l.length, ∀ k ∈ KK l j (j + 1) l.length, k < c → Ahead (labAt l k) (labAt l c)) := by
  have hone : oneKid l j = !((labAt l j).1 == 4 && (KK l j (j + 1) l.length).length != 1) := by unfold oneKid; rw [kidsAt_KK, List.length_map]
  have hmsg : msgL ((KK l j (j + 1) l.length).map (t2L l)) 0 [] ((KK l j (j + 1) l.length).map (t2L l)) = true ↔ ∀ c ∈ KK l j (j + 1) l.length, ∀ k ∈ KK l j (j + 1) l.length, k < c → Ahead (labAt l k) (labAt l c) := by
    rw [msgL_iff, List.pairwise_map, pairwise_sorted (KK_sorted l j (j + 1) l.length)]
    constructor
    · intro h c hc k hk hkc
      have := h k hk c hc hkc
      rw [t2_lab (KK_mem.1 hk).1.2, t2_lab (KK_mem.1 hc).1.2] at this
      exact this
    · intro h k hk c hc hkc
      rw [t2_lab (KK_mem.1 hk).1.2, t2_lab (KK_mem.1 hc).1.2]
      exact h c hc k hk hkc
  rw [hone]
  have hk0 : (labAt l j).1 ≠ 4 → (labAt l j).1 ≠ 5 → KK l j (j + 1) l.length = [] := fun h4 h5 => KK_leaf H (by unfold holdsK; rw [beq_false_of_ne h4, beq_false_of_ne h5]; rfl)
  unfold partsB kmB
  rw [List.length_map]
  generalize labAt l j = x at hk0 ⊢
  by_cases a1 : x.1 = 1 ∨ x.1 = 2
  · have h4 : x.1 ≠ 4 := by rcases a1 with h | h <;> omega
    have h5 : x.1 ≠ 5 := by rcases a1 with h | h <;> omega
    have h3 : x.1 ≠ 3 := by rcases a1 with h | h <;> omega
    rw [if_pos a1, hk0 h4 h5, if_neg h3, decide_eq_true (show 1 ≤ x.1 ∧ x.1 ≤ 5 by rcases a1 with h | h <;> omega), beq_false_of_ne h4]
    simp [h5]
  by_cases a3 : x.1 = 3
  · have h4 : x.1 ≠ 4 := by omega
    have h5 : x.1 ≠ 5 := by omega
    rw [if_neg a1, if_pos a3, hk0 h4 h5, if_pos a3, decide_eq_true (show 1 ≤ x.1 ∧ x.1 ≤ 5 by omega), beq_false_of_ne h4]
    simp [h5]
  by_cases a4 : x.1 = 4
  · have h5 : x.1 ≠ 5 := by omega
    rw [if_neg a1, if_neg a3, if_pos a4, if_neg a3, decide_eq_true (show 1 ≤ x.1 ∧ x.1 ≤ 5 by omega), a4]
    simp [h5]
  by_cases a5 : x.1 = 5
  · rw [if_neg a1, if_neg a3, if_neg a4, if_neg a3, decide_eq_true (show 1 ≤ x.1 ∧ x.1 ≤ 5 by omega), beq_false_of_ne a4]
    by_cases a6 : x.2.2.2.2.1 = 0
    · rw [if_neg (by rintro (h | h); exact h a5; exact h a6), hmsg]
      simp [a5, a6]
    · rw [if_pos (.inr a6)]
      simp [a6]
  · have a0 : ¬ (1 ≤ x.1 ∧ x.1 ≤ 5) := by omega
    rw [if_neg a1, if_neg a3, if_neg a4, if_pos (.inl a5), decide_eq_false a0]
    simp
theorem part_iff {l : List Ty} (H : Ord l) {i u : Nat} (hi : 0 < i) (hl : i < l.length) (hu : upAt l i = some (u : Int)) (hlt : u < i) (hh : holdsK (labAt l u).1 = true) :
    partSB l i = true ↔ partB (labAt l u).1 (labAt l i) = true ∧ ((labAt l u).1 = 5 → ∀ k ∈ KK l u (u + 1) l.length, k < i → Ahead (labAt l k) (labAt l i)) := by
  have ha := H.around hi hl
  have hs := sibs_iff (l := l) (a := u) (c := i) (by omega) (labAt l i).2.2.1 (labAt l i).2.1
  have hk : (∀ k ∈ KK l u (u + 1) l.length, k < i → Ahead (labAt l k) (labAt l i)) ↔ ∀ k, u < k → k < i → upAt l k = some (u : Int) → (labAt l k).2.2.1 < (labAt l i).2.2.1 ∧ (labAt l k).2.1 ≠ (labAt l i).2.1 := by
    constructor
    · intro h k g1 g2 g3; exact h k (KK_mem.2 ⟨⟨g1, by omega⟩, g3⟩) g2
    · intro h k g1 g2
      have := KK_mem.1 g1
      exact h k this.1.1 g2 this.2
  rw [hk, ← hs]
  unfold partSB partB
  rw [hu]
  dsimp only
  rw [Int.toNat_natCast, decide_eq_true (show 0 ≤ (u : Int) ∧ (u : Int) < (i : Int) by omega), hh, ha]
  rcases holds_cases hh with h4 | h5
  · rw [if_pos h4, if_neg (by omega)]
    simp [h4]
  · rw [if_neg (by omega), if_pos h5]
    simp [h5]
/-- The two ways to read types are one. -/
theorem gsch_eq (l : List Ty) : gschS l = kindB l ∧ (kindB l = true → (kf l 0).1 = t2L l 0) := by
  have main : ∀ (H : Ord l), 1 ≤ l.length ∧ l.length ≤ 30 → (gschS l = true ↔ kindB l = true) := fun H hl => by
    have h0 : 0 < l.length := by omega
    obtain ⟨e1, e2⟩ := H.end' h0
    have hc := kf_cnt h0
    have hkm : CD l ↔ (∀ j, j < l.length → kmB (labAt l j) = true ∧ oneKid l j = true) ∧ ∀ j, 0 < j → j < l.length → partSB l j = true := by
      constructor
      · intro h
        refine ⟨fun j hj => ?_, fun j hp hj => ?_⟩
        · have := (parts_iff H hj).1 (h j hj).1
          exact ⟨this.1, this.2.1⟩
        · obtain ⟨u, k1, k2, k3, _⟩ := H.up j hp hj
          have hm : j ∈ KK l u (u + 1) l.length := KK_mem.2 ⟨⟨k2, hj⟩, k1⟩
          have hul : u < l.length := by omega
          refine (part_iff H hp hj k1 k2 k3).2 ⟨(h u hul).2 j hm, fun h5 k hk hkj => ?_⟩
          exact ((parts_iff H hul).1 (h u hul).1).2.2 h5 j hm k hk hkj
      · rintro ⟨h1, h2⟩ j hj
        have hcc : ∀ c ∈ KK l j (j + 1) l.length, partB (labAt l j).1 (labAt l c) = true ∧ ((labAt l j).1 = 5 → ∀ k ∈ KK l j (j + 1) l.length, k < c → Ahead (labAt l k) (labAt l c)) := fun c hc => by
          obtain ⟨⟨g1, g2⟩, g3⟩ := KK_mem.1 hc
          obtain ⟨u, k1, k2, k3, _⟩ := H.up c (by omega) g2
          rw [g3] at k1; injection k1 with k1
          have : j = u := by omega
          subst this
          exact (part_iff H (by omega) g2 g3 k2 k3).1 (h2 c (by omega) g2)
        exact ⟨(parts_iff H hj).2 ⟨(h1 j hj).1, (h1 j hj).2, fun h5 c hc k hk hkc => (hcc c hc).2 h5 k hk hkc⟩, fun c hc => (hcc c hc).1⟩
    unfold gschS kindB goodR
    rw [decide_eq_true hl, decide_eq_true H.zero, e1, e2, t2_lab h0]
    have hcnt : decide (cntR (t2L l 0) ≤ 30) = true := decide_eq_true (by rw [← e2]; omega)
    rw [hcnt]
    simp only [Bool.true_and, Bool.and_true, Bool.and_eq_true, List.all_eq_true, List.mem_range, decide_eq_true_eq, beq_self_eq_true, true_and, right_iff H h0, hkm]
    constructor
    · rintro ⟨⟨h1, h2⟩, h3⟩
      have r := h1 0 h0
      unfold okT at r
      rw [if_pos rfl] at r
      simp only [Bool.and_eq_true, decide_eq_true_eq] at r
      obtain ⟨r0, ⟨⟨⟨r1, r2⟩, r3⟩, r4⟩, r5⟩ := r
      refine ⟨⟨⟨⟨⟨r1, r3⟩, r4⟩, r5⟩, ⟨fun j hj => ⟨?_, h2 j hj⟩, fun j hp hj => ?_⟩⟩, h3⟩
      · have := h1 j hj
        unfold okT at this
        rw [Bool.and_eq_true] at this
        exact this.1
      · have := h1 j hj
        unfold okT at this
        rw [if_neg (by omega), Bool.and_eq_true] at this
        exact this.2
    · rintro ⟨⟨⟨⟨⟨r1, r3⟩, r4⟩, r5⟩, ⟨h1, h2⟩⟩, h3⟩
      refine ⟨⟨fun j hj => ?_, fun j hj => (h1 j hj).2⟩, h3⟩
      unfold okT
      rw [(h1 j hj).1, Bool.true_and]
      by_cases hz : j = 0
      · rw [if_pos hz]
        simp only [Bool.and_eq_true, decide_eq_true_eq]
        exact ⟨⟨⟨⟨r1, H.zero⟩, r3⟩, r4⟩, r5⟩
      · rw [if_neg hz]; exact h2 j (by omega) hj
  have hS : gschS l = true → Ord l ∧ 1 ≤ l.length ∧ l.length ≤ 30 := fun h => by
    unfold gschS at h
    simp only [Bool.and_eq_true, decide_eq_true_eq] at h
    exact ⟨ord_of_S (by omega) h.1.1.2, h.1.1.1⟩
  have hK : kindB l = true → Ord l ∧ 1 ≤ l.length ∧ l.length ≤ 30 := fun h => by
    unfold kindB at h
    simp only [Bool.and_eq_true, decide_eq_true_eq, beq_iff_eq] at h
    exact ⟨ord_of_parse (by omega) h.1.1.2 h.1.2, h.1.1.1⟩
  refine ⟨?_, fun h => ((hK h).1.end' (by have := (hK h).2; omega)).2⟩
  cases h1 : gschS l with
  | true => obtain ⟨H, hl⟩ := hS h1; exact ((main H hl).1 h1).symm
  | false =>
    cases h2 : kindB l with
    | false => rfl
    | true => obtain ⟨H, hl⟩ := hK h2; rw [(main H hl).2 h2] at h1; cases h1
def l2PartG : List V → List Blk → Br (V × List (Option Blk))
  | [.agg [.sl (.pair (.int .i64) (.pair .str (.pair (.int .i64) (.pair .bool (.pair (.int .i64) (.pair (.int .i64) .unit)))))) l], .i .i64 i], [] => .need (decide (0 ≤ i ∧ i.toNat < l.length ∧ l.length ≤ 4000000000) && upsOK l i.toNat && nmL l) (.leaf (.b (partSB l i.toNat), []))
  | _, _ => .no
def l2PartE : LoopEnt := ⟨103, [1,2,5,6], [], [4], fun
  | ([.i .i64 i, .ptr 0 0, .ptr 1 0, .i .i64 k], [some (.box [.sl (.pair (.int .i64) (.pair .str (.pair (.int .i64) (.pair .bool (.pair (.int .i64) (.pair (.int .i64) .unit)))))) l]), some (.box [.i .i64 y0, .s y1, .i .i64 y2, .b y3, .i .i64 y4, .i .i64 y5])]) => .need (decide (0 ≤ k ∧ k ≤ i ∧ i.toNat < l.length ∧ l.length ≤ 4000000000)) (.br (sibs y4 y2 y1 ((l.take i.toNat).drop k.toNat)) (.leaf (.exit 0, ([], []))) (.leaf (.ret, ([.b false], []))))
  | _ => .no⟩
theorem l2Part_round (l : List Ty) (y0 : Int) (y1 : List UInt8) (y2 : Int) (y3 : Bool) (y4 y5 : Int) (i k : Int) : roundK Try.prog (look [(116, .rd1 l2HoldsG), (158, .rd1 l2AroundG), (159, .rd1 nameG), (111, .rd1 withinG)]) (look [(9, l2PartE)]) 0 (body Try.f112 0) l2PartE ([.i .i64 i, .ptr 0 0, .ptr 1 0, .i .i64 k], [some (.box [.sl TCd l]), some (.box [.i .i64 y0, .s y1, .i .i64 y2, .b y3, .i .i64 y4, .i .i64 y5])]) =
  ((ifB (decide (k < i)) (ifT (decide ((0 : Int) ≤ k) && decide (k < (↑l.length : Int))) (ifSome l[k.toNat]? fun z => ifB (z.snd.snd.snd.snd.fst == y4) (ifB (decide
 (z.snd.snd.fst ≥ y2)) (some (Ex.ret, [V.b false], [])) (ifB (z.snd.fst == y1) (some (Ex.ret, [V.b false], [])) (some (Ex.normal, [V.i .i64 i, V.ptr 0 0, V.ptr 1 0, V.i
 .i64 (IntKind.i64.wrap (k + (1 : Int)))], [some (Blk.box [V.sl TCd l]), some (Blk.box [V.i .i64 y0, V.s y1, V.i .i64 y2, V.b y3, V.i .i64 y4, V.i .i64 y5])])))) (some
 (Ex.normal, [V.i .i64 i, V.ptr 0 0, V.ptr 1 0, V.i .i64 (IntKind.i64.wrap (k + (1 : Int)))], [some (Blk.box [V.sl TCd l]), some (Blk.box [V.i .i64 y0, V.s y1, V.i .i64
 y2, V.b y3, V.i .i64 y4, V.i .i64 y5])])))) (some (Ex.exit 0, [], []))) : _) := by kernel_rfl
theorem l2Part_tree (l : List Ty) (i : Int) : funK Try.prog (look [(116, .rd1 l2HoldsG), (158, .rd1 l2AroundG), (159, .rd1 nameG), (111, .rd1 withinG)]) (look [(9, l2PartE)]) Try.f112 [.agg [.sl TCd l], .i .i64 i] [] =
  ((ifT (decide ((0 : Int) ≤ i) && decide (i < (↑l.length : Int))) (ifSome l[i.toNat]? fun z => ifB (decide (z.snd.snd.snd.snd.fst < (0 : Int))) (some (V.b false, [])) (ifB
 (decide (z.snd.snd.snd.snd.fst ≥ i)) (some (V.b false, [])) (ifT (decide ((0 : Int) ≤ z.snd.snd.snd.snd.fst) && decide (z.snd.snd.snd.snd.fst < (↑l.length : Int)))
 (ifSome l[Int.toNat z.snd.snd.snd.snd.fst]? fun z_1 => ifB (!holdsK z_1.fst) (some (V.b false, [])) (ifT (decide ((0 : Int) ≤ i ∧ i.toNat < l.length ∧ l.length ≤
 (4000000000 : Nat)) && upsOK l i.toNat) (ifB (!aroundB l i.toNat) (some (V.b false, [])) (ifT (decide ((0 : Int) ≤ z.snd.snd.snd.snd.fst) && decide (z.snd.snd.snd.snd.fst
 < (↑l.length : Int))) (ifSome l[Int.toNat z.snd.snd.snd.snd.fst]? fun z_2 => ifB (z_2.fst == (4 : Int)) (ifB (z.snd.fst == nilT UInt8) (ifB (z.snd.snd.fst == (0 : Int))
 (some (V.b !z.snd.snd.snd.fst, [])) (some (V.b false, []))) (some (V.b false, []))) (ifT (decide (List.length z.snd.fst ≤ maxI)) (ifB (!nameB z.snd.fst) (some (V.b false,
 [])) (ifB (!decide ((1 : Int) ≤ z.snd.snd.fst ∧ z.snd.snd.fst ≤ (30 : Int))) (some (V.b false, [])) (ifT (decide ((0 : Int) ≤ IntKind.i64.wrap (z.snd.snd.snd.snd.fst + (1
 : Int)) ∧ IntKind.i64.wrap (z.snd.snd.snd.snd.fst + (1 : Int)) ≤ i ∧ i.toNat < l.length ∧ l.length ≤ (4000000000 : Nat))) (ifB (sibs z.snd.snd.snd.snd.fst z.snd.snd.fst
 z.snd.fst (List.drop (IntKind.i64.wrap (z.snd.snd.snd.snd.fst + (1 : Int))).toNat (List.take i.toNat l))) (some (V.b true, [])) (some (V.b false, [])))))))))))))))) : _) := by kernel_rfl
theorem l2Part_ok : LoopsOk Try.prog (look [(116, .rd1 l2HoldsG), (158, .rd1 l2AroundG), (159, .rd1 nameG), (111, .rd1 withinG)]) (look [(9, l2PartE)]) 0 (Try.f112.body.getD .skip) := by
  refine loopsOk_one (a := body Try.f112 0) (by kernel_rfl) fun d ex d' h => ?_
  unfold l2PartE at h
  dsimp only at h
  split at h
  · rename_i i k l y0 y1 y2 y3 y4 y5
    obtain ⟨hc, hx⟩ := need_some h
    clear h
    obtain ⟨h0, h1, h2, h3⟩ := of_decide_eq_true hc
    obtain ⟨k, rfl⟩ := Int.eq_ofNat_of_zero_le h0
    obtain ⟨i, rfl⟩ := Int.eq_ofNat_of_zero_le (by omega : 0 ≤ i)
    simp only [Int.toNat_natCast] at h2 hx
    have hM : maxI = 9223372036854775807 := rfl
    have hlen : (l.take i).length = i := by rw [List.length_take]; omega
    refine runs_all (l := l.take i) (fun o : Ty => !(o.2.2.2.2.1 == y4 && (decide (o.2.2.1 ≥ y2) || o.2.1 == y1))) (fun k => ([.i .i64 (i : Int), .ptr 0 0, .ptr 1 0, .i .i64 (k : Int)], [some (.box [.sl TCd l]), some (.box [.i .i64 y0, .s y1, .i .i64 y2, .b y3, .i .i64 y4, .i .i64 y5])])) (ex := (.exit 0, ([], []))) (rt := (.ret, ([.b false], []))) (by simp) (by simp) (fun n hn => ?_) ?_ ((l.take i).length - k) k (by rw [hlen]; omega) ex d' hx
    · rw [hlen] at hn
      have hnl : n < l.length := by omega
      have hr := l2Part_round l y0 y1 y2 y3 y4 y5 i n
      rw [ifB_true (decide_eq_true (by omega)), ifT_true (by simp only [Bool.and_eq_true, decide_eq_true_eq]; omega)] at hr
      simp only [Int.toNat_natCast, List.getElem?_eq_getElem hnl, ifSome_s, wrap_succ (n := n) (by omega)] at hr
      refine hr.trans ?_
      rw [List.getElem_take]
      cases l[n].2.2.2.2.1 == y4 <;> cases decide (l[n].2.2.1 ≥ y2) <;> cases l[n].2.1 == y1 <;> rfl
    · have hr := l2Part_round l y0 y1 y2 y3 y4 y5 i i
      rw [ifB_false (decide_eq_false (by omega))] at hr
      rw [hlen]
      exact hr
  · cases h
theorem l2Part_fun (l : List Ty) (i : Int) (hc : 0 ≤ i ∧ i.toNat < l.length ∧ l.length ≤ 4000000000) (hs : upsOK l i.toNat = true) (hn : nmL l = true) : funK Try.prog (look [(116, .rd1 l2HoldsG), (158, .rd1 l2AroundG), (159, .rd1 nameG), (111, .rd1 withinG)]) (look [(9, l2PartE)]) Try.f112 [.agg [.sl TCd l], .i .i64 i] [] = some (.b (partSB l i.toNat), []) := by
  rw [l2Part_tree]
  obtain ⟨h0, h1, h2⟩ := hc
  obtain ⟨i, rfl⟩ := Int.eq_ofNat_of_zero_le h0
  simp only [Int.toNat_natCast] at h1 hs
  have hM : maxI = 9223372036854775807 := rfl
  have hu : upAt l i = some (l[i].2.2.2.2.1) := by unfold upAt; rw [List.getElem?_eq_getElem h1]; rfl
  have hlb := lab_at h1
  have hnm : l[i].2.1.length ≤ maxI := of_decide_eq_true (List.all_eq_true.1 hn _ (List.getElem_mem h1))
  rw [ifT_true (by simp only [Bool.and_eq_true, decide_eq_true_eq]; omega)]
  simp only [Int.toNat_natCast, List.getElem?_eq_getElem h1, ifSome_s]
  unfold partSB
  rw [hu, hlb]
  dsimp only
  by_cases a1 : l[i].2.2.2.2.1 < 0
  · rw [ifB_true (decide_eq_true a1), decide_eq_false (by omega)]; rfl
  rw [ifB_false (decide_eq_false a1)]
  by_cases a2 : l[i].2.2.2.2.1 ≥ (i : Int)
  · rw [ifB_true (decide_eq_true a2), decide_eq_false (by omega)]; rfl
  obtain ⟨u, hu2⟩ := Int.eq_ofNat_of_zero_le (by omega : 0 ≤ l[i].2.2.2.2.1)
  rw [hu2] at a2 ⊢
  have hul : u < l.length := by omega
  have hg : (decide ((0 : Int) ≤ (u : Int)) && decide ((u : Int) < (l.length : Int))) = true := by simp only [Bool.and_eq_true, decide_eq_true_eq]; omega
  rw [ifB_false (decide_eq_false a2), decide_eq_true (show 0 ≤ (u : Int) ∧ (u : Int) < (i : Int) by omega), hg]
  simp only [Int.toNat_natCast, List.getElem?_eq_getElem hul, ifSome_s, ifT_t]
  rw [lab_at hul]
  dsimp only
  cases holdsK l[u].1 with
  | false => rfl
  | true =>
    rw [Bool.not_true, ifB_f, ifT_true (by rw [Bool.and_eq_true]; exact ⟨decide_eq_true ⟨by omega, h1, h2⟩, hs⟩)]
    cases aroundB l i with
    | false => rfl
    | true =>
      rw [Bool.not_true, ifB_f]
      by_cases a4 : l[u].1 = 4
      · rw [ifB_true (by rw [a4]; rfl), if_pos a4]
        cases l[i].2.1 == nilT UInt8 <;> cases l[i].2.2.1 == 0 <;> rfl
      · rw [ifB_false (beq_false_of_ne a4), if_neg a4, ifT_true (decide_eq_true hnm), wrap_succ (n := u) (by omega)]
        have d1 : decide (1 ≤ l[i].2.2.1 ∧ l[i].2.2.1 ≤ 30) = (decide (1 ≤ l[i].2.2.1) && decide (l[i].2.2.1 ≤ 30)) := Bool.decide_and ..
        rw [d1, ifT_true (decide_eq_true ⟨by omega, by omega, h1, h2⟩), Int.toNat_natCast]
        cases nameB l[i].2.1 <;> cases (decide (1 ≤ l[i].2.2.1) && decide (l[i].2.2.1 ≤ 30)) <;> cases sibs (u : Int) l[i].2.2.1 l[i].2.1 ((l.take i).drop (u + 1)) <;> rfl
theorem l2Part : Contract Try.prog 112 (Ent.rd1 l2PartG).F := by
  refine fun_contract' (KnowsL.cons (enters_fn Try.func116 (by kernel_rfl) (by kernel_rfl)) l2Holds (KnowsL.cons (enters_fn Try.func158 (by kernel_rfl) (by kernel_rfl)) l2Around (KnowsL.cons (enters_fn Try.func159 (by kernel_rfl) (by kernel_rfl)) sname (KnowsL.cons (enters_fn Try.func111 (by kernel_rfl) (by kernel_rfl)) l1In KnowsL.nil)))).knows (Λ := (look [(9, l2PartE)])) Try.func112 (c := Try.f112.body.getD .skip) (by kernel_rfl) fun vs bs r hq hv hb => ?_
  unfold Ent.F l2PartG at hq
  dsimp only at hq
  split at hq
  · rename_i l i
    obtain ⟨hc, hx⟩ := need_some hq
    rw [Bool.and_eq_true, Bool.and_eq_true] at hc
    exact ⟨l2Part_ok, (l2Part_fun l i (of_decide_eq_true hc.1.1) hc.1.2 hc.2).trans hx⟩
  · cases hq
instance decTy0 : DecidableEq (Bool × Int × Int × Unit) := inferInstance
instance decTy : DecidableEq Ty := inferInstance
def gs1E : LoopEnt := ⟨105, [1,13,14,15], [1], [2], fun
  | ([.ptr 0 0, .sl (.pair (.int .i64) (.pair .str (.pair (.int .i64) (.pair .bool (.pair (.int .i64) (.pair (.int .i64) .unit)))))) q, .i .i64 m, .i .i64 i], [some (.box [.sl (.pair (.int .i64) (.pair .str (.pair (.int .i64) (.pair .bool (.pair (.int .i64) (.pair (.int .i64) .unit)))))) l])]) => .need (decide (0 ≤ i ∧ i.toNat ≤ l.length ∧ m = l.length ∧ eqT (List Ty) q l ∧ l.length ≤ 4000000000) && nmL l && upsOK l i.toNat) (.br (((List.range l.length).drop i.toNat).all (okT l)) (.leaf (.exit 0, ([.ptr 0 0], [some (.box [.sl (.pair (.int .i64) (.pair .str (.pair (.int .i64) (.pair .bool (.pair (.int .i64) (.pair (.int .i64) .unit)))))) l])]))) (.leaf (.ret, ([.b false], []))))
  | _ => .no⟩
def gs2E : LoopEnt := ⟨105, [1,83,84,85], [1], [2], fun
  | ([.ptr 0 0, .sl (.pair (.int .i64) (.pair .str (.pair (.int .i64) (.pair .bool (.pair (.int .i64) (.pair (.int .i64) .unit)))))) q, .i .i64 m, .i .i64 i], [some (.box [.sl (.pair (.int .i64) (.pair .str (.pair (.int .i64) (.pair .bool (.pair (.int .i64) (.pair (.int .i64) .unit)))))) l])]) => .need (decide (0 ≤ i ∧ i.toNat ≤ l.length ∧ m = l.length ∧ eqT (List Ty) q l ∧ l.length ≤ 4000000000)) (.br (((List.range l.length).drop i.toNat).all (oneKid l)) (.leaf (.exit 2, ([.ptr 0 0], [some (.box [.sl (.pair (.int .i64) (.pair .str (.pair (.int .i64) (.pair .bool (.pair (.int .i64) (.pair (.int .i64) .unit)))))) l])]))) (.leaf (.ret, ([.b false], []))))
  | _ => .no⟩
theorem gs1_round (l q : List Ty) (m i : Int) : roundK Try.prog (look [(111, .rd1 withinG), (112, .rd1 l2PartG), (113, .rd1 l2KidsG), (53, .rd1 l2TreeG), (114, .rd1 sdeepG)]) (look [(4, gs1E), (12, gs2E)]) 0 (body Try.f50 0) gs1E ([.ptr 0 0, .sl TCd q, .i .i64 m, .i .i64 i], [some (.box [.sl TCd l])]) =
  ((ifB (decide (i < m)) (ifT (decide ((0 : Int) ≤ i) && decide (i < (↑q.length : Int))) (ifSome q[i.toNat]? fun z => ifB (!decide ((1 : Int) ≤ z.fst ∧ z.fst ≤ (5 : Int)))
 (some (Ex.ret, [V.b false], [])) (ifB (z.fst == (3 : Int)) (ifB (!decide ((0 : Int) ≤ z.snd.snd.snd.snd.snd.fst ∧ z.snd.snd.snd.snd.snd.fst ≤ (20 : Int))) (some (Ex.ret,
 [V.b false], [])) (ifB (z.fst != (3 : Int)) (ifB (z.snd.snd.snd.snd.snd.fst != (0 : Int)) (some (Ex.ret, [V.b false], [])) (ifB (i == (0 : Int)) (ifB (z.fst != (5 : Int))
 (some (Ex.ret, [V.b false], [])) (ifB (z.snd.snd.snd.snd.fst != (-1 : Int)) (some (Ex.ret, [V.b false], [])) (ifB (!z.snd.fst == nilT UInt8) (some (Ex.ret, [V.b false],
 [])) (ifB (z.snd.snd.fst != (0 : Int)) (some (Ex.ret, [V.b false], [])) (ifB z.snd.snd.snd.fst (some (Ex.ret, [V.b false], [])) (ifB (decide (i > (0 : Int))) (ifT (decide
 ((0 : Int) ≤ i ∧ i.toNat < l.length ∧ l.length ≤ (4000000000 : Nat)) && upsOK l i.toNat && nmL l) (ifB (!partSB l i.toNat) (some (Ex.ret, [V.b false], [])) (some
 (Ex.normal, [V.ptr 0 0, V.sl TCd q, V.i .i64 m, V.i .i64 (IntKind.i64.wrap (i + (1 : Int)))], [some (Blk.box [V.sl TCd l])])))) (some (Ex.normal, [V.ptr 0 0, V.sl TCd q,
 V.i .i64 m, V.i .i64 (IntKind.i64.wrap (i + (1 : Int)))], [some (Blk.box [V.sl TCd l])])))))))) (ifB (decide (i > (0 : Int))) (ifT (decide ((0 : Int) ≤ i ∧ i.toNat <
 l.length ∧ l.length ≤ (4000000000 : Nat)) && upsOK l i.toNat && nmL l) (ifB (!partSB l i.toNat) (some (Ex.ret, [V.b false], [])) (some (Ex.normal, [V.ptr 0 0, V.sl TCd q,
 V.i .i64 m, V.i .i64 (IntKind.i64.wrap (i + (1 : Int)))], [some (Blk.box [V.sl TCd l])])))) (some (Ex.normal, [V.ptr 0 0, V.sl TCd q, V.i .i64 m, V.i .i64
 (IntKind.i64.wrap (i + (1 : Int)))], [some (Blk.box [V.sl TCd l])]))))) (ifB (i == (0 : Int)) (ifB (z.fst != (5 : Int)) (some (Ex.ret, [V.b false], [])) (ifB
 (z.snd.snd.snd.snd.fst != (-1 : Int)) (some (Ex.ret, [V.b false], [])) (ifB (!z.snd.fst == nilT UInt8) (some (Ex.ret, [V.b false], [])) (ifB (z.snd.snd.fst != (0 : Int))
 (some (Ex.ret, [V.b false], [])) (ifB z.snd.snd.snd.fst (some (Ex.ret, [V.b false], [])) (ifB (decide (i > (0 : Int))) (ifT (decide ((0 : Int) ≤ i ∧ i.toNat < l.length ∧
 l.length ≤ (4000000000 : Nat)) && upsOK l i.toNat && nmL l) (ifB (!partSB l i.toNat) (some (Ex.ret, [V.b false], [])) (some (Ex.normal, [V.ptr 0 0, V.sl TCd q, V.i .i64
 m, V.i .i64 (IntKind.i64.wrap (i + (1 : Int)))], [some (Blk.box [V.sl TCd l])])))) (some (Ex.normal, [V.ptr 0 0, V.sl TCd q, V.i .i64 m, V.i .i64 (IntKind.i64.wrap (i +
 (1 : Int)))], [some (Blk.box [V.sl TCd l])])))))))) (ifB (decide (i > (0 : Int))) (ifT (decide ((0 : Int) ≤ i ∧ i.toNat < l.length ∧ l.length ≤ (4000000000 : Nat)) &&
 upsOK l i.toNat && nmL l) (ifB (!partSB l i.toNat) (some (Ex.ret, [V.b false], [])) (some (Ex.normal, [V.ptr 0 0, V.sl TCd q, V.i .i64 m, V.i .i64 (IntKind.i64.wrap (i +
 (1 : Int)))], [some (Blk.box [V.sl TCd l])])))) (some (Ex.normal, [V.ptr 0 0, V.sl TCd q, V.i .i64 m, V.i .i64 (IntKind.i64.wrap (i + (1 : Int)))], [some (Blk.box [V.sl
 TCd l])])))))) (ifB (z.fst != (3 : Int)) (ifB (z.snd.snd.snd.snd.snd.fst != (0 : Int)) (some (Ex.ret, [V.b false], [])) (ifB (i == (0 : Int)) (ifB (z.fst != (5 : Int))
 (some (Ex.ret, [V.b false], [])) (ifB (z.snd.snd.snd.snd.fst != (-1 : Int)) (some (Ex.ret, [V.b false], [])) (ifB (!z.snd.fst == nilT UInt8) (some (Ex.ret, [V.b false],
 [])) (ifB (z.snd.snd.fst != (0 : Int)) (some (Ex.ret, [V.b false], [])) (ifB z.snd.snd.snd.fst (some (Ex.ret, [V.b false], [])) (ifB (decide (i > (0 : Int))) (ifT (decide
 ((0 : Int) ≤ i ∧ i.toNat < l.length ∧ l.length ≤ (4000000000 : Nat)) && upsOK l i.toNat && nmL l) (ifB (!partSB l i.toNat) (some (Ex.ret, [V.b false], [])) (some
 (Ex.normal, [V.ptr 0 0, V.sl TCd q, V.i .i64 m, V.i .i64 (IntKind.i64.wrap (i + (1 : Int)))], [some (Blk.box [V.sl TCd l])])))) (some (Ex.normal, [V.ptr 0 0, V.sl TCd q,
 V.i .i64 m, V.i .i64 (IntKind.i64.wrap (i + (1 : Int)))], [some (Blk.box [V.sl TCd l])])))))))) (ifB (decide (i > (0 : Int))) (ifT (decide ((0 : Int) ≤ i ∧ i.toNat <
 l.length ∧ l.length ≤ (4000000000 : Nat)) && upsOK l i.toNat && nmL l) (ifB (!partSB l i.toNat) (some (Ex.ret, [V.b false], [])) (some (Ex.normal, [V.ptr 0 0, V.sl TCd q,
 V.i .i64 m, V.i .i64 (IntKind.i64.wrap (i + (1 : Int)))], [some (Blk.box [V.sl TCd l])])))) (some (Ex.normal, [V.ptr 0 0, V.sl TCd q, V.i .i64 m, V.i .i64
 (IntKind.i64.wrap (i + (1 : Int)))], [some (Blk.box [V.sl TCd l])]))))) (ifB (i == (0 : Int)) (ifB (z.fst != (5 : Int)) (some (Ex.ret, [V.b false], [])) (ifB
 (z.snd.snd.snd.snd.fst != (-1 : Int)) (some (Ex.ret, [V.b false], [])) (ifB (!z.snd.fst == nilT UInt8) (some (Ex.ret, [V.b false], [])) (ifB (z.snd.snd.fst != (0 : Int))
 (some (Ex.ret, [V.b false], [])) (ifB z.snd.snd.snd.fst (some (Ex.ret, [V.b false], [])) (ifB (decide (i > (0 : Int))) (ifT (decide ((0 : Int) ≤ i ∧ i.toNat < l.length ∧
 l.length ≤ (4000000000 : Nat)) && upsOK l i.toNat && nmL l) (ifB (!partSB l i.toNat) (some (Ex.ret, [V.b false], [])) (some (Ex.normal, [V.ptr 0 0, V.sl TCd q, V.i .i64
 m, V.i .i64 (IntKind.i64.wrap (i + (1 : Int)))], [some (Blk.box [V.sl TCd l])])))) (some (Ex.normal, [V.ptr 0 0, V.sl TCd q, V.i .i64 m, V.i .i64 (IntKind.i64.wrap (i +
 (1 : Int)))], [some (Blk.box [V.sl TCd l])])))))))) (ifB (decide (i > (0 : Int))) (ifT (decide ((0 : Int) ≤ i ∧ i.toNat < l.length ∧ l.length ≤ (4000000000 : Nat)) &&
 upsOK l i.toNat && nmL l) (ifB (!partSB l i.toNat) (some (Ex.ret, [V.b false], [])) (some (Ex.normal, [V.ptr 0 0, V.sl TCd q, V.i .i64 m, V.i .i64 (IntKind.i64.wrap (i +
 (1 : Int)))], [some (Blk.box [V.sl TCd l])])))) (some (Ex.normal, [V.ptr 0 0, V.sl TCd q, V.i .i64 m, V.i .i64 (IntKind.i64.wrap (i + (1 : Int)))], [some (Blk.box [V.sl
 TCd l])])))))))) (some (Ex.exit 0, [V.ptr 0 0], [some (Blk.box [V.sl TCd l])]))) : _) := by kernel_rfl
theorem gs2_round (l q : List Ty) (m i : Int) : roundK Try.prog (look [(111, .rd1 withinG), (112, .rd1 l2PartG), (113, .rd1 l2KidsG), (53, .rd1 l2TreeG), (114, .rd1 sdeepG)]) (look [(4, gs1E), (12, gs2E)]) 0 (body Try.f50 1) gs2E ([.ptr 0 0, .sl TCd q, .i .i64 m, .i .i64 i], [some (.box [.sl TCd l])]) =
  ((ifB (decide (i < m)) (ifT (decide ((0 : Int) ≤ i) && decide (i < (↑q.length : Int))) (ifSome q[i.toNat]? fun z => ifB (z.fst == (4 : Int)) (ifT (decide ((0 : Int) ≤ i ∧
 i.toNat < l.length ∧ l.length ≤ (4000000000 : Nat))) (ifB ((↑(kidsAt l i.toNat).length : Int) != (1 : Int)) (some (Ex.ret, [V.b false], [])) (some (Ex.normal, [V.ptr 0 0,
 V.sl TCd q, V.i .i64 m, V.i .i64 (IntKind.i64.wrap (i + (1 : Int)))], [some (Blk.box [V.sl TCd l])])))) (some (Ex.normal, [V.ptr 0 0, V.sl TCd q, V.i .i64 m, V.i .i64
 (IntKind.i64.wrap (i + (1 : Int)))], [some (Blk.box [V.sl TCd l])])))) (some (Ex.exit 2, [V.ptr 0 0], [some (Blk.box [V.sl TCd l])]))) : _) := by kernel_rfl
theorem gs_tree (l : List Ty) : funK Try.prog (look [(111, .rd1 withinG), (112, .rd1 l2PartG), (113, .rd1 l2KidsG), (53, .rd1 l2TreeG), (114, .rd1 sdeepG)]) (look [(4, gs1E), (12, gs2E)]) Try.f50 [.agg [.sl TCd l]] [] =
  ((ifB (!decide ((1 : Int) ≤ (↑l.length : Int) ∧ (↑l.length : Int) ≤ (30 : Int))) (some (V.b false, [])) (ifT (decide ((0 : Int) ≤ (0 : Int) ∧ (0 : Nat) ≤ l.length ∧
 (↑l.length : Int) = (↑l.length : Int) ∧ eqT (List Ty) l l ∧ l.length ≤ (4000000000 : Nat)) && nmL l && upsOK l (0 : Nat)) (ifB ((List.drop (0 : Nat) (List.range
 l.length)).all (okT l)) (ifT (decide ((0 : Int) ≤ (0 : Int) ∧ (0 : Nat) ≤ l.length ∧ (↑l.length : Int) = (↑l.length : Int) ∧ eqT (List Ty) l l ∧ l.length ≤ (4000000000 :
 Nat))) (ifB ((List.drop (0 : Nat) (List.range l.length)).all (oneKid l)) (ifT (decide ((0 : Int) ≤ (0 : Int) ∧ (0 : Nat) < l.length ∧ l.length ≤ (4000000000 : Nat))) (ifT
 (decide (cntL (List.take (t2L l (0 : Nat)).kids.length (List.drop (0 : Nat) (t2L l (0 : Nat)).kids)) + (1 : Nat) ≤ (1000000 : Nat))) (some (V.b (decide ((↑(deepL
 (List.take (t2L l (0 : Nat)).kids.length (List.drop (0 : Nat) (t2L l (0 : Nat)).kids)) + bif holdsK (t2L l (0 : Nat)).lab.fst then (1 : Nat) else (0 : Nat)) : Int) ≤ (5 :
 Int))), [])))) (some (V.b false, [])))) (some (V.b false, []))))) : _) := by kernel_rfl
theorem upsOK_succ {l : List Ty} {i : Nat} (h : upsOK l i = true) {u : Int} (hu : upAt l i = some u) (hlt : u < (i : Int)) : upsOK l (i + 1) = true := by
  unfold upsOK at h ⊢
  rw [List.range_succ, List.all_append, h, Bool.true_and, List.all_cons, List.all_nil, Bool.and_true, hu]
  exact decide_eq_true hlt
theorem okT_up {l : List Ty} {i : Nat} (h : okT l i = true) : ∃ u, upAt l i = some u ∧ u < (i : Int) := by
  unfold okT at h
  rw [Bool.and_eq_true] at h
  have h := h.2
  by_cases hz : i = 0
  · subst hz
    rw [if_pos rfl] at h
    simp only [Bool.and_eq_true, decide_eq_true_eq] at h
    exact ⟨-1, h.1.1.1.2, by omega⟩
  · rw [if_neg hz] at h
    unfold partSB at h
    cases hu : upAt l i with
    | none => rw [hu] at h; cases h
    | some u =>
      rw [hu] at h
      simp only [Bool.and_eq_true, decide_eq_true_eq] at h
      exact ⟨u, rfl, h.1.1.1.2⟩
theorem gs1_step (l : List Ty) (hl : l.length ≤ 4000000000) (hn : nmL l = true) (i : Nat) (hi : i < l.length) (hs : upsOK l i = true) :
    roundK Try.prog (look [(111, .rd1 withinG), (112, .rd1 l2PartG), (113, .rd1 l2KidsG), (53, .rd1 l2TreeG), (114, .rd1 sdeepG)]) (look [(4, gs1E), (12, gs2E)]) 0 (body Try.f50 0) gs1E ([.ptr 0 0, .sl TCd l, .i .i64 (l.length : Int), .i .i64 (i : Int)], [some (.box [.sl TCd l])]) = some (bif okT l i then (.normal, ([.ptr 0 0, .sl TCd l, .i .i64 (l.length : Int), .i .i64 ((i + 1 : Nat) : Int)], [some (.box [.sl TCd l])])) else (.ret, ([.b false], []))) := by
  have hM : maxI = 9223372036854775807 := rfl
  have hr := gs1_round l l l.length i
  rw [ifB_true (decide_eq_true (by omega)), ifT_true (by simp only [Bool.and_eq_true, decide_eq_true_eq]; omega)] at hr
  simp only [Int.toNat_natCast, List.getElem?_eq_getElem hi, ifSome_s, wrap_succ (n := i) (by omega)] at hr
  refine hr.trans ?_
  clear hr
  have hc : (decide ((0 : Int) ≤ (i : Int) ∧ i < l.length ∧ l.length ≤ 4000000000) && upsOK l i && nmL l) = true := by
    rw [hs, hn, decide_eq_true (show (0 : Int) ≤ (i : Int) ∧ i < l.length ∧ l.length ≤ 4000000000 from ⟨by omega, hi, hl⟩)]; rfl
  rw [hc]
  have hkm : kmB (labAt l i) = (decide (1 ≤ l[i].1 ∧ l[i].1 ≤ 5) && (bif l[i].1 == 3 then decide (0 ≤ l[i].2.2.2.2.2.1 ∧ l[i].2.2.2.2.2.1 ≤ 20) else l[i].2.2.2.2.2.1 == 0)) := by
    rw [lab_at hi]
    unfold kmB
    dsimp only
    by_cases h3 : l[i].1 = 3
    · rw [if_pos h3, h3]; rfl
    · rw [if_neg h3, beq_false_of_ne h3]; rfl
  unfold okT
  rw [hkm]
  unfold bne
  by_cases hz : i = 0
  · subst hz
    have hu : decide (upAt l 0 = some (-1)) = (l[0].2.2.2.2.1 == -1) := by
      unfold upAt
      rw [List.getElem?_eq_getElem hi]
      by_cases h1 : l[0].2.2.2.2.1 = -1
      · rw [Option.map_some, h1]; simp
      · rw [beq_false_of_ne h1]; exact decide_eq_false (fun h => h1 (Option.some.inj h))
    rw [if_pos rfl, lab_at hi, hu]
    simp only [show (((0 : Nat) : Int) == 0) = true from rfl, show decide (((0 : Nat) : Int) > 0) = false from rfl]
    have hnil : (l[0].2.1 == ([] : List UInt8)) = (l[0].2.1 == nilT UInt8) := rfl
    rw [hnil]
    generalize decide (1 ≤ l[0].1 ∧ l[0].1 ≤ 5) = K
    generalize (l[0].1 == 3) = c3
    generalize (l[0].1 == 5) = c5
    generalize decide (0 ≤ l[0].2.2.2.2.2.1 ∧ l[0].2.2.2.2.2.1 ≤ 20) = M
    generalize (l[0].2.2.2.2.2.1 == 0) = m0
    generalize (l[0].2.2.2.2.1 == -1) = u0
    generalize (l[0].2.1 == nilT UInt8) = nm
    generalize (l[0].2.2.1 == 0) = no
    generalize l[0].2.2.2.1 = mu
    cases K <;> cases c3 <;> cases c5 <;> cases M <;> cases m0 <;> cases u0 <;> cases nm <;> cases no <;> cases mu <;> rfl
  · rw [if_neg hz]
    have h0 : ((i : Int) == 0) = false := beq_false_of_ne (by omega)
    have h1 : decide ((i : Int) > 0) = true := decide_eq_true (by omega)
    rw [h0, h1]
    generalize decide (1 ≤ l[i].1 ∧ l[i].1 ≤ 5) = K
    generalize (l[i].1 == 3) = c3
    generalize decide (0 ≤ l[i].2.2.2.2.2.1 ∧ l[i].2.2.2.2.2.1 ≤ 20) = M
    generalize (l[i].2.2.2.2.2.1 == 0) = m0
    generalize partSB l i = p
    cases K <;> cases c3 <;> cases M <;> cases m0 <;> cases p <;> rfl
theorem range_drop {n i : Nat} (h : i < n) : (List.range n).drop i = i :: (List.range n).drop (i + 1) := by
  rw [List.drop_eq_getElem_cons (by simpa using h)]; simp
theorem gs1_loop (l : List Ty) (hl : l.length ≤ 4000000000) (hn : nmL l = true) : ∀ (j i : Nat), i + j = l.length → upsOK l i = true → ∀ ex d, (Br.br (((List.range l.length).drop i).all (okT l)) (.leaf (.exit 0, ([.ptr 0 0], [some (.box [.sl TCd l])]))) (.leaf (.ret, ([.b false], []))) : Br (Ex × Dt)).run = some (ex, d) →
    Runs Try.prog (look [(111, .rd1 withinG), (112, .rd1 l2PartG), (113, .rd1 l2KidsG), (53, .rd1 l2TreeG), (114, .rd1 sdeepG)]) (look [(4, gs1E), (12, gs2E)]) 0 (body Try.f50 0) gs1E ([.ptr 0 0, .sl TCd l, .i .i64 (l.length : Int), .i .i64 (i : Int)], [some (.box [.sl TCd l])]) ex d
  | 0, i, hi, hs, ex, d, h => by
    have hr := gs1_round l l l.length i
    rw [ifB_false (decide_eq_false (by omega))] at hr
    have e1 : (List.range l.length).drop i = [] := List.drop_eq_nil_of_le (by simp; omega)
    rw [e1] at h
    have h8 := leaf_some h
    obtain ⟨rfl, rfl⟩ := Prod.mk.inj h8
    exact .stop _ _ _ hr (by simp)
  | j + 1, i, hi, hs, ex, d, h => by
    have hr := gs1_step l hl hn i (by omega) hs
    rw [range_drop (by omega), List.all_cons] at h
    cases hk : okT l i with
    | true =>
      rw [hk, cond_true] at hr
      rw [hk, Bool.true_and] at h
      obtain ⟨u, hu, hlt⟩ := okT_up hk
      exact .step _ _ _ _ hr (gs1_loop l hl hn j (i + 1) (by omega) (upsOK_succ hs hu hlt) ex d h)
    | false =>
      rw [hk, cond_false] at hr
      rw [hk, Bool.false_and] at h
      have h8 := leaf_some h
      obtain ⟨rfl, rfl⟩ := Prod.mk.inj h8
      exact .stop _ _ _ hr (by simp)
theorem gs1_ok : ∀ d e d', (gs1E.L d).run = some (e, d') → Runs Try.prog (look [(111, .rd1 withinG), (112, .rd1 l2PartG), (113, .rd1 l2KidsG), (53, .rd1 l2TreeG), (114, .rd1 sdeepG)]) (look [(4, gs1E), (12, gs2E)]) 0 (body Try.f50 0) gs1E d e d' := fun d ex d' h => by
  unfold gs1E at h
  dsimp only at h
  split at h
  · rename_i q m i l
    obtain ⟨hc, hx⟩ := need_some h
    clear h
    rw [Bool.and_eq_true, Bool.and_eq_true] at hc
    obtain ⟨⟨hc, hn⟩, hs⟩ := hc
    obtain ⟨h0, h1, rfl, h3, h4⟩ := of_decide_eq_true hc
    have h3 : q = l := h3
    subst h3
    obtain ⟨i, rfl⟩ := Int.eq_ofNat_of_zero_le h0
    simp only [Int.toNat_natCast] at h1 hs hx
    exact gs1_loop _ h4 hn _ i (Nat.add_sub_of_le h1) hs ex d' hx
  · cases h
theorem gs2_ok : ∀ d e d', (gs2E.L d).run = some (e, d') → Runs Try.prog (look [(111, .rd1 withinG), (112, .rd1 l2PartG), (113, .rd1 l2KidsG), (53, .rd1 l2TreeG), (114, .rd1 sdeepG)]) (look [(4, gs1E), (12, gs2E)]) 0 (body Try.f50 1) gs2E d e d' := fun d ex d' h => by
  unfold gs2E at h
  dsimp only at h
  split at h
  · rename_i q m i l
    obtain ⟨hc, hx⟩ := need_some h
    clear h
    obtain ⟨h0, h1, rfl, h3, h4⟩ := of_decide_eq_true hc
    have h3 : q = l := h3
    subst h3
    obtain ⟨i, rfl⟩ := Int.eq_ofNat_of_zero_le h0
    simp only [Int.toNat_natCast] at h1 hx
    have hM : maxI = 9223372036854775807 := rfl
    refine runs_all (l := List.range q.length) (oneKid q) (fun i => ([.ptr 0 0, .sl TCd q, .i .i64 (q.length : Int), .i .i64 (i : Int)], [some (.box [.sl TCd q])])) (ex := (.exit 2, ([.ptr 0 0], [some (.box [.sl TCd q])]))) (rt := (.ret, ([.b false], []))) (by simp) (by simp) (fun n hn => ?_) ?_ (q.length - i) i (by simp; omega) ex d' hx
    · have hn : n < q.length := by simpa using hn
      have hr := gs2_round q q q.length n
      rw [ifB_true (decide_eq_true (by omega)), ifT_true (by simp only [Bool.and_eq_true, decide_eq_true_eq]; omega)] at hr
      simp only [Int.toNat_natCast, List.getElem?_eq_getElem hn, ifSome_s, wrap_succ (n := n) (by omega)] at hr
      refine hr.trans ?_
      rw [ifT_true (decide_eq_true ⟨by omega, hn, h4⟩), List.getElem_range]
      have e1 : (((kidsAt q n).length : Int) != 1) = ((kidsAt q n).length != 1) := by
        by_cases h : (kidsAt q n).length = 1
        · rw [h]; rfl
        · have h2 : ((kidsAt q n).length : Int) ≠ 1 := by omega
          unfold bne
          rw [beq_false_of_ne h, beq_false_of_ne h2]
      rw [e1]
      unfold oneKid
      rw [lab_at hn]
      dsimp only
      cases q[n].1 == 4 <;> cases (kidsAt q n).length != 1 <;> rfl
    · have hr := gs2_round q q q.length q.length
      rw [ifB_false (decide_eq_false (by omega))] at hr
      simp only [List.length_range]
      exact hr
  · cases h
theorem gs_ok : LoopsOk Try.prog (look [(111, .rd1 withinG), (112, .rd1 l2PartG), (113, .rd1 l2KidsG), (53, .rd1 l2TreeG), (114, .rd1 sdeepG)]) (look [(4, gs1E), (12, gs2E)]) 0 (Try.f50.body.getD .skip) :=
  LoopsI.loops (.cons (a := body Try.f50 0) (by kernel_rfl) gs1_ok (.cons (a := body Try.f50 1) (by kernel_rfl) gs2_ok .nil)) (by kernel_rfl)
theorem gs_fun (l : List Ty) (h1 : l.length ≤ 4000000000) (hn : nmL l = true) : funK Try.prog (look [(111, .rd1 withinG), (112, .rd1 l2PartG), (113, .rd1 l2KidsG), (53, .rd1 l2TreeG), (114, .rd1 sdeepG)]) (look [(4, gs1E), (12, gs2E)]) Try.f50 [.agg [.sl TCd l]] [] = some (.b (kindB l), []) := by
  rw [gs_tree, ← (gsch_eq l).1]
  have hq := gsch_eq l
  have hu0 : upsOK l 0 = true := rfl
  have d0 : decide ((0 : Int) ≤ 0 ∧ 0 ≤ l.length ∧ (l.length : Int) = (l.length : Int) ∧ eqT (List Ty) l l ∧ l.length ≤ 4000000000) = true := decide_eq_true ⟨by omega, by omega, rfl, rfl, h1⟩
  rw [d0, hn, hu0, List.drop_zero, List.drop_zero, List.take_length]
  have hle : decide (1 ≤ (l.length : Int) ∧ (l.length : Int) ≤ 30) = decide (1 ≤ l.length ∧ l.length ≤ 30) := decide_eq_decide.2 (by omega)
  rw [hle]
  have hdp : deepL (t2L l 0).kids + (bif holdsK (t2L l 0).lab.1 then 1 else 0) = deepR (t2L l 0) := rose_deep _
  have hd5 : decide ((deepR (t2L l 0) : Int) ≤ 5) = decide (deepR (t2L l 0) ≤ 5) := decide_eq_decide.2 (by omega)
  rw [hdp, hd5]
  unfold gschS
  cases a1 : decide (1 ≤ l.length ∧ l.length ≤ 30) with
  | false => rfl
  | true =>
    have a1 := of_decide_eq_true a1
    cases a2 : (List.range l.length).all (okT l) with
    | false => rfl
    | true =>
      have H := ord_of_S (by omega) a2
      have he := H.end' (by omega)
      have hc := kf_cnt (l := l) (a := 0) (by omega)
      have hk := cnt_kids (t2L l 0)
      rw [he.1, he.2] at hc
      have d1 : decide ((0 : Int) ≤ 0 ∧ 0 < l.length ∧ l.length ≤ 4000000000) = true := decide_eq_true ⟨by omega, by omega, h1⟩
      have d2 : decide (cntL (t2L l 0).kids + 1 ≤ 1000000) = true := decide_eq_true (by omega)
      rw [d1, d2]
      cases (List.range l.length).all (oneKid l) <;> rfl
theorem sgsch : Contract Try.prog 50 (Ent.rd1 gschG).F := by
  refine fun_contract' (KnowsL.cons (enters_fn Try.func111 (by kernel_rfl) (by kernel_rfl)) l1In (KnowsL.cons (enters_fn Try.func112 (by kernel_rfl) (by kernel_rfl)) l2Part (KnowsL.cons (enters_fn Try.func113 (by kernel_rfl) (by kernel_rfl)) l2Kids (KnowsL.cons (enters_fn Try.func53 (by kernel_rfl) (by kernel_rfl)) l2Tree (KnowsL.cons (enters_fn Try.func114 (by kernel_rfl) (by kernel_rfl)) sdeep KnowsL.nil))))).knows (Λ := (look [(4, gs1E), (12, gs2E)])) Try.func50 (c := Try.f50.body.getD .skip) (by kernel_rfl) fun vs bs r hq hv hb => ?_
  unfold Ent.F gschG at hq
  dsimp only at hq
  split at hq
  · rename_i l
    obtain ⟨hc, hx⟩ := need_some hq
    rw [Bool.and_eq_true] at hc
    exact ⟨gs_ok, (gs_fun l (of_decide_eq_true hc.1) hc.2).trans hx⟩
  · cases hq
/-- A cursor over drawn bytes. -/
structure Cur where
  l : List Int
  a : Int
  s : Int
def Cur.byte (c : Cur) : Int := if c.a < c.l.length then IntKind.i64.wrap (c.l.getD c.a.toNat 0) else 0
def Cur.seed (c : Cur) : Int := IntKind.u64.wrap (IntKind.u64.wrap (IntKind.u64.wrap (c.s * 6364136223846793005) + IntKind.u64.wrap c.byte) + 1442695040888963407)
/-- The number drawn. -/
def Cur.val (c : Cur) : Int := if c.a + 1 ≤ c.l.length then c.byte else IntKind.i64.wrap (IntKind.u64.wrap (((BitVec.ofInt IntKind.u64.bits (c.seed.fdiv ((2 : Int) ^ min 40 IntKind.u64.bits)) &&& BitVec.ofInt IntKind.u64.bits 255).toNat : Nat) : Int))
def Cur.adv (c : Cur) : Cur := ⟨c.l, c.a + 1, c.seed⟩
def Cur.good (c : Cur) (n : Int) : Prop := (∀ z ∈ c.l, 0 ≤ z ∧ z ≤ 255) ∧ 0 ≤ c.a ∧ c.a ≤ n
instance (c : Cur) (n : Int) : Decidable (c.good n) := by unfold Cur.good; exact inferInstance
def Cur.pickV (c : Cur) (n : Int) : Int := if n ≤ 1 then 0 else if n > 200 then (c.val * 256 + c.adv.val).tmod n else c.val.tmod n
def Cur.pickC (c : Cur) (n : Int) : Cur := if n ≤ 1 then c else if n > 200 then c.adv.adv else c.adv
def cnextG : List V → List Blk → Br (V × List (Option Blk))
  | [.ptr 0 0], [.box [.sl (.int .u8) l, .i .i64 a, .i .u64 s]] => .need (decide ((Cur.mk l a s).good 1000000000)) (.leaf (.i .i64 (Cur.mk l a s).val, [some (.box [.sl (.int .u8) (Cur.mk l a s).adv.l, .i .i64 (Cur.mk l a s).adv.a, .i .u64 (Cur.mk l a s).adv.s])]))
  | _, _ => .no
theorem Cur.byte_range {c : Cur} {n : Int} (h : c.good n) : 0 ≤ c.byte ∧ c.byte ≤ 255 := by
  unfold Cur.byte
  split
  · rename_i ha
    have h0 := h.2.1
    have hi : c.a.toNat < c.l.length := by omega
    have hz := h.1 _ (List.getElem_mem hi)
    have eg : c.l.getD c.a.toNat 0 = c.l[c.a.toNat] := by simp [hi]
    rw [eg, wrap_id (by omega) (by omega)]
    exact hz
  · omega
theorem Cur.val_range {c : Cur} {n : Int} (h : c.good n) : 0 ≤ c.val ∧ c.val ≤ 255 := by
  unfold Cur.val
  split
  · exact Cur.byte_range h
  · generalize BitVec.ofInt IntKind.u64.bits (c.seed.fdiv ((2 : Int) ^ min 40 IntKind.u64.bits)) = x
    have hx : (x &&& BitVec.ofInt IntKind.u64.bits 255).toNat ≤ 255 := by
      rw [BitVec.toNat_and]
      exact Nat.le_trans Nat.and_le_right (by decide)
    generalize (x &&& BitVec.ofInt IntKind.u64.bits 255).toNat = m at hx
    have e1 : IntKind.u64.wrap (m : Int) = (m : Int) := by
      unfold IntKind.wrap
      simp [IntKind.bits, IntKind.signed]
      omega
    rw [e1, wrap_id (by omega) (by omega)]
    omega
theorem Cur.adv_good {c : Cur} {n : Int} (h : c.good n) : c.adv.good (n + 1) := ⟨h.1, by show 0 ≤ c.a + 1; have := h.2.1; omega, by show c.a + 1 ≤ n + 1; have := h.2.2; omega⟩
theorem Cur.good_mono {c : Cur} {n m : Int} (h : c.good n) (hm : n ≤ m) : c.good m := ⟨h.1, h.2.1, by have := h.2.2; omega⟩
theorem Cur.pickC_good {c : Cur} {n k : Int} (h : c.good n) : (c.pickC k).good (n + 2) := by
  unfold Cur.pickC
  split
  · exact Cur.good_mono h (by omega)
  · split
    · have := Cur.adv_good (Cur.adv_good h)
      exact Cur.good_mono this (by omega)
    · exact Cur.good_mono (Cur.adv_good h) (by omega)
theorem Cur.pickV_range {c : Cur} {n k : Int} (h : c.good n) (hk : 1 ≤ k) : 0 ≤ c.pickV k ∧ c.pickV k < k := by
  have h1 := Cur.val_range h
  have h2 := Cur.val_range (Cur.adv_good h)
  unfold Cur.pickV
  split
  · omega
  · split
    · rw [Int.tmod_eq_emod_of_nonneg (by omega)]
      exact ⟨Int.emod_nonneg _ (by omega), Int.emod_lt_of_pos _ (by omega)⟩
    · rw [Int.tmod_eq_emod_of_nonneg (by omega)]
      exact ⟨Int.emod_nonneg _ (by omega), Int.emod_lt_of_pos _ (by omega)⟩
theorem cnext_fun (l : List Int) (a s : Int) (hc : (Cur.mk l a s).good 1000000000) : funK Try.prog (look []) (look []) Try.f119 [.ptr 0 0] [.box [.sl (.int .u8) l, .i .i64 a, .i .u64 s]] = (.leaf (.i .i64 (Cur.mk l a s).val, [some (.box [.sl (.int .u8) (Cur.mk l a s).adv.l, .i .i64 (Cur.mk l a s).adv.a, .i .u64 (Cur.mk l a s).adv.s])]) : Br (V × List (Option Blk))).run := by
  have e : funK Try.prog (look []) (look []) Try.f119 [.ptr 0 0] [.box [.sl (.int .u8) l, .i .i64 a, .i .u64 s]] =
    ((ifB (decide (a < (↑l.length : Int))) (ifT (decide ((0 : Int) ≤ a) && decide (a < (↑l.length : Int))) (ifSome l[a.toNat]? fun z => ifB (decide (IntKind.i64.wrap (a + (1 :
 Int)) ≤ (↑l.length : Int))) (some (V.i .i64 (IntKind.i64.wrap z), [some (Blk.box [V.sl (Cd.int .u8) l, V.i .i64 (IntKind.i64.wrap (a + (1 : Int))), V.i .u64
 (IntKind.u64.wrap (IntKind.u64.wrap (IntKind.u64.wrap (s * (6364136223846793005 : Int)) + IntKind.u64.wrap (IntKind.i64.wrap z)) + (1442695040888963407 : Int)))])]))
 (some (V.i .i64 (IntKind.i64.wrap (IntKind.u64.wrap (↑(BitVec.ofInt IntKind.u64.bits ((IntKind.u64.wrap (IntKind.u64.wrap (IntKind.u64.wrap (s * (6364136223846793005 :
 Int)) + IntKind.u64.wrap (IntKind.i64.wrap z)) + (1442695040888963407 : Int))).fdiv ((2 : Int) ^ min (40 : Nat) IntKind.u64.bits)) &&& BitVec.ofInt IntKind.u64.bits (255
 : Int)).toNat : Int))), [some (Blk.box [V.sl (Cd.int .u8) l, V.i .i64 (IntKind.i64.wrap (a + (1 : Int))), V.i .u64 (IntKind.u64.wrap (IntKind.u64.wrap (IntKind.u64.wrap
 (s * (6364136223846793005 : Int)) + IntKind.u64.wrap (IntKind.i64.wrap z)) + (1442695040888963407 : Int)))])])))) (ifB (decide (IntKind.i64.wrap (a + (1 : Int)) ≤
 (↑l.length : Int))) (some (V.i .i64 0, [some (Blk.box [V.sl (Cd.int .u8) l, V.i .i64 (IntKind.i64.wrap (a + (1 : Int))), V.i .u64 (IntKind.u64.wrap (IntKind.u64.wrap
 (IntKind.u64.wrap (s * (6364136223846793005 : Int)) + IntKind.u64.wrap (0 : Int)) + (1442695040888963407 : Int)))])])) (some (V.i .i64 (IntKind.i64.wrap (IntKind.u64.wrap
 (↑(BitVec.ofInt IntKind.u64.bits ((IntKind.u64.wrap (IntKind.u64.wrap (IntKind.u64.wrap (s * (6364136223846793005 : Int)) + IntKind.u64.wrap (0 : Int)) +
 (1442695040888963407 : Int))).fdiv ((2 : Int) ^ min (40 : Nat) IntKind.u64.bits)) &&& BitVec.ofInt IntKind.u64.bits (255 : Int)).toNat : Int))), [some (Blk.box [V.sl
 (Cd.int .u8) l, V.i .i64 (IntKind.i64.wrap (a + (1 : Int))), V.i .u64 (IntKind.u64.wrap (IntKind.u64.wrap (IntKind.u64.wrap (s * (6364136223846793005 : Int)) +
 IntKind.u64.wrap (0 : Int)) + (1442695040888963407 : Int)))])])))) : _) := by kernel_rfl
  rw [e]
  clear e
  have h0 := hc.2.1
  have h1 := hc.2.2
  dsimp only at h0 h1
  rw [wrap_id (n := a + 1) (by omega) (by omega)]
  by_cases q : a < (l.length : Int)
  · have hi : a.toNat < l.length := by omega
    have eb : (Cur.mk l a s).byte = IntKind.i64.wrap l[a.toNat] := by unfold Cur.byte; dsimp only; rw [if_pos q]; simp [hi]
    have q1 : a + 1 ≤ (l.length : Int) := by omega
    rw [ifB_true (decide_eq_true q), ifT_true (by simp only [Bool.and_eq_true, decide_eq_true_eq]; omega), List.getElem?_eq_getElem hi, ifSome_s, ifB_true (decide_eq_true q1), ← eb]
    have ev : (Cur.mk l a s).val = (Cur.mk l a s).byte := by unfold Cur.val; dsimp only; rw [if_pos q1]
    rw [ev]
    rfl
  · have eb : (Cur.mk l a s).byte = 0 := by unfold Cur.byte; dsimp only; rw [if_neg q]
    have q1 : ¬ a + 1 ≤ (l.length : Int) := by omega
    rw [ifB_false (decide_eq_false q), ifB_false (decide_eq_false q1), ← eb]
    have ev : (Cur.mk l a s).val = IntKind.i64.wrap (IntKind.u64.wrap (((BitVec.ofInt IntKind.u64.bits ((Cur.mk l a s).seed.fdiv ((2 : Int) ^ min 40 IntKind.u64.bits)) &&& BitVec.ofInt IntKind.u64.bits 255).toNat : Nat) : Int)) := by unfold Cur.val; dsimp only; rw [if_neg q1]
    rw [ev]
    rfl
theorem cnext : Contract Try.prog 119 (Ent.own cnextG).F := by
  refine fun_contract' KnowsL.nil.knows (Λ := look []) Try.func119 (c := Try.f119.body.getD .skip) (by kernel_rfl) fun vs bs r h hv hb => ?_
  unfold Ent.F cnextG at h
  dsimp only at h
  split at h
  · rename_i l a s
    obtain ⟨hc, h⟩ := need_some h
    exact ⟨loopsOk_nil _, (cnext_fun l a s (of_decide_eq_true hc)).trans h⟩
  · cases h
def cpickG : List V → List Blk → Br (V × List (Option Blk))
  | [.ptr 0 0, .i .i64 n], [.box [.sl (.int .u8) l, .i .i64 a, .i .u64 s]] => .need (decide ((Cur.mk l a s).good 900000000)) (.leaf (.i .i64 ((Cur.mk l a s).pickV n), [some (.box [.sl (.int .u8) ((Cur.mk l a s).pickC n).l, .i .i64 ((Cur.mk l a s).pickC n).a, .i .u64 ((Cur.mk l a s).pickC n).s])]))
  | _, _ => .no
def coneG : List V → List Blk → Br (V × List (Option Blk))
  | [.ptr 0 0, .i .i64 n], [.box [.sl (.int .u8) l, .i .i64 a, .i .u64 s]] => .need (decide ((Cur.mk l a s).good 900000000)) (.leaf (.b ((Cur.mk l a s).pickV n == 0), [some (.box [.sl (.int .u8) ((Cur.mk l a s).pickC n).l, .i .i64 ((Cur.mk l a s).pickC n).a, .i .u64 ((Cur.mk l a s).pickC n).s])]))
  | _, _ => .no
def camongG : List V → List Blk → Br (V × List (Option Blk))
  | [.ptr 0 0, .ref 1 p m], [.box [.sl (.int .u8) l, .i .i64 a, .i .u64 s], .row false nl (.int .i64) r] => .need (decide ((Cur.mk l a s).good 900000000 ∧ 1 ≤ m ∧ p + m ≤ r.length)) (.leaf (.i .i64 (r.getD (p + ((Cur.mk l a s).pickV m).toNat) 0), [some (.box [.sl (.int .u8) ((Cur.mk l a s).pickC m).l, .i .i64 ((Cur.mk l a s).pickC m).a, .i .u64 ((Cur.mk l a s).pickC m).s]), some (.row false nl (.int .i64) r)]))
  | _, _ => .no
def cofG : List V → List Blk → Br (V × List (Option Blk))
  | [.ptr 0 0, .ref 1 p m], [.box [.sl (.int .u8) l, .i .i64 a, .i .u64 s], .row false nl .str r] => .need (decide ((Cur.mk l a s).good 900000000 ∧ 1 ≤ m ∧ p + m ≤ r.length)) (.leaf (.s (r.getD (p + ((Cur.mk l a s).pickV m).toNat) []), [some (.box [.sl (.int .u8) ((Cur.mk l a s).pickC m).l, .i .i64 ((Cur.mk l a s).pickC m).a, .i .u64 ((Cur.mk l a s).pickC m).s]), some (.row false nl .str r)]))
  | _, _ => .no
theorem cpick_fun (n : Int) (l : List Int) (a s : Int) (hc : (Cur.mk l a s).good 900000000) : funK Try.prog (look [(119, .own cnextG)]) (look []) Try.f56 [.ptr 0 0, .i .i64 n] [.box [.sl (.int .u8) l, .i .i64 a, .i .u64 s]] = (.leaf (.i .i64 ((Cur.mk l a s).pickV n), [some (.box [.sl (.int .u8) ((Cur.mk l a s).pickC n).l, .i .i64 ((Cur.mk l a s).pickC n).a, .i .u64 ((Cur.mk l a s).pickC n).s])]) : Br (V × List (Option Blk))).run := by
  have e : funK Try.prog (look [(119, .own cnextG)]) (look []) Try.f56 [.ptr 0 0, .i .i64 n] [.box [.sl (.int .u8) l, .i .i64 a, .i .u64 s]] =
    ((ifB (decide (n ≤ (1 : Int))) (some (V.i .i64 0, [some (Blk.box [V.sl (Cd.int .u8) l, V.i .i64 a, V.i .u64 s])])) (ifT (decide ((Cur.mk l a s).good (1000000000 : Int)))
 (ifB (decide (n > (200 : Int))) (ifT (decide ((Cur.mk l a s).adv.good (1000000000 : Int))) (ifT (!decide (n = (0 : Int))) (some (V.i .i64 ((IntKind.i64.wrap
 (IntKind.i64.wrap ((Cur.mk l a s).val * (256 : Int)) + (Cur.mk l a s).adv.val)).tmod n), [some (Blk.box [V.sl (Cd.int .u8) (Cur.mk l a s).adv.adv.l, V.i .i64 (Cur.mk l a
 s).adv.adv.a, V.i .u64 (Cur.mk l a s).adv.adv.s])])))) (ifT (!decide (n = (0 : Int))) (some (V.i .i64 ((Cur.mk l a s).val.tmod n), [some (Blk.box [V.sl (Cd.int .u8)
 (Cur.mk l a s).adv.l, V.i .i64 (Cur.mk l a s).adv.a, V.i .u64 (Cur.mk l a s).adv.s])])))))) : _) := by kernel_rfl
  rw [e]
  clear e
  have g0 : (Cur.mk l a s).good 1000000000 := Cur.good_mono hc (by omega)
  have g1 : (Cur.mk l a s).adv.good 1000000000 := Cur.good_mono (Cur.adv_good hc) (by omega)
  have r0 := Cur.val_range g0
  have r1 := Cur.val_range g1
  unfold Cur.pickV Cur.pickC
  try rw [show Cur.mk (Cur.mk l a s).adv.l (Cur.mk l a s).adv.a (Cur.mk l a s).adv.s = (Cur.mk l a s).adv from rfl]
  by_cases q : n ≤ 1
  · rw [ifB_true (decide_eq_true q), if_pos q, if_pos q]; rfl
  · rw [ifB_false (decide_eq_false q), ifT_true (decide_eq_true g0), if_neg q, if_neg q]
    by_cases q2 : n > 200
    · rw [ifB_true (decide_eq_true q2), ifT_true (decide_eq_true g1), ifT_true (by simp; omega), if_pos q2, if_pos q2, wrap_id (n := (Cur.mk l a s).val * 256) (by omega) (by omega), wrap_id (by omega) (by omega)]; rfl
    · rw [ifB_false (decide_eq_false q2), ifT_true (by simp; omega), if_neg q2, if_neg q2]; rfl
theorem cpick : Contract Try.prog 56 (Ent.own cpickG).F := by
  refine fun_contract' (KnowsL.cons (enters_fn Try.func119 (by kernel_rfl) (by kernel_rfl)) cnext KnowsL.nil).knows (Λ := look []) Try.func56 (c := Try.f56.body.getD .skip) (by kernel_rfl) fun vs bs r h hv hb => ?_
  unfold Ent.F cpickG at h
  dsimp only at h
  split at h
  · rename_i n l a s
    obtain ⟨hc, h⟩ := need_some h
    exact ⟨loopsOk_nil _, (cpick_fun n l a s (of_decide_eq_true hc)).trans h⟩
  · cases h
theorem cone_fun (n : Int) (l : List Int) (a s : Int) (hc : (Cur.mk l a s).good 900000000) : funK Try.prog (look [(56, .own cpickG)]) (look []) Try.f85 [.ptr 0 0, .i .i64 n] [.box [.sl (.int .u8) l, .i .i64 a, .i .u64 s]] = (.leaf (.b ((Cur.mk l a s).pickV n == 0), [some (.box [.sl (.int .u8) ((Cur.mk l a s).pickC n).l, .i .i64 ((Cur.mk l a s).pickC n).a, .i .u64 ((Cur.mk l a s).pickC n).s])]) : Br (V × List (Option Blk))).run := by
  have e : funK Try.prog (look [(56, .own cpickG)]) (look []) Try.f85 [.ptr 0 0, .i .i64 n] [.box [.sl (.int .u8) l, .i .i64 a, .i .u64 s]] =
    ((ifT (decide ((Cur.mk l a s).good (900000000 : Int))) (some (V.b ((Cur.mk l a s).pickV n == (0 : Int)), [some (Blk.box [V.sl (Cd.int .u8) ((Cur.mk l a s).pickC n).l, V.i
 .i64 ((Cur.mk l a s).pickC n).a, V.i .u64 ((Cur.mk l a s).pickC n).s])]))) : _) := by kernel_rfl
  rw [e, ifT_true (decide_eq_true hc)]
  rfl
theorem cone : Contract Try.prog 85 (Ent.own coneG).F := by
  refine fun_contract' (KnowsL.cons (enters_fn Try.func56 (by kernel_rfl) (by kernel_rfl)) cpick KnowsL.nil).knows (Λ := look []) Try.func85 (c := Try.f85.body.getD .skip) (by kernel_rfl) fun vs bs r h hv hb => ?_
  unfold Ent.F coneG at h
  dsimp only at h
  split at h
  · rename_i n l a s
    obtain ⟨hc, h⟩ := need_some h
    exact ⟨loopsOk_nil _, (cone_fun n l a s (of_decide_eq_true hc)).trans h⟩
  · cases h
theorem camong_fun (p m : Nat) (l : List Int) (a s : Int) (nl : Option Bool) (r : List Int) (hc : (Cur.mk l a s).good 900000000 ∧ 1 ≤ m ∧ p + m ≤ r.length) : funK Try.prog (look [(56, .own cpickG)]) (look []) Try.f133 [.ptr 0 0, .ref 1 p m] [.box [.sl (.int .u8) l, .i .i64 a, .i .u64 s], .row false nl (.int .i64) r] = (.leaf (.i .i64 (r.getD (p + ((Cur.mk l a s).pickV m).toNat) 0), [some (.box [.sl (.int .u8) ((Cur.mk l a s).pickC m).l, .i .i64 ((Cur.mk l a s).pickC m).a, .i .u64 ((Cur.mk l a s).pickC m).s]), some (.row false nl (.int .i64) r)]) : Br (V × List (Option Blk))).run := by
  have e : funK Try.prog (look [(56, .own cpickG)]) (look []) Try.f133 [.ptr 0 0, .ref 1 p m] [.box [.sl (.int .u8) l, .i .i64 a, .i .u64 s], .row false nl (.int .i64) r] =
    ((ifT (decide ((Cur.mk l a s).good (900000000 : Int))) (ifT (decide ((0 : Int) ≤ (Cur.mk l a s).pickV (↑m : Int)) && decide ((Cur.mk l a s).pickV (↑m : Int) < (↑m : Int)))
 (ifSome r[p + ((Cur.mk l a s).pickV (↑m : Int)).toNat]? fun z => some (V.i .i64 z, [some (Blk.box [V.sl (Cd.int .u8) ((Cur.mk l a s).pickC (↑m : Int)).l, V.i .i64
 ((Cur.mk l a s).pickC (↑m : Int)).a, V.i .u64 ((Cur.mk l a s).pickC (↑m : Int)).s]), some (Blk.row false nl (Cd.int .i64) r)])))) : _) := by kernel_rfl
  obtain ⟨h1, h2, h3⟩ := hc
  have hr := Cur.pickV_range (k := (m : Int)) h1 (by omega)
  have hi : p + ((Cur.mk l a s).pickV m).toNat < r.length := by omega
  have eg : r.getD (p + ((Cur.mk l a s).pickV m).toNat) 0 = r[p + ((Cur.mk l a s).pickV m).toNat] := by simp [hi]
  rw [e, ifT_true (decide_eq_true h1), ifT_true (by simp only [Bool.and_eq_true, decide_eq_true_eq]; omega), List.getElem?_eq_getElem hi, ifSome_s, eg]
  rfl
theorem camong : Contract Try.prog 133 (Ent.own camongG).F := by
  refine fun_contract' (KnowsL.cons (enters_fn Try.func56 (by kernel_rfl) (by kernel_rfl)) cpick KnowsL.nil).knows (Λ := look []) Try.func133 (c := Try.f133.body.getD .skip) (by kernel_rfl) fun vs bs r h hv hb => ?_
  unfold Ent.F camongG at h
  dsimp only at h
  split at h
  · rename_i p m l a s nl r
    obtain ⟨hc, h⟩ := need_some h
    exact ⟨loopsOk_nil _, (camong_fun p m l a s nl r (of_decide_eq_true hc)).trans h⟩
  · cases h
theorem cof_fun (p m : Nat) (l : List Int) (a s : Int) (nl : Option Bool) (r : List (List UInt8)) (hc : (Cur.mk l a s).good 900000000 ∧ 1 ≤ m ∧ p + m ≤ r.length) : funK Try.prog (look [(56, .own cpickG)]) (look []) Try.f137 [.ptr 0 0, .ref 1 p m] [.box [.sl (.int .u8) l, .i .i64 a, .i .u64 s], .row false nl .str r] = (.leaf (.s (r.getD (p + ((Cur.mk l a s).pickV m).toNat) []), [some (.box [.sl (.int .u8) ((Cur.mk l a s).pickC m).l, .i .i64 ((Cur.mk l a s).pickC m).a, .i .u64 ((Cur.mk l a s).pickC m).s]), some (.row false nl .str r)]) : Br (V × List (Option Blk))).run := by
  have e : funK Try.prog (look [(56, .own cpickG)]) (look []) Try.f137 [.ptr 0 0, .ref 1 p m] [.box [.sl (.int .u8) l, .i .i64 a, .i .u64 s], .row false nl .str r] =
    ((ifT (decide ((Cur.mk l a s).good (900000000 : Int))) (ifT (decide ((0 : Int) ≤ (Cur.mk l a s).pickV (↑m : Int)) && decide ((Cur.mk l a s).pickV (↑m : Int) < (↑m : Int)))
 (ifSome r[p + ((Cur.mk l a s).pickV (↑m : Int)).toNat]? fun z => some (V.s z, [some (Blk.box [V.sl (Cd.int .u8) ((Cur.mk l a s).pickC (↑m : Int)).l, V.i .i64 ((Cur.mk l a
 s).pickC (↑m : Int)).a, V.i .u64 ((Cur.mk l a s).pickC (↑m : Int)).s]), some (Blk.row false nl Cd.str r)])))) : _) := by kernel_rfl
  obtain ⟨h1, h2, h3⟩ := hc
  have hr := Cur.pickV_range (k := (m : Int)) h1 (by omega)
  have hi : p + ((Cur.mk l a s).pickV m).toNat < r.length := by omega
  have eg : r.getD (p + ((Cur.mk l a s).pickV m).toNat) [] = r[p + ((Cur.mk l a s).pickV m).toNat] := by simp [hi]
  rw [e, ifT_true (decide_eq_true h1), ifT_true (by simp only [Bool.and_eq_true, decide_eq_true_eq]; omega), List.getElem?_eq_getElem hi, ifSome_s, eg]
  rfl
theorem cof : Contract Try.prog 137 (Ent.own cofG).F := by
  refine fun_contract' (KnowsL.cons (enters_fn Try.func56 (by kernel_rfl) (by kernel_rfl)) cpick KnowsL.nil).knows (Λ := look []) Try.func137 (c := Try.f137.body.getD .skip) (by kernel_rfl) fun vs bs r h hv hb => ?_
  unfold Ent.F cofG at h
  dsimp only at h
  split at h
  · rename_i p m l a s nl r
    obtain ⟨hc, h⟩ := need_some h
    exact ⟨loopsOk_nil _, (cof_fun p m l a s nl r (of_decide_eq_true hc)).trans h⟩
  · cases h
/-- A part of a tree that stands in it more than once. -/
def shr {α β : Type} (a : α) (k : α → β) : β := k a
/-- An answer of a shape. -/
def Ex1 {β Y : Type} (t : Option β) (sh : Y → β) (Q : Y → Prop) : Prop := ∃ y, t = some (sh y) ∧ Q y
/-- A cursor's box. -/
def cB (c : Cur) : Blk := .box [.sl (.int .u8) c.l, .i .i64 c.a, .i .u64 c.s]
theorem cB_fold (c : Cur) : Blk.box [V.sl (Cd.int IntKind.u8) c.l, V.i IntKind.i64 c.a, V.i IntKind.u64 c.s] = cB c := rfl
theorem cB_0 (l : List Int) (a s : Int) : Blk.box [V.sl (Cd.int IntKind.u8) l, V.i IntKind.i64 a, V.i IntKind.u64 s] = cB (Cur.mk l a s) := rfl
theorem Cur.pk {c : Cur} {m k : Int} (h : c.good (m - 2)) : (c.pickC k).good m := by
  have := Cur.pickC_good (k := k) h
  rwa [Int.sub_add_cancel] at this
theorem Ex1.sh {α β Y : Type} {a : α} {k : α → Option β} {sh : Y → β} {Q : Y → Prop} (h : Ex1 (k a) sh Q) : Ex1 (shr a k) sh Q := h
theorem Ex1.T {β Y : Type} {c : Bool} {x : Option β} {sh : Y → β} {Q : Y → Prop} (h : c = true) (k : Ex1 x sh Q) : Ex1 (ifT c x) sh Q := by subst h; exact k
theorem Ex1.B {β Y : Type} {c : Bool} {x y : Option β} {sh : Y → β} {Q : Y → Prop} (h1 : c = true → Ex1 x sh Q) (h2 : c = false → Ex1 y sh Q) : Ex1 (ifB c x y) sh Q := by
  cases c with
  | true => exact h1 rfl
  | false => exact h2 rfl
theorem Ex1.S {α β Y : Type} {o : Option α} {k : α → Option β} {sh : Y → β} {Q : Y → Prop} (h : ∃ z, o = some z) (hk : ∀ z, o = some z → Ex1 (k z) sh Q) : Ex1 (ifSome o k) sh Q := by
  obtain ⟨z, rfl⟩ := h
  exact hk z rfl
theorem Ex1.L {β Y : Type} {b : β} {sh : Y → β} {Q : Y → Prop} (y : Y) (h : b = sh y) (q : Q y) : Ex1 (some b) sh Q := ⟨y, by rw [h], q⟩
theorem Ex1.P {α β Y : Type} {a : α} {b : β} {sh : Y → α × β} {Q : Y → Prop} (y : Y) (h2 : b = (sh y).2) (h1 : a = (sh y).1) (q : Q y) : Ex1 (some (a, b)) sh Q := ⟨y, by rw [h1, h2], q⟩
theorem Ex1.P3 {α β γ Y : Type} {a : α} {b : β} {c : γ} {sh : Y → α × β × γ} {Q : Y → Prop} (y : Y) (h3 : c = (sh y).2.2) (h2 : b = (sh y).2.1) (h1 : a = (sh y).1) (q : Q y) : Ex1 (some (a, b, c)) sh Q := ⟨y, by rw [h1, h2, h3], q⟩
theorem Ex1.c {Y : Type} {v : V} {c : Cur} {B : List (Option Blk)} {s1 : Y × Cur → V} {s2 : Y × Cur → List (Option Blk)} {Q : Y × Cur → Prop} (y : Y) (h2 : B = s2 (y, c)) (h1 : v = s1 (y, c)) (q : Q (y, c)) : Ex1 (some (v, some (cB c) :: B)) (fun y => (s1 y, some (cB y.2) :: s2 y)) Q := ⟨(y, c), by rw [h1, h2], q⟩
theorem Ex1.of {β Y : Type} {t t' : Option β} {sh : Y → β} {Q : Y → Prop} (e : t = t') (k : Ex1 t' sh Q) : Ex1 t sh Q := by subst e; exact k
theorem Ex1.mono {β Y : Type} {t : Option β} {sh : Y → β} {Q Q' : Y → Prop} (k : Ex1 t sh Q) (h : ∀ y, Q y → Q' y) : Ex1 t sh Q' := by obtain ⟨y, h1, h2⟩ := k; exact ⟨y, h1, h y h2⟩
/-- What there is for each is told by a function. -/
theorem pick_fn {X Y : Type} (y0 : Y) {I : X → Prop} {R : X → Y → Prop} (h : ∀ x, I x → ∃ y, R x y) : ∃ f : X → Y, ∀ x, I x → R x (f x) := by
  classical
  exact ⟨fun x => if hx : I x then (h x hx).choose else y0, fun x hx => by simp only [dif_pos hx]; exact (h x hx).choose_spec⟩
/-- A loop that ends, whatever it makes. -/
theorem loop_ex {P : Program} {Γ : FuncId → Option Ent} {Λ : Nat → Option LoopEnt} {m : Nat} {a : Code} {ent : LoopEnt} {X Y : Type} (H : X → Dt) (E : Y → Ex × Dt) (hE : ∀ y, (E y).1 ≠ .normal) (I : X → Prop) (Q : X → Y → Prop) (μ : X → Nat)
    (hr : ∀ x, I x → Ex1 (roundK P Γ Λ m a ent (H x)) E (Q x) ∨ Ex1 (roundK P Γ Λ m a ent (H x)) (fun x' => (.normal, H x')) (fun x' => I x' ∧ μ x' < μ x ∧ ∀ y, Q x' y → Q x y)) :
    ∀ x, I x → ∃ y, Runs P Γ Λ m a ent (H x) (E y).1 (E y).2 ∧ Q x y := by
  have key : ∀ n x, μ x ≤ n → I x → ∃ y, Runs P Γ Λ m a ent (H x) (E y).1 (E y).2 ∧ Q x y := by
    intro n
    induction n with
    | zero =>
      intro x hx hI
      rcases hr x hI with ⟨y, h1, h2⟩ | ⟨x', h1, h2, h3, h4⟩
      · exact ⟨y, .stop _ _ _ h1 (hE y), h2⟩
      · omega
    | succ n ih =>
      intro x hx hI
      rcases hr x hI with ⟨y, h1, h2⟩ | ⟨x', h1, h2, h3, h4⟩
      · exact ⟨y, .stop _ _ _ h1 (hE y), h2⟩
      · obtain ⟨y, h5, h6⟩ := ih x' (by omega) h2
        exact ⟨y, .step _ _ _ _ h1 h5, h4 y h6⟩
  exact fun x hI => key (μ x) x (Nat.le_refl _) hI
/-- The same, whatever the loop is said to make. -/
theorem loop_exo {ι : Type} (o0 : ι) {P : Program} {Γ : FuncId → Option Ent} {Λ : ι → Nat → Option LoopEnt} {m : Nat} {a : Code} {ent : ι → LoopEnt} {X Y : Type} (H : X → Dt) (E : Y → Ex × Dt) (hE : ∀ y, (E y).1 ≠ .normal) (I : X → Prop) (Q : X → Y → Prop) (μ : X → Nat)
    (hT : ∀ o x, I x → roundK P Γ (Λ o) m a (ent o) (H x) = roundK P Γ (Λ o0) m a (ent o0) (H x))
    (hr : ∀ x, I x → Ex1 (roundK P Γ (Λ o0) m a (ent o0) (H x)) E (Q x) ∨ Ex1 (roundK P Γ (Λ o0) m a (ent o0) (H x)) (fun x' => (.normal, H x')) (fun x' => I x' ∧ μ x' < μ x ∧ ∀ y, Q x' y → Q x y)) :
    ∀ x, I x → ∃ y, (∀ o, Runs P Γ (Λ o) m a (ent o) (H x) (E y).1 (E y).2) ∧ Q x y := by
  have key : ∀ n x, μ x ≤ n → I x → ∃ y, (∀ o, Runs P Γ (Λ o) m a (ent o) (H x) (E y).1 (E y).2) ∧ Q x y := by
    intro n
    induction n with
    | zero =>
      intro x hx hI
      rcases hr x hI with ⟨y, h1, h2⟩ | ⟨x', h1, h2, h3, h4⟩
      · exact ⟨y, fun o => .stop _ _ _ ((hT o x hI).trans h1) (hE y), h2⟩
      · omega
    | succ n ih =>
      intro x hx hI
      rcases hr x hI with ⟨y, h1, h2⟩ | ⟨x', h1, h2, h3, h4⟩
      · exact ⟨y, fun o => .stop _ _ _ ((hT o x hI).trans h1) (hE y), h2⟩
      · obtain ⟨y, h5, h6⟩ := ih x' (by omega) h2
        exact ⟨y, fun o => .step _ _ _ _ ((hT o x hI).trans h1) (h5 o), h4 y h6⟩
  exact fun x hI => key (μ x) x (Nat.le_refl _) hI
theorem Cur.le_mono {c : Cur} {n m : Int} (h : c.good n) (hm : n ≤ m) : c.good m := Cur.good_mono h hm
end Go.Proofs.Ytfkoljiioikdfaa.Den
