/- What functions of the program do, by the machine: Base Sch1 Sch2 Sch3 Sch4 Sch5 Sch7 Sch9 Sch13 Val1 Fil1 Cur Cur2 Ex Pr1 Pr5 Pr6 Pr7 Pr8 Pr9 Pr10 Pr11 Wi1. -/
import Derived.Test.YtfkoljiioikdfaaDen4
import Derived.KernelRfl
import Derived.Test.YtfkoljiioikdfaaRows
namespace Go.Proofs.Ytfkoljiioikdfaa.Den
open Go.Proofs
set_option maxRecDepth 100000
abbrev LCd : Cd := .pair (.int .i64) (.pair .str (.pair (.int .i64) (.pair .bool (.pair (.int .i64) .unit))))
abbrev TCd : Cd := .pair (.int .i64) (.pair .str (.pair (.int .i64) (.pair .bool (.pair (.int .i64) (.pair (.int .i64) .unit)))))
abbrev NCd : Cd := .pair (.int .i64) (.pair .str (.pair (.int .i64) (.pair (.int .i64) (.pair .bool .unit))))
abbrev VCd : Cd := .pair (.int .i64) (.pair .str (.pair (.int .i64) (.pair .bool .unit)))
def withinG : List V → List Blk → Br (V × List (Option Blk))
  | [.i .i64 a, .i .i64 b, .i .i64 c], [] => .leaf (.b (decide (b ≤ a ∧ a ≤ c)), [])
  | _, _ => .no

theorem within_fun (a b c : Int) : funK Try.prog (look []) (look []) Try.f66 [.i .i64 a, .i .i64 b, .i .i64 c] [] = (.leaf (.b (decide (b ≤ a ∧ a ≤ c)), []) : Br (V × List (Option Blk))).run := by
  have e : funK Try.prog (look []) (look []) Try.f66 [.i .i64 a, .i .i64 b, .i .i64 c] [] = ((ifB (decide (a ≥ b)) (some (V.b (decide (a ≤ c)), [])) (some (V.b false, []))) : _) := by kernel_rfl
  rw [e]
  clear e
  by_cases q1 : a ≥ b <;> by_cases q2 : a ≤ c <;> simp [q1, q2, Br.run] <;> omega
theorem within : Contract Try.prog 66 (Ent.rd1 withinG).F := by
  refine fun_contract' KnowsL.nil.knows (Λ := look []) Try.func66 (c := Try.f66.body.getD .skip) (by kernel_rfl) fun vs bs r' hq hv hb => ?_
  unfold Ent.F withinG at hq
  dsimp only at hq
  split at hq
  · rename_i a b c
    exact ⟨loopsOk_nil _, (within_fun a b c).trans hq⟩
  · cases hq
theorem l1In_fun (a b c : Int) : funK Try.prog (look []) (look []) Try.f111 [.i .i64 a, .i .i64 b, .i .i64 c] [] = (.leaf (.b (decide (b ≤ a ∧ a ≤ c)), []) : Br (V × List (Option Blk))).run := by
  have e : funK Try.prog (look []) (look []) Try.f111 [.i .i64 a, .i .i64 b, .i .i64 c] [] = ((ifB (decide (a ≥ b)) (some (V.b (decide (a ≤ c)), [])) (some (V.b false, []))) : _) := by kernel_rfl
  rw [e]
  clear e
  by_cases q1 : a ≥ b <;> by_cases q2 : a ≤ c <;> simp [q1, q2, Br.run] <;> omega
theorem l1In : Contract Try.prog 111 (Ent.rd1 withinG).F := by
  refine fun_contract' KnowsL.nil.knows (Λ := look []) Try.func111 (c := Try.f111.body.getD .skip) (by kernel_rfl) fun vs bs r' hq hv hb => ?_
  unfold Ent.F withinG at hq
  dsimp only at hq
  split at hq
  · rename_i a b c
    exact ⟨loopsOk_nil _, (l1In_fun a b c).trans hq⟩
  · cases hq

/-- A type's kind, name, number, whether it must be, its most. -/
abbrev Lab := Int × List UInt8 × Int × Bool × Int × Unit
/-- The same with the place of the type around it, ahead of the last. -/
abbrev Ty := Int × List UInt8 × Int × Bool × Int × Int × Unit
def lowB (b : UInt8) : Bool := decide (97 ≤ b.toNat) && decide (b.toNat ≤ 122)
def nameB (s : List UInt8) : Bool := s.all lowB && (decide (1 ≤ s.length) && decide (s.length ≤ 10))
/-- Whether a label fits as a part of a type of kind k. -/
def partB (k : Int) (x : Lab) : Bool := if k = 5 then nameB x.2.1 && (decide (1 ≤ x.2.2.1) && decide (x.2.2.1 ≤ 30)) else x.2.1 == [] && x.2.2.1 == 0 && !x.2.2.2.1
def nameG : List V → List Blk → Br (V × List (Option Blk))
  | [.s s], [] => .need (decide (s.length ≤ maxI)) (.leaf (.b (nameB s), []))
  | _, _ => .no
def partOfG : List V → List Blk → Br (V × List (Option Blk))
  | [.tp (.pair (.int .i64) (.pair .str (.pair (.int .i64) (.pair .bool (.pair (.int .i64) .unit))))) z 0, .i .i64 k], [] => .need (decide (z.lab.2.1.length ≤ maxI)) (.leaf (.b (partB k z.lab), []))
  | _, _ => .no
def inameE : LoopEnt := ⟨23, [0,5,6], [0], [2], fun
  | ([.s s, .i .i64 m, .i .i64 i], []) => .need (decide (0 ≤ i ∧ i.toNat ≤ s.length ∧ s.length ≤ maxI ∧ m = s.length)) (.br ((s.drop i.toNat).all lowB) (.leaf (.exit 0, ([.s s], []))) (.leaf (.ret, ([.b false], []))))
  | _ => .no⟩
theorem iname_round (s : List UInt8) (m i : Int) : roundK Try.prog (look [(66, .rd1 withinG)]) (look [(2, inameE)]) 0 (body Try.f212 0) inameE ([.s s, .i .i64 m, .i .i64 i], []) =
  ((ifB (decide (i < m)) (ifT (decide ((0 : Int) ≤ i)) (ifSome s[i.toNat]? fun z => ifB (decide ((↑z.toNat : Int) < (97 : Int))) (some (Ex.ret, [V.b false], [])) (ifT (decide
 ((0 : Int) ≤ i)) (ifSome s[i.toNat]? fun z => ifB (decide ((↑z.toNat : Int) > (122 : Int))) (some (Ex.ret, [V.b false], [])) (some (Ex.normal, [V.s s, V.i .i64 m, V.i
 .i64 (IntKind.i64.wrap (i + (1 : Int)))], [])))))) (some (Ex.exit 0, [V.s s], []))) : _) := by kernel_rfl
theorem iname_ok : LoopsOk Try.prog (look [(66, .rd1 withinG)]) (look [(2, inameE)]) 0 (Try.f212.body.getD .skip) := by
  refine loopsOk_one (a := body Try.f212 0) (by kernel_rfl) fun d e d' h => ?_
  unfold inameE at h
  dsimp only at h
  split at h
  · rename_i s m i
    obtain ⟨hc, hx⟩ := need_some h
    clear h
    obtain ⟨h0, h1, h2, rfl⟩ := of_decide_eq_true hc
    obtain ⟨i, rfl⟩ := Int.eq_ofNat_of_zero_le h0
    rw [Int.toNat_natCast] at h1 hx
    refine runs_all (l := s) lowB (fun i => ([.s s, .i .i64 (↑s.length : Int), .i .i64 (i : Int)], [])) (ex := (.exit 0, ([.s s], []))) (rt := (.ret, ([.b false], []))) (by simp) (by simp) (fun i hi => ?_) ?_ (s.length - i) i (by omega) e d' hx
    · have hr := iname_round s s.length i
      rw [ifB_true (decide_eq_true (by omega))] at hr
      simp only [Int.toNat_natCast, List.getElem?_eq_getElem hi, ifSome_s, wrap_succ (n := i) (by omega)] at hr
      refine hr.trans ?_
      have hb := s[i].toNat_lt
      have hz : (0 : Int) ≤ (i : Int) := by omega
      simp only [hz, decide_true, ifT_t]
      unfold lowB
      generalize s[i].toNat = b at *
      have c1 : decide ((b : Int) < 97) = !decide (97 ≤ b) := by rw [← decide_not]; exact decide_eq_decide.2 (by omega)
      have c2 : decide ((b : Int) > 122) = !decide (b ≤ 122) := by rw [← decide_not]; exact decide_eq_decide.2 (by omega)
      simp only [c1, c2]
      cases decide (97 ≤ b) <;> cases decide (b ≤ 122) <;> rfl
    · have hr := iname_round s s.length s.length
      rw [ifB_false (decide_eq_false (by omega))] at hr
      exact hr
  · cases h
theorem iname_fun (s : List UInt8) (hc : s.length ≤ maxI) : funK Try.prog (look [(66, .rd1 withinG)]) (look [(2, inameE)]) Try.f212 [.s s] [] = some (.b (nameB s), []) := by
  have e : funK Try.prog (look [(66, .rd1 withinG)]) (look [(2, inameE)]) Try.f212 [.s s] [] = ((ifT (decide ((0 : Int) ≤ (0 : Int) ∧ (0 : Nat) ≤ s.length ∧ s.length ≤ maxI ∧ (↑s.length : Int) = (↑s.length : Int))) (ifB ((List.drop (0 : Nat) s).all lowB) (some (V.b
 (decide ((1 : Int) ≤ (↑s.length : Int) ∧ (↑s.length : Int) ≤ (10 : Int))), [])) (some (V.b false, [])))) : _) := by kernel_rfl
  rw [e]
  clear e
  have hM : maxI = 9223372036854775807 := rfl
  rw [ifT_true (decide_eq_true (by simp; try omega))]
  simp only [Int.toNat_zero, List.drop_zero]
  unfold nameB
  have d1 : decide (1 ≤ (s.length : Int) ∧ (s.length : Int) ≤ 10) = (decide (1 ≤ s.length) && decide (s.length ≤ 10)) := by
    rw [← Bool.decide_and]; exact decide_eq_decide.2 (by omega)
  cases s.all lowB
  · rfl
  · rw [ifB_t, d1]; rfl
theorem iname : Contract Try.prog 212 (Ent.rd1 nameG).F := by
  refine fun_contract' (KnowsL.cons (enters_fn Try.func66 (by kernel_rfl) (by kernel_rfl)) within KnowsL.nil).knows (Λ := (look [(2, inameE)])) Try.func212 (c := Try.f212.body.getD .skip) (by kernel_rfl) fun vs bs r hq hv hb => ?_
  unfold Ent.F nameG at hq
  dsimp only at hq
  split at hq
  · rename_i s
    obtain ⟨hc, hx⟩ := need_some hq
    exact ⟨iname_ok, (iname_fun s (of_decide_eq_true hc)).trans hx⟩
  · cases hq
theorem partOf_fun (z : Rose Lab) (k : Int) (hc : z.lab.2.1.length ≤ maxI) : funK Try.prog (look [(212, .rd1 nameG), (66, .rd1 withinG)]) (look []) Try.f193 [.tp LCd z 0, .i .i64 k] [] = some (.b (partB k z.lab), []) := by
  have e : funK Try.prog (look [(212, .rd1 nameG), (66, .rd1 withinG)]) (look []) Try.f193 [.tp LCd z 0, .i .i64 k] [] = ((ifB (k == (5 : Int)) (ifT (decide (List.length z.lab.snd.fst ≤ maxI)) (ifB (nameB z.lab.snd.fst) (some (V.b (decide ((1 : Int) ≤ z.lab.snd.snd.fst ∧ z.lab.snd.snd.fst ≤
 (30 : Int))), [])) (some (V.b false, [])))) (ifB (z.lab.snd.fst == nilT UInt8) (ifB (z.lab.snd.snd.fst == (0 : Int)) (some (V.b !z.lab.snd.snd.snd.fst, [])) (some (V.b
 false, []))) (some (V.b false, [])))) : _) := by kernel_rfl
  rw [e]
  clear e
  rw [decide_eq_true hc]
  unfold partB
  have d1 : decide (1 ≤ z.lab.2.2.1 ∧ z.lab.2.2.1 ≤ 30) = (decide (1 ≤ z.lab.2.2.1) && decide (z.lab.2.2.1 ≤ 30)) := Bool.decide_and ..
  by_cases q : k = 5
  · subst q
    rw [ifB_true (by rfl), if_pos rfl, d1]
    cases nameB z.lab.2.1 <;> rfl
  · rw [ifB_false (beq_false_of_ne q), if_neg q]
    cases z.lab.2.1 == [] <;> cases z.lab.2.2.1 == 0 <;> rfl
theorem partOf : Contract Try.prog 193 (Ent.rd1 partOfG).F := by
  refine fun_contract' (KnowsL.cons (enters_fn Try.func212 (by kernel_rfl) (by kernel_rfl)) iname (KnowsL.cons (enters_fn Try.func66 (by kernel_rfl) (by kernel_rfl)) within KnowsL.nil)).knows (Λ := look []) Try.func193 (c := Try.f193.body.getD .skip) (by kernel_rfl) fun vs bs r hq hv hb => ?_
  unfold Ent.F partOfG at hq
  dsimp only at hq
  split at hq
  · rename_i z k
    obtain ⟨hc, hx⟩ := need_some hq
    exact ⟨loopsOk_nil _, (partOf_fun z k (of_decide_eq_true hc)).trans hx⟩
  · cases hq

def upAt (l : List Ty) (i : Nat) : Option Int := (l[i]?).map fun x => x.2.2.2.2.1
def labAt (l : List Ty) (i : Nat) : Lab := match l[i]? with | some x => (x.1, x.2.1, x.2.2.1, x.2.2.2.1, x.2.2.2.2.2.1, ()) | none => (0, [], 0, false, 0, ())
mutual
/-- How many there are in a tree. -/
def cntR : Rose Lab → Nat
  | .node _ ks => cntL ks + 1
def cntL : List (Rose Lab) → Nat
  | [] => 0
  | z :: l => cntR z + cntL l
end
theorem cnt_mem {z : Rose Lab} : ∀ {l : List (Rose Lab)}, z ∈ l → cntR z ≤ cntL l
  | [], h => by cases h
  | y :: l, h => by
    rw [cntL]
    rcases List.mem_cons.1 h with rfl | h
    · omega
    · have := cnt_mem h; omega
theorem cnt_pos (z : Rose Lab) : 1 ≤ cntR z := by cases z; rw [cntR]; omega
theorem cnt_len : ∀ (l : List (Rose Lab)), l.length ≤ cntL l
  | [] => Nat.le_refl _
  | z :: l => by have := cnt_len l; have := cnt_pos z; rw [cntL, List.length_cons]; omega
theorem cnt_kids (z : Rose Lab) : cntR z = cntL z.kids + 1 := by cases z; rw [cntR]; rfl
/-- The number of the one ahead of a place is as great or greater. -/
def prevGe (zk : List (Rose Lab)) (i : Nat) (n : Int) : Bool := match i with
  | 0 => false
  | i + 1 => match zk[i]? with | some y => decide (y.lab.2.2.1 ≥ n) | none => false
/-- Parts of a message: names each once, numbers rising. -/
def msgL (zk : List (Rose Lab)) : Nat → List (List UInt8 × Bool) → List (Rose Lab) → Bool
  | _, _, [] => true
  | i, seen, z :: l => if ((mget .str seen z.lab.2.1).getD false || prevGe zk i z.lab.2.2.1) = true then false else msgL zk (i + 1) (mput .str seen z.lab.2.1 true) l
/-- Whether the parts of a type by themselves fit. -/
def partsB (x : Lab) (ks : List (Rose Lab)) : Bool :=
  if x.1 = 1 ∨ x.1 = 2 then x.2.2.2.2.1 == 0 && ks.length == 0
  else if x.1 = 3 then decide (0 ≤ x.2.2.2.2.1 ∧ x.2.2.2.2.1 ≤ 20) && ks.length == 0
  else if x.1 = 4 then x.2.2.2.2.1 == 0 && ks.length == 1
  else if x.1 ≠ 5 ∨ x.2.2.2.2.1 ≠ 0 then false
  else msgL ks 0 [] ks
def partsOKG : List V → List Blk → Br (V × List (Option Blk))
  | [.tp (.pair (.int .i64) (.pair .str (.pair (.int .i64) (.pair .bool (.pair (.int .i64) .unit))))) z 0], [] => .need (decide (z.kids.length ≤ maxI)) (.leaf (.b (partsB z.lab z.kids), []))
  | _, _ => .no
def poE : LoopEnt := ⟨113, [0,3,72,73,74], [], [2], fun
  | ([.tp (.pair (.int .i64) (.pair .str (.pair (.int .i64) (.pair .bool (.pair (.int .i64) .unit))))) z 0, .mref 0, .sl (.tree (.pair (.int .i64) (.pair .str (.pair (.int .i64) (.pair .bool (.pair (.int .i64) .unit)))))) ks, .i .i64 k, .i .i64 i], [some (.mp .str .bool seen)]) => .need (decide (0 ≤ i ∧ i.toNat ≤ ks.length ∧ k = ks.length ∧ ks.length ≤ maxI ∧ z.kids.length = ks.length)) (.br (msgL z.kids i.toNat seen (ks.drop i.toNat)) (.leaf (.exit 1, ([], []))) (.leaf (.ret, ([.b false], []))))
  | _ => .no⟩

theorem po_round (z : Rose Lab) (ks : List (Rose Lab)) (seen : List (List UInt8 × Bool)) (k i : Int) : roundK Try.prog (look [(66, .rd1 withinG)]) (look [(13, poE)]) 0 (body Try.f190 0) poE ([.tp LCd z 0, .mref 0, .sl (.tree LCd) ks, .i .i64 k, .i .i64 i], [some (.mp .str .bool seen)]) =
  ((ifB (decide (i < k)) (ifT (decide ((0 : Int) ≤ i) && decide (i < (↑ks.length : Int))) (ifSome ks[i.toNat]? fun z_1 => ifB ((mget Cd.str seen (Rose.lab z_1).snd.fst).getD
 false) (some (Ex.ret, [V.b false], [])) (ifB (decide (i > (0 : Int))) (ifT (decide ((0 : Int) ≤ IntKind.i64.wrap (i - (1 : Int))) && decide (IntKind.i64.wrap (i - (1 :
 Int)) < (↑z.kids.length : Int))) (ifSome z.kids[(IntKind.i64.wrap (i - (1 : Int))).toNat]? fun z_2 => ifB (decide ((Rose.lab z_2).snd.snd.fst ≥ (Rose.lab
 z_1).snd.snd.fst)) (some (Ex.ret, [V.b false], [])) (some (Ex.normal, [V.tp LCd z (0 : Nat), V.mref (0 : Nat), V.sl LCd.tree ks, V.i .i64 k, V.i .i64 (IntKind.i64.wrap (i
 + (1 : Int)))], [some (Blk.mp Cd.str Cd.bool (mput Cd.str seen (Rose.lab z_1).snd.fst true))])))) (some (Ex.normal, [V.tp LCd z (0 : Nat), V.mref (0 : Nat), V.sl LCd.tree
 ks, V.i .i64 k, V.i .i64 (IntKind.i64.wrap (i + (1 : Int)))], [some (Blk.mp Cd.str Cd.bool (mput Cd.str seen (Rose.lab z_1).snd.fst true))]))))) (some (Ex.exit 1, [],
 []))) : _) := by kernel_rfl
theorem po_tree (z : Rose Lab) : funK Try.prog (look [(66, .rd1 withinG)]) (look [(13, poE)]) Try.f190 [.tp LCd z 0] [] =
  ((ifB (z.lab.fst == (1 : Int)) (ifB (z.lab.fst == (1 : Int)) (ifB (z.lab.snd.snd.snd.snd.fst == (0 : Int)) (some (V.b ((↑z.kids.length : Int) == (0 : Int)), [])) (some (V.b
 false, []))) (ifB (z.lab.fst == (3 : Int)) (ifB (decide ((0 : Int) ≤ z.lab.snd.snd.snd.snd.fst ∧ z.lab.snd.snd.snd.snd.fst ≤ (20 : Int))) (some (V.b ((↑z.kids.length :
 Int) == (0 : Int)), [])) (some (V.b false, []))) (ifB (z.lab.fst == (4 : Int)) (ifB (z.lab.snd.snd.snd.snd.fst == (0 : Int)) (some (V.b ((↑z.kids.length : Int) == (1 :
 Int)), [])) (some (V.b false, []))) (ifB (z.lab.fst != (5 : Int)) (some (V.b false, [])) (ifB (z.lab.snd.snd.snd.snd.fst != (0 : Int)) (some (V.b false, [])) (ifT (decide
 ((0 : Int) ≤ (0 : Int) ∧ (0 : Nat) ≤ z.kids.length ∧ (↑z.kids.length : Int) = (↑z.kids.length : Int) ∧ z.kids.length ≤ maxI ∧ z.kids.length = z.kids.length)) (ifB (msgL
 z.kids (0 : Nat) (nilT (Cd.str.den × Cd.bool.den)) (List.drop (0 : Nat) z.kids)) (some (V.b true, [])) (some (V.b false, []))))))))) (ifB (z.lab.fst == (2 : Int)) (ifB
 (z.lab.snd.snd.snd.snd.fst == (0 : Int)) (some (V.b ((↑z.kids.length : Int) == (0 : Int)), [])) (some (V.b false, []))) (ifB (z.lab.fst == (3 : Int)) (ifB (decide ((0 :
 Int) ≤ z.lab.snd.snd.snd.snd.fst ∧ z.lab.snd.snd.snd.snd.fst ≤ (20 : Int))) (some (V.b ((↑z.kids.length : Int) == (0 : Int)), [])) (some (V.b false, []))) (ifB (z.lab.fst
 == (4 : Int)) (ifB (z.lab.snd.snd.snd.snd.fst == (0 : Int)) (some (V.b ((↑z.kids.length : Int) == (1 : Int)), [])) (some (V.b false, []))) (ifB (z.lab.fst != (5 : Int))
 (some (V.b false, [])) (ifB (z.lab.snd.snd.snd.snd.fst != (0 : Int)) (some (V.b false, [])) (ifT (decide ((0 : Int) ≤ (0 : Int) ∧ (0 : Nat) ≤ z.kids.length ∧
 (↑z.kids.length : Int) = (↑z.kids.length : Int) ∧ z.kids.length ≤ maxI ∧ z.kids.length = z.kids.length)) (ifB (msgL z.kids (0 : Nat) (nilT (Cd.str.den × Cd.bool.den))
 (List.drop (0 : Nat) z.kids)) (some (V.b true, [])) (some (V.b false, [])))))))))) : _) := by kernel_rfl
theorem po_loop (z : Rose Lab) (ks : List (Rose Lab)) (hz : z.kids.length = ks.length) (hm : ks.length ≤ maxI) : ∀ (j i : Nat) (seen : List (List UInt8 × Bool)), i + j = ks.length → ∀ ex d, (Br.br (msgL z.kids i seen (ks.drop i)) (.leaf (.exit 1, ([], []))) (.leaf (.ret, ([.b false], []))) : Br (Ex × Dt)).run = some (ex, d) →
    Runs Try.prog (look [(66, .rd1 withinG)]) (look [(13, poE)]) 0 (body Try.f190 0) poE ([.tp LCd z 0, .mref 0, .sl (.tree LCd) ks, .i .i64 (ks.length : Int), .i .i64 (i : Int)], [some (.mp .str .bool seen)]) ex d
  | 0, i, seen, hi, ex, d, h => by
    have hr := po_round z ks seen ks.length i
    rw [ifB_false (decide_eq_false (by omega))] at hr
    have e1 : ks.drop i = [] := List.drop_eq_nil_of_le (by omega)
    rw [e1, msgL] at h
    have h8 := leaf_some h
    obtain ⟨rfl, rfl⟩ := Prod.mk.inj h8
    exact .stop _ _ _ hr (by simp)
  | j + 1, i, seen, hi, ex, d, h => by
    have hl : i < ks.length := by omega
    have hM : maxI = 9223372036854775807 := rfl
    have hr := po_round z ks seen ks.length i
    rw [ifB_true (decide_eq_true (by omega)), ifT_true (by simp only [Bool.and_eq_true, decide_eq_true_eq]; omega)] at hr
    simp only [Int.toNat_natCast, List.getElem?_eq_getElem hl, ifSome_s, wrap_succ (n := i) (by omega)] at hr
    rw [List.drop_eq_getElem_cons hl, msgL] at h
    have stop : ∀ {x : Option (Ex × Dt)}, x = some (.ret, ([.b false], [])) → (Br.br false (.leaf (.exit 1, ([], []))) (.leaf (.ret, ([.b false], []))) : Br (Ex × Dt)).run = some (ex, d) → x = some (ex, d) ∧ ex ≠ .normal := fun hx h => by
      have h8 := leaf_some h
      obtain ⟨rfl, rfl⟩ := Prod.mk.inj h8
      exact ⟨hx, by simp⟩
    cases h1 : (mget .str seen ks[i].lab.2.1).getD false with
    | true =>
      rw [h1, Bool.true_or, if_pos rfl] at h
      rw [h1, ifB_t] at hr
      obtain ⟨g1, g2⟩ := stop hr h
      exact .stop _ _ _ g1 g2
    | false =>
      rw [h1, Bool.false_or] at h
      rw [h1, ifB_f] at hr
      cases i with
      | zero =>
        rw [ifB_false (decide_eq_false (by omega))] at hr
        rw [prevGe, if_neg (by simp)] at h
        exact .step _ _ _ _ hr (po_loop z ks hz hm j 1 _ (by omega) ex d h)
      | succ i =>
        have hl' : i < z.kids.length := by omega
        have hw : IntKind.i64.wrap (((i + 1 : Nat) : Int) - 1) = (i : Int) := by rw [wrap_id (by omega) (by omega)]; omega
        rw [ifB_true (decide_eq_true (by omega)), hw, ifT_true (by simp only [Bool.and_eq_true, decide_eq_true_eq]; omega)] at hr
        simp only [Int.toNat_natCast, List.getElem?_eq_getElem hl', ifSome_s] at hr
        have hp : prevGe z.kids (i + 1) ks[i + 1].lab.2.2.1 = decide (z.kids[i].lab.2.2.1 ≥ ks[i + 1].lab.2.2.1) := by unfold prevGe; simp only [List.getElem?_eq_getElem hl']
        rw [hp] at h
        cases h2 : decide (z.kids[i].lab.2.2.1 ≥ ks[i + 1].lab.2.2.1) with
        | true =>
          rw [h2, if_pos rfl] at h
          rw [h2, ifB_t] at hr
          obtain ⟨g1, g2⟩ := stop hr h
          exact .stop _ _ _ g1 g2
        | false =>
          rw [h2, if_neg (by simp)] at h
          rw [h2, ifB_f] at hr
          exact .step _ _ _ _ hr (po_loop z ks hz hm j (i + 1 + 1) _ (by omega) ex d h)
theorem po_ok : LoopsOk Try.prog (look [(66, .rd1 withinG)]) (look [(13, poE)]) 0 (Try.f190.body.getD .skip) := by
  refine loopsOk_one (a := body Try.f190 0) (by kernel_rfl) fun d ex d' h => ?_
  unfold poE at h
  dsimp only at h
  split at h
  · rename_i z ks k i seen
    obtain ⟨hc, hx⟩ := need_some h
    clear h
    obtain ⟨h0, h1, rfl, h3, h4⟩ := of_decide_eq_true hc
    obtain ⟨i, rfl⟩ := Int.eq_ofNat_of_zero_le h0
    simp only [Int.toNat_natCast] at h1 hx
    exact po_loop z ks h4 h3 (ks.length - i) i seen (by omega) ex d' hx
  · cases h
theorem partsOK_fun (z : Rose Lab) (hc : z.kids.length ≤ maxI) : funK Try.prog (look [(66, .rd1 withinG)]) (look [(13, poE)]) Try.f190 [.tp LCd z 0] [] = some (.b (partsB z.lab z.kids), []) := by
  rw [po_tree]
  have hl : ∀ n : Nat, ((z.kids.length : Int) == (n : Int)) = (z.kids.length == n) := fun n => by
    by_cases h : z.kids.length = n
    · subst h; simp
    · rw [beq_false_of_ne h, beq_false_of_ne (by omega)]
  have hl0 : ((z.kids.length : Int) == 0) = (z.kids.length == 0) := hl 0
  have hl1 : ((z.kids.length : Int) == 1) = (z.kids.length == 1) := hl 1
  have hd : decide ((0 : Int) ≤ 0 ∧ 0 ≤ z.kids.length ∧ (z.kids.length : Int) = (z.kids.length : Int) ∧ z.kids.length ≤ maxI ∧ z.kids.length = z.kids.length) = true := decide_eq_true ⟨by omega, by omega, rfl, hc, rfl⟩
  unfold partsB
  rw [List.drop_zero, hl0, hl1]
  by_cases a1 : z.lab.1 = 1
  · rw [if_pos (.inl a1), a1]
    cases z.lab.2.2.2.2.1 == 0 <;> rfl
  by_cases a2 : z.lab.1 = 2
  · rw [if_pos (.inr a2), a2]
    cases z.lab.2.2.2.2.1 == 0 <;> rfl
  rw [ifB_false (beq_false_of_ne a1), ifB_false (beq_false_of_ne a2), if_neg (by rintro (h | h); exact a1 h; exact a2 h)]
  by_cases a3 : z.lab.1 = 3
  · rw [if_pos a3, a3, ifB_true (by rfl)]
    by_cases a5 : 0 ≤ z.lab.2.2.2.2.1 ∧ z.lab.2.2.2.2.1 ≤ 20
    · rw [decide_eq_true a5]; rfl
    · rw [decide_eq_false a5]; rfl
  rw [ifB_false (beq_false_of_ne a3), if_neg a3]
  by_cases a4 : z.lab.1 = 4
  · rw [if_pos a4, a4, ifB_true (by rfl)]
    cases z.lab.2.2.2.2.1 == 0 <;> rfl
  rw [ifB_false (beq_false_of_ne a4), if_neg a4]
  by_cases a5 : z.lab.1 = 5
  · rw [ifB_false (by rw [a5]; rfl)]
    by_cases a6 : z.lab.2.2.2.2.1 = 0
    · rw [ifB_false (by rw [a6]; rfl), if_neg (by rintro (h | h); exact h a5; exact h a6), hd, ifT_t]
      cases msgL z.kids 0 [] z.kids <;> rfl
    · rw [ifB_true (by simpa using a6), if_pos (.inr a6)]
  · rw [ifB_true (by simpa using a5), if_pos (.inl a5)]
theorem partsOK : Contract Try.prog 190 (Ent.rd1 partsOKG).F := by
  refine fun_contract' (KnowsL.cons (enters_fn Try.func66 (by kernel_rfl) (by kernel_rfl)) within KnowsL.nil).knows (Λ := (look [(13, poE)])) Try.func190 (c := Try.f190.body.getD .skip) (by kernel_rfl) fun vs bs r hq hv hb => ?_
  unfold Ent.F partsOKG at hq
  dsimp only at hq
  split at hq
  · rename_i z
    obtain ⟨hc, hx⟩ := need_some hq
    exact ⟨po_ok, (partsOK_fun z (of_decide_eq_true hc)).trans hx⟩
  · cases hq

/-- The first that p takes, counted from n; -1: none. -/
def firstP {α : Type} (p : α → Bool) : Nat → List α → Int
  | _, [] => -1
  | n, z :: l => if p z = true then (n : Int) else firstP p (n + 1) l
mutual
/-- Whether a tree and all in it are right. -/
def rightR : Rose Lab → Bool
  | .node x ks => partsB x ks && rightL x.1 ks
def rightL (k : Int) : List (Rose Lab) → Bool
  | [] => true
  | z :: l => (partB k z.lab && rightR z) && rightL k l
end
mutual
/-- The names in a tree are no longer than a number can say. -/
def namR : Rose Lab → Bool
  | .node x ks => decide (x.2.1.length ≤ maxI) && namL ks
def namL : List (Rose Lab) → Bool
  | [] => true
  | z :: l => namR z && namL l
end
def badP (k : Int) (z : Rose Lab) : Bool := !(partB k z.lab && rightR z)
def kright (n : Nat) : List V → List Blk → Br (V × List (Option Blk))
  | [.tp (.pair (.int .i64) (.pair .str (.pair (.int .i64) (.pair .bool (.pair (.int .i64) .unit))))) z 0], [] => .need (decide (cntR z ≤ n ∧ cntR z ≤ 1000000 ∧ namR z = true)) (.leaf (.b (rightR z), []))
  | _, _ => .no
def krightC (n : Nat) : List V → List Blk → Br (V × List (Option Blk))
  | [.tp (.pair (.int .i64) (.pair .str (.pair (.int .i64) (.pair .bool (.pair (.int .i64) .unit))))) z 0, .bx [.tp (.pair (.int .i64) (.pair .str (.pair (.int .i64) (.pair .bool (.pair (.int .i64) .unit))))) y 0] 0], [] => .need (decide (cntR z ≤ n ∧ cntR z ≤ 1000000 ∧ namR z = true)) (.leaf (.b (badP y.lab.1 z), []))
  | _, _ => .no
def rightG : List V → List Blk → Br (V × List (Option Blk))
  | [.tp (.pair (.int .i64) (.pair .str (.pair (.int .i64) (.pair .bool (.pair (.int .i64) .unit))))) z 0], [] => .need (decide (cntR z ≤ 1000000 ∧ namR z = true)) (.leaf (.b (rightR z), []))
  | _, _ => .no
def krE (n : Nat) : LoopEnt := ⟨19, [0,1,4,7,8], [], [4], fun
  | ([.sl (.tree (.pair (.int .i64) (.pair .str (.pair (.int .i64) (.pair .bool (.pair (.int .i64) .unit)))))) l, .fn 192 [] [.ptr 0 0], .i .i64 r, .i .i64 k, .i .i64 i], [some (.box [.tp (.pair (.int .i64) (.pair .str (.pair (.int .i64) (.pair .bool (.pair (.int .i64) .unit))))) y 0])]) =>
    .need (decide (0 ≤ i ∧ i.toNat ≤ l.length ∧ l.length ≤ maxI ∧ k = l.length) && l.all (fun z : Rose Lab => decide (cntR z ≤ n ∧ cntR z ≤ 1000000 ∧ namR z = true))) (.br (decide (firstP (fun z : Rose Lab => badP y.lab.1 z) i.toNat (l.drop i.toNat) < 0)) (.leaf (.exit 0, ([], [some (.box [.tp (.pair (.int .i64) (.pair .str (.pair (.int .i64) (.pair .bool (.pair (.int .i64) .unit))))) y 0])]))) (.leaf (.ret, ([.i .i64 (firstP (fun z : Rose Lab => badP y.lab.1 z) i.toNat (l.drop i.toNat))], [some (.box [.tp (.pair (.int .i64) (.pair .str (.pair (.int .i64) (.pair .bool (.pair (.int .i64) .unit))))) y 0])]))))
  | _ => .no⟩
def kriG (n : Nat) : List V → List Blk → Br (V × List (Option Blk))
  | [.sl (.tree (.pair (.int .i64) (.pair .str (.pair (.int .i64) (.pair .bool (.pair (.int .i64) .unit)))))) l, .fn 192 [] [.ptr 0 0]], [.box [.tp (.pair (.int .i64) (.pair .str (.pair (.int .i64) (.pair .bool (.pair (.int .i64) .unit))))) y 0]] => .need (l.all (fun z : Rose Lab => decide (cntR z ≤ n ∧ cntR z ≤ 1000000 ∧ namR z = true))) (.leaf (.i .i64 (firstP (fun z : Rose Lab => badP y.lab.1 z) 0 l), [some (.box [.tp (.pair (.int .i64) (.pair .str (.pair (.int .i64) (.pair .bool (.pair (.int .i64) .unit))))) y 0])]))
  | _, _ => .no
def krhG (n : Nat) : List V → List Blk → Br (V × List (Option Blk))
  | [.sl (.tree (.pair (.int .i64) (.pair .str (.pair (.int .i64) (.pair .bool (.pair (.int .i64) .unit)))))) l, .fn 192 [] [.ptr 0 0]], [.box [.tp (.pair (.int .i64) (.pair .str (.pair (.int .i64) (.pair .bool (.pair (.int .i64) .unit))))) y 0]] => .need (l.all (fun z : Rose Lab => decide (cntR z ≤ n ∧ cntR z ≤ 1000000 ∧ namR z = true))) (.leaf (.b (l.any (fun z : Rose Lab => badP y.lab.1 z)), [some (.box [.tp (.pair (.int .i64) (.pair .str (.pair (.int .i64) (.pair .bool (.pair (.int .i64) .unit))))) y 0])]))
  | _, _ => .no

theorem firstP_ge {α : Type} (p : α → Bool) : ∀ (l : List α) (n : Nat), (firstP p n l = -1 ∧ l.any p = false) ∨ ((n : Int) ≤ firstP p n l ∧ firstP p n l < n + l.length ∧ l.any p = true)
  | [], n => .inl ⟨rfl, rfl⟩
  | z :: l, n => by
    rw [firstP, List.any_cons]
    by_cases h : p z = true
    · rw [if_pos h, h]; exact .inr ⟨Int.le_refl _, by simp; omega, rfl⟩
    · rw [if_neg h, show p z = false by simpa using h, Bool.false_or]
      rcases firstP_ge p l (n + 1) with ⟨h1, h2⟩ | ⟨h1, h2, h3⟩
      · exact .inl ⟨h1, h2⟩
      · exact .inr ⟨by omega, by simp; omega, h3⟩
theorem firstP_any {α : Type} (p : α → Bool) (l : List α) (n : Nat) : decide (firstP p n l ≥ 0) = l.any p := by
  rcases firstP_ge p l n with ⟨h1, h2⟩ | ⟨h1, h2, h3⟩
  · rw [h2]; exact decide_eq_false (by omega)
  · rw [h3]; exact decide_eq_true (by omega)
theorem firstP_neg {α : Type} (p : α → Bool) (l : List α) (n : Nat) (h : firstP p n l < 0) : firstP p n l = -1 := by
  rcases firstP_ge p l n with ⟨h1, h2⟩ | ⟨h1, h2⟩
  · exact h1
  · omega
theorem firstP_at {α : Type} (p : α → Bool) : ∀ (l : List α) (n : Nat), 0 ≤ firstP p n l → ∃ i, ∃ h : i < l.length, firstP p n l = ((n + i : Nat) : Int) ∧ p l[i] = true ∧ l.find? p = some l[i]
  | [], n, h => by rw [firstP] at h; omega
  | z :: l, n, h => by
    rw [firstP] at h ⊢
    by_cases hp : p z = true
    · rw [if_pos hp]; exact ⟨0, by simp, by simp, hp, by simp [hp]⟩
    · rw [if_neg hp] at h ⊢
      obtain ⟨i, h1, h2, h3, h4⟩ := firstP_at p l (n + 1) h
      exact ⟨i + 1, by simp; omega, by rw [h2]; congr 1; omega, by simpa using h3, by simp [hp, h4]⟩
theorem firstP_no {α : Type} (p : α → Bool) : ∀ (l : List α) (n : Nat), firstP p n l < 0 → l.find? p = none
  | [], n, _ => rfl
  | z :: l, n, h => by
    rw [firstP] at h
    by_cases hp : p z = true
    · rw [if_pos hp] at h; omega
    · rw [if_neg hp] at h
      simp [hp, firstP_no p l (n + 1) h]
theorem namL_mem {z : Rose Lab} : ∀ {l : List (Rose Lab)}, namL l = true → z ∈ l → namR z = true
  | [], _, h => by cases h
  | y :: l, hn, h => by
    rw [namL, Bool.and_eq_true] at hn
    rcases List.mem_cons.1 h with rfl | h
    · exact hn.1
    · exact namL_mem hn.2 h
theorem namR_lab {z : Rose Lab} (h : namR z = true) : z.lab.2.1.length ≤ maxI := by
  cases z
  rw [namR, Bool.and_eq_true] at h
  exact of_decide_eq_true h.1
theorem namR_kids {z : Rose Lab} (h : namR z = true) : namL z.kids = true := by
  cases z
  rw [namR, Bool.and_eq_true] at h
  exact h.2
theorem rightL_any (k : Int) : ∀ l : List (Rose Lab), rightL k l = !(l.any fun z => badP k z)
  | [] => rfl
  | z :: l => by rw [rightL, rightL_any k l, List.any_cons, badP]; cases partB k z.lab <;> cases rightR z <;> simp
theorem krightC_con (n : Nat) (hf : Contract Try.prog 155 (Ent.rd1 (kright n)).F) : Contract Try.prog 192 (Ent.rd1 (krightC n)).F := by
  refine fun_contract' (KnowsL.cons (enters_fn Try.func193 (by kernel_rfl) (by kernel_rfl)) partOf (KnowsL.cons (enters_fn Try.func155 (by kernel_rfl) (by kernel_rfl)) hf KnowsL.nil)).knows (Λ := look []) Try.func192 (c := Try.f192.body.getD .skip) (by kernel_rfl) fun vs bs r hq hv hb => ?_
  unfold Ent.F krightC at hq
  dsimp only at hq
  split at hq
  · rename_i z y
    obtain ⟨hc, hx⟩ := need_some hq
    refine ⟨loopsOk_nil _, Eq.trans ?_ hx⟩
    have e : funK Try.prog (look [(193, .rd1 partOfG), (155, .rd1 (kright n))]) (look []) Try.f192 [.tp LCd z 0, .bx [.tp LCd y 0] 0] [] = ((ifT (decide (List.length z.lab.snd.fst ≤ maxI)) (ifB (!partB y.lab.fst z.lab) (some (V.b true, [])) (ifT (decide (cntR z ≤ n ∧ cntR z ≤ (1000000 : Nat) ∧ namR z = true))
 (some (V.b !rightR z, []))))) : _) := by kernel_rfl
    have hn := of_decide_eq_true hc
    rw [e, ifT_true (decide_eq_true (namR_lab hn.2.2))]
    unfold badP
    cases partB y.lab.1 z.lab with
    | true => rw [ifT_true hc]; rfl
    | false => rfl
  · cases hq
theorem kr_round (n : Nat) (y : Rose Lab) (l : List (Rose Lab)) (r k i : Int) : roundK Try.prog (look [(192, .rd1 (krightC n))]) (look [(2, (krE n))]) 1 (body Try.f120 0) (krE n) ([.sl (.tree LCd) l, .fn 192 [] [.ptr 0 0], .i .i64 r, .i .i64 k, .i .i64 i], [some (.box [.tp LCd y 0])]) =
  ((ifB (decide (i < k)) (ifT (decide ((0 : Int) ≤ i) && decide (i < (↑l.length : Int))) (ifSome l[i.toNat]? fun z => ifT (decide (cntR z ≤ n ∧ cntR z ≤ (1000000 : Nat) ∧ namR
 z = true)) (ifB (badP y.lab.fst z) (some (Ex.ret, [V.i .i64 i], [some (Blk.box [V.tp LCd y (0 : Nat)])])) (some (Ex.normal, [V.sl LCd.tree l, V.fn
 192 [] [V.ptr 0 0], V.i .i64 r, V.i .i64 k, V.i .i64 (IntKind.i64.wrap (i + (1 : Int)))], [some (Blk.box [V.tp LCd y (0 : Nat)])]))))) (some
 (Ex.exit 0, [], [some (Blk.box [V.tp LCd y (0 : Nat)])]))) : _) := by kernel_rfl
theorem kr_loop (n : Nat) (y : Rose Lab) {l : List (Rose Lab)} {r : Int} (hx : l.length ≤ maxI) (hs : (l.all (fun z : Rose Lab => decide (cntR z ≤ n ∧ cntR z ≤ 1000000 ∧ namR z = true))) = true) : ∀ (j i : Nat), i + j = l.length → ∀ e d', (.br (decide (firstP (fun z : Rose Lab => badP y.lab.1 z) i (l.drop i) < 0)) (.leaf (.exit 0, ([], [some (.box [.tp LCd y 0])]))) (.leaf (.ret, ([.i .i64 (firstP (fun z : Rose Lab => badP y.lab.1 z) i (l.drop i))], [some (.box [.tp LCd y 0])]))) : Br (Ex × Dt)).run = some (e, d') →
    Runs Try.prog (look [(192, .rd1 (krightC n))]) (look [(2, (krE n))]) 1 (body Try.f120 0) (krE n) ([.sl (.tree LCd) l, .fn 192 [] [.ptr 0 0], .i .i64 r, .i .i64 (l.length : Int), .i .i64 (i : Int)], [some (.box [.tp LCd y 0])]) e d'
  | 0, i, hi, e, d', h => by
    have e1 : l.drop i = [] := List.drop_eq_nil_of_le (by omega)
    rw [e1, br_run, firstP, if_pos (by omega)] at h
    cases h
    have hr := kr_round n y l r l.length i
    rw [ifB_false (decide_eq_false (by omega))] at hr
    exact .stop _ _ _ hr (by simp)
  | j + 1, i, hi, e, d', h => by
    have h1 : i < l.length := by omega
    have hr := kr_round n y l r l.length i
    rw [ifB_true (decide_eq_true (by omega)), ifT_true (by simp only [Bool.and_eq_true, decide_eq_true_eq]; omega)] at hr
    simp only [Int.toNat_natCast, List.getElem?_eq_getElem h1, ifSome_s, wrap_succ (n := i) (by omega)] at hr
    have hz := of_decide_eq_true (List.all_eq_true.1 hs _ (List.getElem_mem h1))
    rw [ifT_true (by simpa only [Bool.and_eq_true, decide_eq_true_eq] using hz)] at hr
    rw [List.drop_eq_getElem_cons h1, br_run, firstP] at h
    by_cases he : (fun z : Rose Lab => badP y.lab.1 z) l[i] = true
    · rw [if_pos he, if_neg (by omega)] at h
      cases h
      rw [ifB_true he] at hr
      exact .stop _ _ _ hr (by simp)
    · rw [if_neg he] at h
      rw [ifB_false (by simpa using he)] at hr
      exact .step _ _ _ _ hr (kr_loop n y hx hs j (i + 1) (by omega) e d' (by rw [br_run]; exact h))
theorem kr_ok (n : Nat) : LoopsOk Try.prog (look [(192, .rd1 (krightC n))]) (look [(2, (krE n))]) 1 (Try.f120.body.getD .skip) := by
  refine loopsOk_one (a := body Try.f120 0) (by kernel_rfl) fun d e d' h => ?_
  unfold krE at h
  dsimp only at h
  split at h
  · obtain ⟨hc, h'⟩ := need_some h
    rw [Bool.and_eq_true] at hc
    obtain ⟨hc, hs⟩ := hc
    obtain ⟨h0, h1, h2, rfl⟩ := of_decide_eq_true hc
    obtain ⟨i, rfl⟩ := Int.eq_ofNat_of_zero_le h0
    exact kr_loop n _  h2 hs _ i (Nat.add_sub_of_le h1) e d' h'
  · cases h
theorem kr_fun (n : Nat) (y : Rose Lab) (l : List (Rose Lab)) (hx : l.length ≤ maxI) (hs : (l.all (fun z : Rose Lab => decide (cntR z ≤ n ∧ cntR z ≤ 1000000 ∧ namR z = true))) = true) : funK Try.prog (look [(192, .rd1 (krightC n))]) (look [(2, (krE n))]) Try.f120 [.sl (.tree LCd) l, .fn 192 [] [.ptr 0 0]] [.box [.tp LCd y 0]] = some (.i .i64 (firstP (fun z : Rose Lab => badP y.lab.1 z) 0 l), [some (.box [.tp LCd y 0])]) := by
  have e : funK Try.prog (look [(192, .rd1 (krightC n))]) (look [(2, (krE n))]) Try.f120 [.sl (.tree LCd) l, .fn 192 [] [.ptr 0 0]] [.box [.tp LCd y 0]] =
    ((ifT (decide ((0 : Int) ≤ (0 : Int) ∧ (0 : Nat) ≤ l.length ∧ l.length ≤ maxI ∧ (↑l.length : Int) = (↑l.length : Int)) && l.all fun z => decide (cntR z ≤ n ∧ cntR z ≤
 (1000000 : Nat) ∧ namR z = true)) (ifB (decide (firstP (fun z => badP y.lab.fst z) (0 : Nat) (List.drop (0 : Nat) l) < (0 : Int))) (some (V.i .i64 (-1), [some (Blk.box
 [V.tp LCd y (0 : Nat)])])) (some (V.i .i64 (firstP (fun z => badP y.lab.fst z) (0 : Nat) (List.drop (0 : Nat) l)), [some (Blk.box [V.tp LCd y (0 : Nat)])])))) : _) := by kernel_rfl
  rw [e, ifT_true (by rw [Bool.and_eq_true]; exact ⟨decide_eq_true ⟨by omega, by omega, hx, rfl⟩, hs⟩)]
  simp only [Int.toNat_zero, List.drop_zero]
  by_cases q : firstP (fun z : Rose Lab => badP y.lab.1 z) 0 l < 0
  · rw [ifB_true (decide_eq_true q), firstP_neg _ _ _ q]
  · rw [ifB_false (decide_eq_false q)]
theorem kr_idx (n : Nat) (hf : Contract Try.prog 192 (Ent.rd1 (krightC n)).F) : Contract Try.prog 120 (Ent.own (kriG n)).F := by
  refine fun_contract' (KnowsL.cons (enters_fn Try.func192 (by kernel_rfl) (by kernel_rfl)) hf KnowsL.nil).knows (Λ := (look [(2, (krE n))])) Try.func120 (c := Try.f120.body.getD .skip) (by kernel_rfl) fun vs bs r h hv hb => ?_
  unfold Ent.F kriG at h
  dsimp only at h
  split at h
  · rename_i l y
    obtain ⟨hc, h'⟩ := need_some h
    exact ⟨kr_ok n, (kr_fun n y l (hv (.sl (.tree LCd) l) (by simp)).1 hc).trans (by cases h'; rfl)⟩
  · cases h
theorem kr_hfun (n : Nat) (y : Rose Lab) (l : List (Rose Lab)) (hs : (l.all (fun z : Rose Lab => decide (cntR z ≤ n ∧ cntR z ≤ 1000000 ∧ namR z = true))) = true) : funK Try.prog (look [(120, .own (kriG n))]) (look []) Try.f191 [.sl (.tree LCd) l, .fn 192 [] [.ptr 0 0]] [.box [.tp LCd y 0]] = some (.b (l.any (fun z : Rose Lab => badP y.lab.1 z)), [some (.box [.tp LCd y 0])]) := by
  have e : funK Try.prog (look [(120, .own (kriG n))]) (look []) Try.f191 [.sl (.tree LCd) l, .fn 192 [] [.ptr 0 0]] [.box [.tp LCd y 0]] =
    ((ifT (l.all fun z => decide (cntR z ≤ n ∧ cntR z ≤ (1000000 : Nat) ∧ namR z = true)) (some (V.b (decide (firstP (fun z => badP y.lab.fst z) (0 : Nat) l ≥ (0 : Int))), [some
 (Blk.box [V.tp LCd y (0 : Nat)])]))) : _) := by kernel_rfl
  rw [e]
  rw [ifT_true hs]
  rw [firstP_any]
theorem kr_has (n : Nat) (hf : Contract Try.prog 192 (Ent.rd1 (krightC n)).F) : Contract Try.prog 191 (Ent.own (krhG n)).F := by
  refine fun_contract' (KnowsL.cons (enters_fn Try.func120 (by kernel_rfl) (by kernel_rfl)) (kr_idx n hf) KnowsL.nil).knows (Λ := look []) Try.func191 (c := Try.f191.body.getD .skip) (by kernel_rfl) fun vs bs r h hv hb => ?_
  unfold Ent.F krhG at h
  dsimp only at h
  split at h
  · rename_i l y
    obtain ⟨hc, h'⟩ := need_some h
    exact ⟨loopsOk_nil _, (kr_hfun n y l hc).trans (by cases h'; rfl)⟩
  · cases h
theorem kright_con : ∀ n, (∀ m, m < n → Contract Try.prog 155 (Ent.rd1 (kright m)).F) → Contract Try.prog 155 (Ent.rd1 (kright n)).F
  | 0, _ => contract_no fun vs bs => by
    unfold Ent.F kright
    dsimp only
    split
    · rename_i z
      have := cnt_pos z
      rw [decide_eq_false (show ¬ (cntR z ≤ 0 ∧ cntR z ≤ 1000000 ∧ namR z = true) by omega)]; rfl
    · rfl
  | n + 1, ih => by
    have hC := kr_has n (krightC_con n (ih n (Nat.lt_succ_self n)))
    refine fun_contract' (KnowsL.cons (enters_fn Try.func190 (by kernel_rfl) (by kernel_rfl)) partsOK (KnowsL.cons (enters_fn Try.func191 (by kernel_rfl) (by kernel_rfl)) hC KnowsL.nil)).knows (Λ := look []) Try.func155 (c := Try.f155.body.getD .skip) (by kernel_rfl) fun vs bs r hq hv hb => ?_
    unfold Ent.F kright at hq
    dsimp only at hq
    split at hq
    · rename_i z
      obtain ⟨hc, hx⟩ := need_some hq
      obtain ⟨h1, h2, h3⟩ := of_decide_eq_true hc
      refine ⟨loopsOk_nil _, Eq.trans ?_ hx⟩
      have e : funK Try.prog (look [(190, .rd1 partsOKG), (191, .own (krhG n))]) (look []) Try.f155 [.tp LCd z 0] [] = ((ifT (decide (z.kids.length ≤ maxI)) (ifB (partsB z.lab z.kids) (ifT (z.kids.all fun z => decide (cntR z ≤ n ∧ cntR z ≤ (1000000 : Nat) ∧ namR z = true)) (some (V.b
 !z.kids.any fun z_1 => badP z.lab.fst z_1, []))) (some (V.b false, [])))) : _) := by kernel_rfl
      rw [cnt_kids] at h1 h2
      have hl := cnt_len z.kids
      have hM : maxI = 9223372036854775807 := rfl
      have hall : (z.kids.all fun z : Rose Lab => decide (cntR z ≤ n ∧ cntR z ≤ 1000000 ∧ namR z = true)) = true := List.all_eq_true.2 fun w hw => decide_eq_true ⟨by have := cnt_mem hw; omega, by have := cnt_mem hw; omega, namL_mem (namR_kids h3) hw⟩
      rw [e, ifT_true (decide_eq_true (by omega))]
      have hr : rightR z = (partsB z.lab z.kids && !(z.kids.any fun w => badP z.lab.1 w)) := by cases z; rw [rightR, rightL_any]; rfl
      rw [hr]
      cases partsB z.lab z.kids with
      | true => rw [ifB_t, ifT_true hall]; rfl
      | false => rfl
    · cases hq
theorem right : Contract Try.prog 155 (Ent.rd1 rightG).F := by
  refine contract_rec (F := fun n => (Ent.rd1 (kright n)).F) kright_con fun vs bs r h => ?_
  unfold Ent.F rightG at h
  dsimp only at h
  split at h
  · rename_i z
    obtain ⟨hc, hx⟩ := need_some h
    obtain ⟨h1, h2⟩ := of_decide_eq_true hc
    refine ⟨1000000, ?_⟩
    show (Br.need (decide (cntR z ≤ 1000000 ∧ cntR z ≤ 1000000 ∧ namR z = true)) (.leaf (.b (rightR z), []))).run = some r
    rw [decide_eq_true (show cntR z ≤ 1000000 ∧ cntR z ≤ 1000000 ∧ namR z = true from ⟨h1, h1, h2⟩)]
    exact hx
  · cases h
/-- The places of the parts of a type, from a place on. -/
def kidsL (k : Int) : Nat → List Ty → List Int
  | _, [] => []
  | i, x :: l => if x.2.2.2.2.1 = k then (i : Int) :: kidsL k (i + 1) l else kidsL k (i + 1) l
def kidsAt (l : List Ty) (k : Nat) : List Int := kidsL k (k + 1) (l.drop (k + 1))
/-- The tree of a type, by the places of its parts. -/
def t2 (l : List Ty) : Nat → Nat → Rose Lab
  | 0, k => .node (labAt l k) []
  | f + 1, k => .node (labAt l k) ((kidsAt l k).map fun i => t2 l f i.toNat)
/-- A place is met on the way out. -/
inductive Out (l : List Ty) : Nat → Nat → Prop
  | refl (x : Nat) : Out l x x
  | step (x v y : Nat) (h : upAt l x = some (v : Int)) (h2 : Out l v y) : Out l x y
theorem Out.trans {l : List Ty} {x y z : Nat} (h : Out l x y) (h2 : Out l y z) : Out l x z := by
  induction h with
  | refl => exact h2
  | step x v y h _ ih => exact .step x v z h (ih h2)
instance decTy0 : DecidableEq (Bool × Int × Int × Unit) := inferInstance
instance decTy : DecidableEq Ty := inferInstance
/-- A value's node: number, text, no, up, many. -/
abbrev Nd := Int × List UInt8 × Int × Int × Bool × Unit
def numB (n : Int) : Bool := decide (-1000000000 ≤ n) && decide (n ≤ 1000000000)
def numG : List V → List Blk → Br (V × List (Option Blk))
  | [.i .i64 n], [] => .leaf (.b (numB n), [])
  | _, _ => .no
theorem numOK_fun (n : Int) : funK Try.prog (look [(66, .rd1 withinG)]) (look []) Try.f164 [.i .i64 n] [] = (.leaf (.b (numB n), []) : Br (V × List (Option Blk))).run := by
  have e : funK Try.prog (look [(66, .rd1 withinG)]) (look []) Try.f164 [.i .i64 n] [] = ((some (V.b (decide ((-1000000000 : Int) ≤ n ∧ n ≤ (1000000000 : Int))), [])) : _) := by kernel_rfl
  rw [e]
  clear e
  unfold numB
  rw [Bool.decide_and]
  rfl
theorem numOK : Contract Try.prog 164 (Ent.rd1 numG).F := by
  refine fun_contract' (KnowsL.cons (enters_fn Try.func66 (by kernel_rfl) (by kernel_rfl)) within KnowsL.nil).knows (Λ := look []) Try.func164 (c := Try.f164.body.getD .skip) (by kernel_rfl) fun vs bs r' hq hv hb => ?_
  unfold Ent.F numG at hq
  dsimp only at hq
  split at hq
  · rename_i n
    exact ⟨loopsOk_nil _, (numOK_fun n).trans hq⟩
  · cases hq
theorem l1Num_fun (n : Int) : funK Try.prog (look [(111, .rd1 withinG)]) (look []) Try.f165 [.i .i64 n] [] = (.leaf (.b (numB n), []) : Br (V × List (Option Blk))).run := by
  have e : funK Try.prog (look [(111, .rd1 withinG)]) (look []) Try.f165 [.i .i64 n] [] = ((some (V.b (decide ((-1000000000 : Int) ≤ n ∧ n ≤ (1000000000 : Int))), [])) : _) := by kernel_rfl
  rw [e]
  clear e
  unfold numB
  rw [Bool.decide_and]
  rfl
theorem l1Num : Contract Try.prog 165 (Ent.rd1 numG).F := by
  refine fun_contract' (KnowsL.cons (enters_fn Try.func111 (by kernel_rfl) (by kernel_rfl)) l1In KnowsL.nil).knows (Λ := look []) Try.func165 (c := Try.f165.body.getD .skip) (by kernel_rfl) fun vs bs r' hq hv hb => ?_
  unfold Ent.F numG at hq
  dsimp only at hq
  split at hq
  · rename_i n
    exact ⟨loopsOk_nil _, (l1Num_fun n).trans hq⟩
  · cases hq
/-- A want: kind, number of a field, number, text, two others. -/
abbrev Wt := Int × Int × Int × List UInt8 × Int × Int × Unit
def testB (k n : Int) (s : List UInt8) : Bool := if 1 ≤ k ∧ k ≤ 3 then numB n && s == [] else if k = 4 then n == 0 && s == [] else if k = 5 then n == 0 && decide (s.length ≤ 30) else false
def wantB (w : Wt) (i : Int) : Bool :=
  if w.1 = 6 ∨ w.1 = 7 then decide (w.2.1 = 0 ∧ w.2.2.1 = 0 ∧ w.2.2.2.1 = [] ∧ 0 ≤ w.2.2.2.2.1 ∧ w.2.2.2.2.1 < w.2.2.2.2.2.1 ∧ w.2.2.2.2.2.1 < i)
  else if w.1 = 8 then decide (w.2.1 = 0 ∧ w.2.2.1 = 0 ∧ w.2.2.2.1 = [] ∧ 0 ≤ w.2.2.2.2.1 ∧ w.2.2.2.2.1 < i ∧ w.2.2.2.2.2.1 = 0)
  else decide (1 ≤ w.2.1 ∧ w.2.1 ≤ 30) && testB w.1 w.2.2.1 w.2.2.2.1 && decide (w.2.2.2.2.1 = 0 ∧ w.2.2.2.2.2.1 = 0)
def incN (u : List Int) (k : Nat) : List Int := u.set k (u.getD k 0 + 1)
/-- What a want is of is used once more. -/
def useW (w : Wt) (u : List Int) : List Int := if w.1 = 6 ∨ w.1 = 7 then incN (incN u w.2.2.2.2.1.toNat) w.2.2.2.2.2.1.toNat else if w.1 = 8 then incN u w.2.2.2.2.1.toNat else u
def wgo : Nat → List Wt → List Int → Option (List Int)
  | _, [], u => some u
  | i, w :: l, u => if wantB w (i : Int) = true then wgo (i + 1) l (useW w u) else none
def onesB (u : List Int) : Bool := u.all fun x => x == 1
def goodFB (l : List Wt) : Bool := decide (1 ≤ l.length ∧ l.length ≤ 20) && (match wgo 0 l (List.replicate l.length 0) with | some u => onesB (u.take (l.length - 1)) | none => false)
def wantG : List V → List Blk → Br (V × List (Option Blk))
  | [.agg [.i .i64 w0, .i .i64 w1, .i .i64 w2, .s w3, .i .i64 w4, .i .i64 w5], .i .i64 i], [] => .leaf (.b (wantB (w0, w1, w2, w3, w4, w5, ()) i), [])
  | _, _ => .no
def goodFG : List V → List Blk → Br (V × List (Option Blk))
  | [.agg [.sl (.pair (.int .i64) (.pair (.int .i64) (.pair (.int .i64) (.pair .str (.pair (.int .i64) (.pair (.int .i64) .unit)))))) l]], [] => .leaf (.b (goodFB l), [])
  | _, _ => .no
def gf1E : LoopEnt := ⟨62, [3,4,18,19,20], [3,4], [2], fun
  | ([.i .i64 n, .ref 0 0 m, .sl (.pair (.int .i64) (.pair (.int .i64) (.pair (.int .i64) (.pair .str (.pair (.int .i64) (.pair (.int .i64) .unit)))))) l, .i .i64 k, .i .i64 i], [some (.row false none (.int .i64) u)]) => .need (decide (0 ≤ i ∧ i.toNat ≤ l.length ∧ k = l.length ∧ m = l.length ∧ u.length = l.length ∧ l.length ≤ 20 ∧ (∀ x ∈ u, 0 ≤ x ∧ x ≤ 2 * i))) (.br (wgo i.toNat (l.drop i.toNat) u).isSome (.leaf (.exit 0, ([.i .i64 n, .ref 0 0 ((wgo i.toNat (l.drop i.toNat) u).getD []).length], [some (.row false none (.int .i64) ((wgo i.toNat (l.drop i.toNat) u).getD []))]))) (.leaf (.ret, ([.b false], []))))
  | _ => .no⟩
def gf2E : LoopEnt := ⟨62, [53,54,55], [], [2], fun
  | ([.ref 0 0 m, .i .i64 k, .i .i64 i], [some (.row false none (.int .i64) u)]) => .need (decide (0 ≤ i ∧ i.toNat ≤ m ∧ k = m ∧ m ≤ u.length ∧ u.length ≤ 20)) (.br (onesB ((u.take m).drop i.toNat)) (.leaf (.exit 2, ([], []))) (.leaf (.ret, ([.b false], []))))
  | _ => .no⟩

theorem ifB_bb {c x y : Bool} : ifB c (some (V.b x, ([] : List (Option Blk)))) (some (V.b y, [])) = some (V.b (bif c then x else y), []) := by cases c <;> rfl
theorem cond_iff {c x y : Bool} : ((bif c then x else y) = true) ↔ ((c = true ∧ x = true) ∨ (c = false ∧ y = true)) := by cases c <;> simp
theorem nil_len {α : Type} [BEq α] [LawfulBEq α] (l : List α) : (l == []) = decide (l.length = 0) := by cases l <;> simp
theorem swant_tree (w0 w1 w2 : Int) (w3 : List UInt8) (w4 w5 : Int) (i : Int) : funK Try.prog (look [(111, .rd1 withinG), (165, .rd1 numG)]) (look []) Try.f202 [.agg [.i .i64 w0, .i .i64 w1, .i .i64 w2, .s w3, .i .i64 w4, .i .i64 w5], .i .i64 i] [] =
  ((ifB (!decide ((1 : Int) ≤ w0 ∧ w0 ≤ (5 : Int)) == (w1 != (0 : Int))) (some (V.b false, [])) (ifB (!decide ((0 : Int) ≤ w1 ∧ w1 ≤ (30 : Int))) (some (V.b false, [])) (ifB
 (decide ((↑w3.length : Int) > (30 : Int))) (some (V.b false, [])) (ifB (!numB w2) (some (V.b false, [])) (ifB (decide (w0 > (3 : Int))) (ifB (w2 != (0 : Int)) (some (V.b
 false, [])) (ifB (w0 != (5 : Int)) (ifB (!w3 == nilT UInt8) (some (V.b false, [])) (ifB (decide ((1 : Int) ≤ w0 ∧ w0 ≤ (5 : Int))) (ifB (w4 == (0 : Int)) (some (V.b (w5
 == (0 : Int)), [])) (some (V.b false, []))) (ifB (w0 == (8 : Int)) (ifB (decide (w4 ≥ (0 : Int))) (ifB (decide (w4 < i)) (some (V.b (w5 == (0 : Int)), [])) (some (V.b
 false, []))) (some (V.b false, []))) (ifB (decide ((6 : Int) ≤ w0 ∧ w0 ≤ (7 : Int))) (ifB (decide (w4 ≥ (0 : Int))) (ifB (decide (w4 < w5)) (some (V.b (decide (w5 < i)),
 [])) (some (V.b false, []))) (some (V.b false, []))) (some (V.b false, [])))))) (ifB (decide ((1 : Int) ≤ w0 ∧ w0 ≤ (5 : Int))) (ifB (w4 == (0 : Int)) (some (V.b (w5 ==
 (0 : Int)), [])) (some (V.b false, []))) (ifB (w0 == (8 : Int)) (ifB (decide (w4 ≥ (0 : Int))) (ifB (decide (w4 < i)) (some (V.b (w5 == (0 : Int)), [])) (some (V.b false,
 []))) (some (V.b false, []))) (ifB (decide ((6 : Int) ≤ w0 ∧ w0 ≤ (7 : Int))) (ifB (decide (w4 ≥ (0 : Int))) (ifB (decide (w4 < w5)) (some (V.b (decide (w5 < i)), []))
 (some (V.b false, []))) (some (V.b false, []))) (some (V.b false, []))))))) (ifB (w0 != (5 : Int)) (ifB (!w3 == nilT UInt8) (some (V.b false, [])) (ifB (decide ((1 : Int)
 ≤ w0 ∧ w0 ≤ (5 : Int))) (ifB (w4 == (0 : Int)) (some (V.b (w5 == (0 : Int)), [])) (some (V.b false, []))) (ifB (w0 == (8 : Int)) (ifB (decide (w4 ≥ (0 : Int))) (ifB
 (decide (w4 < i)) (some (V.b (w5 == (0 : Int)), [])) (some (V.b false, []))) (some (V.b false, []))) (ifB (decide ((6 : Int) ≤ w0 ∧ w0 ≤ (7 : Int))) (ifB (decide (w4 ≥ (0
 : Int))) (ifB (decide (w4 < w5)) (some (V.b (decide (w5 < i)), [])) (some (V.b false, []))) (some (V.b false, []))) (some (V.b false, [])))))) (ifB (decide ((1 : Int) ≤
 w0 ∧ w0 ≤ (5 : Int))) (ifB (w4 == (0 : Int)) (some (V.b (w5 == (0 : Int)), [])) (some (V.b false, []))) (ifB (w0 == (8 : Int)) (ifB (decide (w4 ≥ (0 : Int))) (ifB (decide
 (w4 < i)) (some (V.b (w5 == (0 : Int)), [])) (some (V.b false, []))) (some (V.b false, []))) (ifB (decide ((6 : Int) ≤ w0 ∧ w0 ≤ (7 : Int))) (ifB (decide (w4 ≥ (0 :
 Int))) (ifB (decide (w4 < w5)) (some (V.b (decide (w5 < i)), [])) (some (V.b false, []))) (some (V.b false, []))) (some (V.b false, []))))))))))) : _) := by kernel_rfl
theorem swant_fun (w0 w1 w2 : Int) (w3 : List UInt8) (w4 w5 : Int) (i : Int) : funK Try.prog (look [(111, .rd1 withinG), (165, .rd1 numG)]) (look []) Try.f202 [.agg [.i .i64 w0, .i .i64 w1, .i .i64 w2, .s w3, .i .i64 w4, .i .i64 w5], .i .i64 i] [] = (.leaf (.b (wantB (w0, w1, w2, w3, w4, w5, ()) i), []) : Br (V × List (Option Blk))).run := by
  rw [swant_tree]
  have e3 : (w3 == nilT UInt8) = decide (w3.length = 0) := nil_len w3
  have e4 : (w3 == []) = decide (w3.length = 0) := nil_len w3
  have e5 : (w3 = []) ↔ w3.length = 0 := List.length_eq_zero_iff.symm
  simp only [ifB_bb, e3]
  refine congrArg (fun b => some (V.b b, ([] : List (Option Blk)))) ?_
  unfold wantB testB numB
  dsimp only
  simp only [e4, e5]
  generalize w3.length = n
  rw [Bool.eq_iff_iff]
  have hk : w0 = 1 ∨ w0 = 2 ∨ w0 = 3 ∨ w0 = 4 ∨ w0 = 5 ∨ w0 = 6 ∨ w0 = 7 ∨ w0 = 8 ∨ w0 < 1 ∨ 8 < w0 := by omega
  rcases hk with rfl | rfl | rfl | rfl | rfl | rfl | rfl | rfl | hk | hk
  iterate 8
    · simp [cond_iff]
      try omega
  · have f1 : ¬ (1 ≤ w0 ∧ w0 ≤ 5) := by omega
    have f2 : ¬ w0 = 8 := by omega
    have f3 : ¬ (6 ≤ w0 ∧ w0 ≤ 7) := by omega
    have f4 : ¬ (w0 = 6 ∨ w0 = 7) := by omega
    have f5 : ¬ (1 ≤ w0 ∧ w0 ≤ 3) := by omega
    have f6 : ¬ w0 = 4 := by omega
    have f7 : ¬ w0 = 5 := by omega
    rw [if_neg f4, if_neg f2, if_neg f5, if_neg f6, if_neg f7, decide_eq_false f1, decide_eq_false f3]
    simp [cond_iff, f2, f7]
  · have f1 : ¬ (1 ≤ w0 ∧ w0 ≤ 5) := by omega
    have f2 : ¬ w0 = 8 := by omega
    have f3 : ¬ (6 ≤ w0 ∧ w0 ≤ 7) := by omega
    have f4 : ¬ (w0 = 6 ∨ w0 = 7) := by omega
    have f5 : ¬ (1 ≤ w0 ∧ w0 ≤ 3) := by omega
    have f6 : ¬ w0 = 4 := by omega
    have f7 : ¬ w0 = 5 := by omega
    rw [if_neg f4, if_neg f2, if_neg f5, if_neg f6, if_neg f7, decide_eq_false f1, decide_eq_false f3]
    simp [cond_iff, f2, f7]
theorem swant : Contract Try.prog 202 (Ent.rd1 wantG).F := by
  refine fun_contract' (KnowsL.cons (enters_fn Try.func111 (by kernel_rfl) (by kernel_rfl)) l1In (KnowsL.cons (enters_fn Try.func165 (by kernel_rfl) (by kernel_rfl)) l1Num KnowsL.nil)).knows (Λ := look []) Try.func202 (c := Try.f202.body.getD .skip) (by kernel_rfl) fun vs bs r' hq hv hb => ?_
  unfold Ent.F wantG at hq
  dsimp only at hq
  split at hq
  · rename_i w0 w1 w2 w3 w4 w5 i
    exact ⟨loopsOk_nil _, (swant_fun w0 w1 w2 w3 w4 w5 i).trans hq⟩
  · cases hq
theorem gf1_round (n : Int) (m : Nat) (l : List Wt) (k i : Int) (u : List Int) : roundK Try.prog (look [(111, .rd1 withinG), (202, .rd1 wantG)]) (look [(6, gf1E), (16, gf2E)]) 0 (body Try.f178 0) gf1E ([.i .i64 n, .ref 0 0 m, .sl (.pair (.int .i64) (.pair (.int .i64) (.pair (.int .i64) (.pair .str (.pair (.int .i64) (.pair (.int .i64) .unit)))))) l, .i .i64 k, .i .i64 i], [some (.row false none (.int .i64) u)]) =
  ((ifB (decide (i < k)) (ifT (decide ((0 : Int) ≤ i) && decide (i < (↑l.length : Int))) (ifSome l[i.toNat]? fun z => ifB (!wantB (z.fst, z.snd.fst, z.snd.snd.fst,
 z.snd.snd.snd.fst, z.snd.snd.snd.snd.fst, z.snd.snd.snd.snd.snd.fst, ()) i) (some (Ex.ret, [V.b false], [])) (ifB (decide (z.fst ≥ (6 : Int))) (ifT (decide ((0 : Int) ≤
 z.snd.snd.snd.snd.fst) && decide (z.snd.snd.snd.snd.fst < (↑m : Int))) (ifSome u[(0 : Nat) + Int.toNat z.snd.snd.snd.snd.fst]? fun z_1 => ifT (decide ((0 : Int) ≤
 z.snd.snd.snd.snd.fst) && decide (z.snd.snd.snd.snd.fst < (↑m : Int))) (ifSome u[(0 : Nat) + Int.toNat z.snd.snd.snd.snd.fst]? fun z_2 => ifB (decide ((6 : Int) ≤ z.fst ∧
 z.fst ≤ (7 : Int))) (ifT (decide ((0 : Int) ≤ z.snd.snd.snd.snd.snd.fst) && decide (z.snd.snd.snd.snd.snd.fst < (↑m : Int))) (ifSome (u.set ((0 : Nat) + Int.toNat
 z.snd.snd.snd.snd.fst) (IntKind.i64.wrap (z_1 + (1 : Int))))[(0 : Nat) + Int.toNat z.snd.snd.snd.snd.snd.fst]? fun z_3 => ifT (decide ((0 : Int) ≤
 z.snd.snd.snd.snd.snd.fst) && decide (z.snd.snd.snd.snd.snd.fst < (↑m : Int))) (ifSome (u.set ((0 : Nat) + Int.toNat z.snd.snd.snd.snd.fst) (IntKind.i64.wrap (z_1 + (1 :
 Int))))[(0 : Nat) + Int.toNat z.snd.snd.snd.snd.snd.fst]? fun z_4 => some (Ex.normal, [V.i .i64 n, V.ref 0 0 m, V.sl ((Cd.int .i64).pair ((Cd.int .i64).pair ((Cd.int
 .i64).pair (Cd.str.pair ((Cd.int .i64).pair ((Cd.int .i64).pair Cd.unit)))))) l, V.i .i64 k, V.i .i64 (IntKind.i64.wrap (i + (1 : Int)))], [some (Blk.row false none
 (Cd.int .i64) ((u.set ((0 : Nat) + Int.toNat z.snd.snd.snd.snd.fst) (IntKind.i64.wrap (z_1 + (1 : Int)))).set ((0 : Nat) + Int.toNat z.snd.snd.snd.snd.snd.fst)
 (IntKind.i64.wrap (z_3 + (1 : Int)))))])))) (some (Ex.normal, [V.i .i64 n, V.ref 0 0 m, V.sl ((Cd.int .i64).pair ((Cd.int .i64).pair ((Cd.int .i64).pair (Cd.str.pair
 ((Cd.int .i64).pair ((Cd.int .i64).pair Cd.unit)))))) l, V.i .i64 k, V.i .i64 (IntKind.i64.wrap (i + (1 : Int)))], [some (Blk.row false none (Cd.int .i64) (u.set ((0 :
 Nat) + Int.toNat z.snd.snd.snd.snd.fst) (IntKind.i64.wrap (z_1 + (1 : Int)))))]))))) (ifB (decide ((6 : Int) ≤ z.fst ∧ z.fst ≤ (7 : Int))) (ifT (decide ((0 : Int) ≤
 z.snd.snd.snd.snd.snd.fst) && decide (z.snd.snd.snd.snd.snd.fst < (↑m : Int))) (ifSome u[(0 : Nat) + Int.toNat z.snd.snd.snd.snd.snd.fst]? fun z_1 => ifT (decide ((0 :
 Int) ≤ z.snd.snd.snd.snd.snd.fst) && decide (z.snd.snd.snd.snd.snd.fst < (↑m : Int))) (ifSome u[(0 : Nat) + Int.toNat z.snd.snd.snd.snd.snd.fst]? fun z_2 => some
 (Ex.normal, [V.i .i64 n, V.ref 0 0 m, V.sl ((Cd.int .i64).pair ((Cd.int .i64).pair ((Cd.int .i64).pair (Cd.str.pair ((Cd.int .i64).pair ((Cd.int .i64).pair Cd.unit))))))
 l, V.i .i64 k, V.i .i64 (IntKind.i64.wrap (i + (1 : Int)))], [some (Blk.row false none (Cd.int .i64) (u.set ((0 : Nat) + Int.toNat z.snd.snd.snd.snd.snd.fst)
 (IntKind.i64.wrap (z_1 + (1 : Int)))))])))) (some (Ex.normal, [V.i .i64 n, V.ref 0 0 m, V.sl ((Cd.int .i64).pair ((Cd.int .i64).pair ((Cd.int .i64).pair (Cd.str.pair
 ((Cd.int .i64).pair ((Cd.int .i64).pair Cd.unit)))))) l, V.i .i64 k, V.i .i64 (IntKind.i64.wrap (i + (1 : Int)))], [some (Blk.row false none (Cd.int .i64) u)])))))) (some
 (Ex.exit 0, [V.i .i64 n, V.ref 0 0 m], [some (Blk.row false none (Cd.int .i64) u)]))) : _) := by kernel_rfl
theorem gf2_round (m : Nat) (k i : Int) (u : List Int) : roundK Try.prog (look [(111, .rd1 withinG), (202, .rd1 wantG)]) (look [(6, gf1E), (16, gf2E)]) 0 (body Try.f178 1) gf2E ([.ref 0 0 m, .i .i64 k, .i .i64 i], [some (.row false none (.int .i64) u)]) =
  ((ifB (decide (i < k)) (ifT (decide ((0 : Int) ≤ i) && decide (i < (↑m : Int))) (ifSome u[(0 : Nat) + i.toNat]? fun z => ifB (z != (1 : Int)) (some (Ex.ret, [V.b false],
 [])) (some (Ex.normal, [V.ref 0 0 m, V.i .i64 k, V.i .i64 (IntKind.i64.wrap (i + (1 : Int)))], [some (Blk.row false none (Cd.int .i64) u)])))) (some (Ex.exit 2, [], []))) : _) := by kernel_rfl
theorem gf_tree (l : List Wt) : funK Try.prog (look [(111, .rd1 withinG), (202, .rd1 wantG)]) (look [(6, gf1E), (16, gf2E)]) Try.f178 [.agg [.sl (.pair (.int .i64) (.pair (.int .i64) (.pair (.int .i64) (.pair .str (.pair (.int .i64) (.pair (.int .i64) .unit)))))) l]] [] =
  ((ifB (!decide ((1 : Int) ≤ (↑l.length : Int) ∧ (↑l.length : Int) ≤ (20 : Int))) (some (V.b false, [])) (ifT (decide ((0 : Int) ≤ (↑l.length : Int)) && decide ((↑l.length :
 Int) ≤ (↑l.length : Int)) && decide ((↑l.length : Int) * (↑(8 : Nat) : Int) ≤ (140737488355328 : Int)) && decide ((↑l.length : Int) ≤ (9223372036854775807 : Int))) (ifT
 (decide ((0 : Int) ≤ (0 : Int) ∧ (0 : Nat) ≤ l.length ∧ (↑l.length : Int) = (↑l.length : Int) ∧ (↑l.length : Int).toNat = l.length ∧ (List.replicate (↑l.length :
 Int).toNat (0 : Int)).length = l.length ∧ l.length ≤ (20 : Nat) ∧ ∀ (x : (Cd.int .i64).den), x ∈ List.replicate (↑l.length : Int).toNat (0 : Int) → (0 : (Cd.int
 .i64).den) ≤ x ∧ x ≤ (0 : Int))) (ifB (wgo (0 : Nat) (List.drop (0 : Nat) l) (List.replicate (↑l.length : Int).toNat (0 : Int))).isSome (ifT (decide ((0 : Int) ≤
 IntKind.i64.wrap ((↑l.length : Int) - (1 : Int))) && decide (IntKind.i64.wrap ((↑l.length : Int) - (1 : Int)) ≤ (↑(((wgo (0 : Nat) (List.drop (0 : Nat) l) (List.replicate
 (↑l.length : Int).toNat (0 : Int))).getD (nilT Int)).length - (0 : Nat)) : Int))) (ifT (decide ((0 : Int) ≤ (0 : Int) ∧ (0 : Nat) ≤ (IntKind.i64.wrap ((↑l.length : Int) -
 (1 : Int))).toNat - (0 : Nat) ∧ (↑((IntKind.i64.wrap ((↑l.length : Int) - (1 : Int))).toNat - (0 : Nat)) : Int) = (↑((IntKind.i64.wrap ((↑l.length : Int) - (1 :
 Int))).toNat - (0 : Nat)) : Int) ∧ (IntKind.i64.wrap ((↑l.length : Int) - (1 : Int))).toNat - (0 : Nat) ≤ ((wgo (0 : Nat) (List.drop (0 : Nat) l) (List.replicate
 (↑l.length : Int).toNat (0 : Int))).getD (nilT Int)).length ∧ ((wgo (0 : Nat) (List.drop (0 : Nat) l) (List.replicate (↑l.length : Int).toNat (0 : Int))).getD (nilT
 Int)).length ≤ (20 : Nat))) (ifB (onesB (List.drop (0 : Nat) (List.take ((IntKind.i64.wrap ((↑l.length : Int) - (1 : Int))).toNat - (0 : Nat)) ((wgo (0 : Nat) (List.drop
 (0 : Nat) l) (List.replicate (↑l.length : Int).toNat (0 : Int))).getD (nilT Int))))) (some (V.b true, [])) (some (V.b false, []))))) (some (V.b false, [])))))) : _) := by kernel_rfl
theorem want_use {w : Wt} {i : Int} (h : wantB w i = true) : (w.1 = 6 ∨ w.1 = 7 → 0 ≤ w.2.2.2.2.1 ∧ w.2.2.2.2.1 < w.2.2.2.2.2.1 ∧ w.2.2.2.2.2.1 < i) ∧ (w.1 = 8 → 0 ≤ w.2.2.2.2.1 ∧ w.2.2.2.2.1 < i) ∧ (w.1 ≤ 8) := by
  unfold wantB at h
  split at h
  · rename_i hk
    have h := of_decide_eq_true h
    exact ⟨fun _ => h.2.2.2, fun e => by omega, by omega⟩
  · rename_i hk
    split at h
    · have h := of_decide_eq_true h
      exact ⟨fun e => absurd e hk, fun _ => ⟨h.2.2.2.1, h.2.2.2.2.1⟩, by omega⟩
    · rename_i hk2
      refine ⟨fun e => absurd e hk, fun e => absurd e hk2, ?_⟩
      simp only [Bool.and_eq_true] at h
      have := h.1.2
      unfold testB at this
      split at this
      · omega
      · split at this
        · omega
        · split at this
          · omega
          · cases this
theorem incN_len (u : List Int) (k : Nat) : (incN u k).length = u.length := by unfold incN; simp
theorem incN_le {u : List Int} {k : Nat} {b : Int} (h : ∀ x ∈ u, 0 ≤ x ∧ x ≤ b) (hk : k < u.length) : ∀ x ∈ incN u k, 0 ≤ x ∧ x ≤ b + 1 := by
  intro x hx
  unfold incN at hx
  rcases List.mem_or_eq_of_mem_set hx with hx | rfl
  · have := h x hx; omega
  · have e : u.getD k 0 = u[k] := by simp [hk]
    rw [e]
    have := h _ (List.getElem_mem hk)
    omega
theorem useW_le {w : Wt} {i : Int} {u : List Int} (h : wantB w i = true) (hi : i ≤ u.length) (hu : ∀ x ∈ u, 0 ≤ x ∧ x ≤ 2 * i) : (useW w u).length = u.length ∧ ∀ x ∈ useW w u, 0 ≤ x ∧ x ≤ 2 * (i + 1) := by
  obtain ⟨h1, h2, _⟩ := want_use h
  unfold useW
  split
  · rename_i hk
    have := h1 hk
    refine ⟨by rw [incN_len, incN_len], ?_⟩
    have a := incN_le (incN_le hu (k := w.2.2.2.2.1.toNat) (by omega)) (k := w.2.2.2.2.2.1.toNat) (by rw [incN_len]; omega)
    exact fun x hx => by have := a x hx; omega
  · split
    · rename_i hk
      have := h2 hk
      refine ⟨by rw [incN_len], ?_⟩
      have a := incN_le hu (k := w.2.2.2.2.1.toNat) (by omega)
      exact fun x hx => by have := a x hx; omega
    · exact ⟨rfl, fun x hx => by have := hu x hx; omega⟩
theorem gf1_one (n : Int) (l : List Wt) (i : Nat) (u : List Int) (hi : i < l.length) (hul : u.length = l.length) (hl : l.length ≤ 20) (hu : ∀ x ∈ u, 0 ≤ x ∧ x ≤ 2 * (i : Int)) :
    roundK Try.prog (look [(111, .rd1 withinG), (202, .rd1 wantG)]) (look [(6, gf1E), (16, gf2E)]) 0 (body Try.f178 0) gf1E ([.i .i64 n, .ref 0 0 l.length, .sl (.pair (.int .i64) (.pair (.int .i64) (.pair (.int .i64) (.pair .str (.pair (.int .i64) (.pair (.int .i64) .unit)))))) l, .i .i64 (l.length : Int), .i .i64 (i : Int)], [some (.row false none (.int .i64) u)]) = if wantB l[i] (i : Int) = true then some (.normal, ([.i .i64 n, .ref 0 0 l.length, .sl (.pair (.int .i64) (.pair (.int .i64) (.pair (.int .i64) (.pair .str (.pair (.int .i64) (.pair (.int .i64) .unit)))))) l, .i .i64 (l.length : Int), .i .i64 ((i + 1 : Nat) : Int)], [some (.row false none (.int .i64) (useW l[i] u))])) else some (.ret, ([.b false], [])) := by
  rw [gf1_round]
  have hM : maxI = 9223372036854775807 := rfl
  rw [ifB_true (decide_eq_true (by omega)), ifT_true (by simp only [Bool.and_eq_true, decide_eq_true_eq]; omega), Int.toNat_natCast, List.getElem?_eq_getElem hi, ifSome_s, wrap_succ (n := i) (by omega)]
  generalize hw : l[i] = w
  obtain ⟨w0, w1, w2, w3, w4, w5, ⟨⟩⟩ := w
  dsimp only
  cases hb : wantB (w0, w1, w2, w3, w4, w5, ()) (i : Int) with
  | false => rfl
  | true =>
    obtain ⟨h1, h2, h3⟩ := want_use hb
    dsimp only at h1 h2 h3
    rw [Bool.not_true, ifB_f, if_pos rfl]
    simp only [Nat.zero_add]
    unfold useW incN
    dsimp only
    have wr : ∀ {x : Int}, 0 ≤ x → x ≤ 100 → IntKind.i64.wrap (x + 1) = x + 1 := fun h h' => wrap_id (by omega) (by omega)
    have at' : ∀ {v : List Int} {k : Nat} (hk : k < v.length), v.getD k 0 = v[k] := fun hk => by simp [hk]
    by_cases q6 : w0 = 6 ∨ w0 = 7
    · obtain ⟨a1, a2, a3⟩ := h1 q6
      have k4 : w4.toNat < u.length := by omega
      have u4 := hu _ (List.getElem_mem k4)
      have k5 : w5.toNat < (u.set w4.toNat (u[w4.toNat] + 1)).length := by rw [List.length_set]; omega
      have u5 := incN_le hu k4 ((u.set w4.toNat (u[w4.toNat] + 1))[w5.toNat]) (by unfold incN; rw [at' k4]; exact List.getElem_mem k5)
      rw [if_pos q6, ifB_true (decide_eq_true (by omega)), ifT_true (by simp only [Bool.and_eq_true, decide_eq_true_eq]; omega), List.getElem?_eq_getElem k4, ifSome_s, ifT_true (by simp only [Bool.and_eq_true, decide_eq_true_eq]; omega), ifSome_s, ifB_true (decide_eq_true (by omega)), ifT_true (by simp only [Bool.and_eq_true, decide_eq_true_eq]; omega), wr (by omega) (by omega), List.getElem?_eq_getElem k5, ifSome_s, ifT_true (by simp only [Bool.and_eq_true, decide_eq_true_eq]; omega), ifSome_s, wr (by omega) (by omega), at' k4, at' k5]
    · rw [if_neg q6]
      by_cases q8 : w0 = 8
      · obtain ⟨a1, a2⟩ := h2 q8
        have k4 : w4.toNat < u.length := by omega
        have u4 := hu _ (List.getElem_mem k4)
        rw [if_pos q8, ifB_true (decide_eq_true (by omega)), ifT_true (by simp only [Bool.and_eq_true, decide_eq_true_eq]; omega), List.getElem?_eq_getElem k4, ifSome_s, ifT_true (by simp only [Bool.and_eq_true, decide_eq_true_eq]; omega), ifSome_s, ifB_false (decide_eq_false (by omega)), wr (by omega) (by omega), at' k4]
      · rw [if_neg q8, ifB_false (decide_eq_false (by omega)), ifB_false (decide_eq_false (by omega))]
theorem gf1_loop (n : Int) (l : List Wt) (hl : l.length ≤ 20) : ∀ (j i : Nat) (u : List Int), i + j = l.length → u.length = l.length → (∀ x ∈ u, 0 ≤ x ∧ x ≤ 2 * (i : Int)) → ∀ ex d, (Br.br (wgo i (l.drop i) u).isSome (.leaf (.exit 0, ([.i .i64 n, .ref 0 0 ((wgo i (l.drop i) u).getD []).length], [some (.row false none (.int .i64) ((wgo i (l.drop i) u).getD []))]))) (.leaf (.ret, ([.b false], []))) : Br (Ex × Dt)).run = some (ex, d) →
    Runs Try.prog (look [(111, .rd1 withinG), (202, .rd1 wantG)]) (look [(6, gf1E), (16, gf2E)]) 0 (body Try.f178 0) gf1E ([.i .i64 n, .ref 0 0 l.length, .sl (.pair (.int .i64) (.pair (.int .i64) (.pair (.int .i64) (.pair .str (.pair (.int .i64) (.pair (.int .i64) .unit)))))) l, .i .i64 (l.length : Int), .i .i64 (i : Int)], [some (.row false none (.int .i64) u)]) ex d
  | 0, i, u, hi, hul, hu, ex, d, h => by
    have hr := gf1_round n l.length l l.length i u
    rw [ifB_false (decide_eq_false (by omega))] at hr
    rw [List.drop_eq_nil_of_le (by omega), wgo] at h
    have h8 := leaf_some (show (Br.leaf (.exit 0, ([.i .i64 n, .ref 0 0 u.length], [some (.row false none (.int .i64) u)])) : Br (Ex × Dt)).run = some (ex, d) from h)
    obtain ⟨rfl, rfl⟩ := Prod.mk.inj h8
    rw [hul]
    exact .stop _ _ _ hr (by simp)
  | j + 1, i, u, hi, hul, hu, ex, d, h => by
    have hlt : i < l.length := by omega
    have hr := gf1_one n l i u hlt hul hl hu
    rw [List.drop_eq_getElem_cons hlt, wgo] at h
    by_cases q : wantB l[i] (i : Int) = true
    · rw [if_pos q] at hr h
      obtain ⟨g1, g2⟩ := useW_le q (by omega) hu
      exact .step _ _ _ _ hr (gf1_loop n l hl j (i + 1) (useW l[i] u) (by omega) (g1.trans hul) (by push_cast; exact g2) ex d h)
    · rw [if_neg q] at hr h
      have h8 := leaf_some (show (Br.leaf (.ret, ([.b false], [])) : Br (Ex × Dt)).run = some (ex, d) from h)
      obtain ⟨rfl, rfl⟩ := Prod.mk.inj h8
      exact .stop _ _ _ hr (by simp)
theorem gf2_loop (m : Nat) (u : List Int) (hm : m ≤ u.length) (hu : u.length ≤ 20) : ∀ (j i : Nat), i + j = m → ∀ ex d, (Br.br (onesB ((u.take m).drop i)) (.leaf (.exit 2, ([], []))) (.leaf (.ret, ([.b false], []))) : Br (Ex × Dt)).run = some (ex, d) →
    Runs Try.prog (look [(111, .rd1 withinG), (202, .rd1 wantG)]) (look [(6, gf1E), (16, gf2E)]) 0 (body Try.f178 1) gf2E ([.ref 0 0 m, .i .i64 (m : Int), .i .i64 (i : Int)], [some (.row false none (.int .i64) u)]) ex d
  | 0, i, hi, ex, d, h => by
    have hr := gf2_round m m i u
    rw [ifB_false (decide_eq_false (by omega))] at hr
    rw [List.drop_eq_nil_of_le (by simp; omega)] at h
    have h8 := leaf_some (show (Br.leaf (.exit 2, ([], [])) : Br (Ex × Dt)).run = some (ex, d) from h)
    obtain ⟨rfl, rfl⟩ := Prod.mk.inj h8
    exact .stop _ _ _ hr (by simp)
  | j + 1, i, hi, ex, d, h => by
    have hM : maxI = 9223372036854775807 := rfl
    have hlt : i < u.length := by omega
    have hr := gf2_round m m i u
    rw [ifB_true (decide_eq_true (by omega)), ifT_true (by simp only [Bool.and_eq_true, decide_eq_true_eq]; omega), Int.toNat_natCast, Nat.zero_add, List.getElem?_eq_getElem hlt, ifSome_s, wrap_succ (n := i) (by omega)] at hr
    have hd : (u.take m).drop i = u[i] :: (u.take m).drop (i + 1) := by
      rw [List.drop_eq_getElem_cons (by simp; omega)]
      simp
    have ec : onesB ((u.take m).drop i) = (u[i] == 1 && onesB ((u.take m).drop (i + 1))) := by rw [hd]; rfl
    rw [ec] at h
    by_cases q : u[i] = 1
    · rw [q] at hr h
      rw [ifB_false (by rfl)] at hr
      exact .step _ _ _ _ hr (gf2_loop m u hm hu j (i + 1) (by omega) ex d h)
    · rw [ifB_true (by simpa using q)] at hr
      rw [beq_false_of_ne q, Bool.false_and] at h
      have h8 := leaf_some (show (Br.leaf (.ret, ([.b false], [])) : Br (Ex × Dt)).run = some (ex, d) from h)
      obtain ⟨rfl, rfl⟩ := Prod.mk.inj h8
      exact .stop _ _ _ hr (by simp)
theorem gf_ok : LoopsOk Try.prog (look [(111, .rd1 withinG), (202, .rd1 wantG)]) (look [(6, gf1E), (16, gf2E)]) 0 (Try.f178.body.getD .skip) := by
  refine LoopsI.loops (cs := [body Try.f178 0, body Try.f178 1]) ?_ (by kernel_rfl)
  refine .cons (ent := gf1E) (by rfl) (fun d ex d' h => ?_) (.cons (ent := gf2E) (by rfl) (fun d ex d' h => ?_) .nil)
  · unfold gf1E at h
    dsimp only at h
    split at h
    · rename_i n m l k i u
      obtain ⟨hc, hx⟩ := need_some h
      clear h
      obtain ⟨h0, h1, rfl, rfl, h4, h5, h6⟩ := of_decide_eq_true hc
      obtain ⟨i, rfl⟩ := Int.eq_ofNat_of_zero_le h0
      simp only [Int.toNat_natCast] at h1 hx
      exact gf1_loop n l h5 (l.length - i) i u (by omega) h4 h6 ex d' hx
    · cases h
  · unfold gf2E at h
    dsimp only at h
    split at h
    · rename_i m k i u
      obtain ⟨hc, hx⟩ := need_some h
      clear h
      obtain ⟨h0, h1, rfl, h4, h5⟩ := of_decide_eq_true hc
      obtain ⟨i, rfl⟩ := Int.eq_ofNat_of_zero_le h0
      simp only [Int.toNat_natCast] at h1 hx
      exact gf2_loop m u h4 h5 (m - i) i (by omega) ex d' hx
    · cases h
theorem wgo_len : ∀ (l : List Wt) (i : Nat) (u : List Int) {v : List Int}, i + l.length ≤ u.length → (∀ x ∈ u, 0 ≤ x ∧ x ≤ 2 * (i : Int)) → wgo i l u = some v → v.length = u.length
  | [], i, u, v, hl, hu, h => by rw [wgo] at h; cases h; rfl
  | w :: l, i, u, v, hl, hu, h => by
    rw [wgo] at h
    split at h
    · rename_i q
      rw [List.length_cons] at hl
      obtain ⟨g1, g2⟩ := useW_le q (by omega) hu
      rw [wgo_len l (i + 1) _ (by omega) (by push_cast; exact g2) h, g1]
    · cases h
theorem sgoodF : Contract Try.prog 178 (Ent.rd1 goodFG).F := by
  refine fun_contract' (KnowsL.cons (enters_fn Try.func111 (by kernel_rfl) (by kernel_rfl)) l1In (KnowsL.cons (enters_fn Try.func202 (by kernel_rfl) (by kernel_rfl)) swant KnowsL.nil)).knows (Λ := (look [(6, gf1E), (16, gf2E)])) Try.func178 (c := Try.f178.body.getD .skip) (by kernel_rfl) fun vs bs r hq hv hb => ?_
  unfold Ent.F goodFG at hq
  dsimp only at hq
  split at hq
  · rename_i l
    refine ⟨gf_ok, Eq.trans ?_ hq⟩
    rw [gf_tree]
    unfold goodFB
    by_cases q : 1 ≤ l.length ∧ l.length ≤ 20
    rotate_left
    · rw [ifB_true (by rw [decide_eq_false (by omega)]; rfl), decide_eq_false q]; rfl
    have hz : ∀ x ∈ List.replicate l.length (0 : Int), 0 ≤ x ∧ x ≤ 2 * ((0 : Nat) : Int) := fun x hx => by
      have := List.eq_of_mem_replicate hx
      omega
    have hz0 : ∀ x ∈ List.replicate l.length (0 : Int), 0 ≤ x ∧ x ≤ 0 := fun x hx => by
      have := List.eq_of_mem_replicate hx
      omega
    have w1 : IntKind.i64.wrap ((l.length : Int) - 1) = ((l.length - 1 : Nat) : Int) := by rw [wrap_id (by omega) (by omega)]; omega
    simp only [Int.toNat_natCast, List.drop_zero, w1, Nat.sub_zero, nilT_eq]
    rw [decide_eq_true q, ifB_false (by rw [decide_eq_true (by omega)]; rfl), ifT_true (by simp only [Bool.and_eq_true, decide_eq_true_eq]; omega), ifT_true (decide_eq_true ⟨by omega, by omega, trivial, trivial, by simp, q.2, hz0⟩)]
    cases e : wgo 0 l (List.replicate l.length 0) with
    | none => rfl
    | some u =>
      have hl := wgo_len l 0 _ (by simp) hz e
      rw [List.length_replicate] at hl
      simp only [Option.isSome_some, Option.getD_some, ifB_t]
      rw [ifT_true (by simp only [Bool.and_eq_true, decide_eq_true_eq]; omega), ifT_true (decide_eq_true ⟨by omega, by omega, by trivial, by rw [hl]; omega, by rw [hl]; omega⟩)]
      cases onesB (u.take (l.length - 1)) <;> rfl
  · cases hq

/-- A cursor over drawn bytes. -/
structure Cur where
  l : List Int
  a : Int
  s : Int
def Cur.byte (c : Cur) : Int := if c.a < c.l.length then IntKind.i64.wrap (c.l.getD c.a.toNat 0) else 0
def Cur.seed (c : Cur) : Int := IntKind.u64.wrap (IntKind.u64.wrap (IntKind.u64.wrap (c.s * 6364136223846793005) + IntKind.u64.wrap c.byte) + 1442695040888963407)
/-- The number drawn. -/
def Cur.val (c : Cur) : Int := if c.a + 1 ≤ c.l.length then c.byte else IntKind.i64.wrap (IntKind.u64.wrap (((BitVec.ofInt IntKind.u64.bits (c.seed.fdiv ((2 : Int) ^ min 40 IntKind.u64.bits)) &&& BitVec.ofInt IntKind.u64.bits 255).toNat : Nat) : Int))
def Cur.adv (c : Cur) : Cur := ⟨c.l, c.a + 1, c.seed⟩
def Cur.good (c : Cur) (n : Int) : Prop := (∀ z ∈ c.l, 0 ≤ z ∧ z ≤ 255) ∧ 0 ≤ c.a ∧ c.a ≤ n
instance (c : Cur) (n : Int) : Decidable (c.good n) := by unfold Cur.good; exact inferInstance
def Cur.pickV (c : Cur) (n : Int) : Int := if n ≤ 1 then 0 else if n > 200 then (c.val * 256 + c.adv.val).tmod n else c.val.tmod n
def Cur.pickC (c : Cur) (n : Int) : Cur := if n ≤ 1 then c else if n > 200 then c.adv.adv else c.adv
def cnextG : List V → List Blk → Br (V × List (Option Blk))
  | [.ptr 0 0], [.box [.sl (.int .u8) l, .i .i64 a, .i .u64 s]] => .need (decide ((Cur.mk l a s).good 1000000000)) (.leaf (.i .i64 (Cur.mk l a s).val, [some (.box [.sl (.int .u8) (Cur.mk l a s).adv.l, .i .i64 (Cur.mk l a s).adv.a, .i .u64 (Cur.mk l a s).adv.s])]))
  | _, _ => .no

theorem Cur.byte_range {c : Cur} {n : Int} (h : c.good n) : 0 ≤ c.byte ∧ c.byte ≤ 255 := by
  unfold Cur.byte
  split
  · rename_i ha
    have h0 := h.2.1
    have hi : c.a.toNat < c.l.length := by omega
    have hz := h.1 _ (List.getElem_mem hi)
    have eg : c.l.getD c.a.toNat 0 = c.l[c.a.toNat] := by simp [hi]
    rw [eg, wrap_id (by omega) (by omega)]
    exact hz
  · omega
theorem Cur.val_range {c : Cur} {n : Int} (h : c.good n) : 0 ≤ c.val ∧ c.val ≤ 255 := by
  unfold Cur.val
  split
  · exact Cur.byte_range h
  · generalize BitVec.ofInt IntKind.u64.bits (c.seed.fdiv ((2 : Int) ^ min 40 IntKind.u64.bits)) = x
    have hx : (x &&& BitVec.ofInt IntKind.u64.bits 255).toNat ≤ 255 := by
      rw [BitVec.toNat_and]
      exact Nat.le_trans Nat.and_le_right (by decide)
    generalize (x &&& BitVec.ofInt IntKind.u64.bits 255).toNat = m at hx
    have e1 : IntKind.u64.wrap (m : Int) = (m : Int) := by
      unfold IntKind.wrap
      simp [IntKind.bits, IntKind.signed]
      omega
    rw [e1, wrap_id (by omega) (by omega)]
    omega
theorem Cur.adv_good {c : Cur} {n : Int} (h : c.good n) : c.adv.good (n + 1) := ⟨h.1, by show 0 ≤ c.a + 1; have := h.2.1; omega, by show c.a + 1 ≤ n + 1; have := h.2.2; omega⟩
theorem Cur.good_mono {c : Cur} {n m : Int} (h : c.good n) (hm : n ≤ m) : c.good m := ⟨h.1, h.2.1, by have := h.2.2; omega⟩
theorem Cur.pickC_good {c : Cur} {n k : Int} (h : c.good n) : (c.pickC k).good (n + 2) := by
  unfold Cur.pickC
  split
  · exact Cur.good_mono h (by omega)
  · split
    · have := Cur.adv_good (Cur.adv_good h)
      exact Cur.good_mono this (by omega)
    · exact Cur.good_mono (Cur.adv_good h) (by omega)
theorem Cur.pickV_range {c : Cur} {n k : Int} (h : c.good n) (hk : 1 ≤ k) : 0 ≤ c.pickV k ∧ c.pickV k < k := by
  have h1 := Cur.val_range h
  have h2 := Cur.val_range (Cur.adv_good h)
  unfold Cur.pickV
  split
  · omega
  · split
    · rw [Int.tmod_eq_emod_of_nonneg (by omega)]
      exact ⟨Int.emod_nonneg _ (by omega), Int.emod_lt_of_pos _ (by omega)⟩
    · rw [Int.tmod_eq_emod_of_nonneg (by omega)]
      exact ⟨Int.emod_nonneg _ (by omega), Int.emod_lt_of_pos _ (by omega)⟩
theorem cnext_fun (l : List Int) (a s : Int) (hc : (Cur.mk l a s).good 1000000000) : funK Try.prog (look []) (look []) Try.f119 [.ptr 0 0] [.box [.sl (.int .u8) l, .i .i64 a, .i .u64 s]] = (.leaf (.i .i64 (Cur.mk l a s).val, [some (.box [.sl (.int .u8) (Cur.mk l a s).adv.l, .i .i64 (Cur.mk l a s).adv.a, .i .u64 (Cur.mk l a s).adv.s])]) : Br (V × List (Option Blk))).run := by
  have e : funK Try.prog (look []) (look []) Try.f119 [.ptr 0 0] [.box [.sl (.int .u8) l, .i .i64 a, .i .u64 s]] =
    ((ifB (decide (a < (↑l.length : Int))) (ifT (decide ((0 : Int) ≤ a) && decide (a < (↑l.length : Int))) (ifSome l[a.toNat]? fun z => ifB (decide (IntKind.i64.wrap (a + (1 :
 Int)) ≤ (↑l.length : Int))) (some (V.i .i64 (IntKind.i64.wrap z), [some (Blk.box [V.sl (Cd.int .u8) l, V.i .i64 (IntKind.i64.wrap (a + (1 : Int))), V.i .u64
 (IntKind.u64.wrap (IntKind.u64.wrap (IntKind.u64.wrap (s * (6364136223846793005 : Int)) + IntKind.u64.wrap (IntKind.i64.wrap z)) + (1442695040888963407 : Int)))])]))
 (some (V.i .i64 (IntKind.i64.wrap (IntKind.u64.wrap (↑(BitVec.ofInt IntKind.u64.bits ((IntKind.u64.wrap (IntKind.u64.wrap (IntKind.u64.wrap (s * (6364136223846793005 :
 Int)) + IntKind.u64.wrap (IntKind.i64.wrap z)) + (1442695040888963407 : Int))).fdiv ((2 : Int) ^ min (40 : Nat) IntKind.u64.bits)) &&& BitVec.ofInt IntKind.u64.bits (255
 : Int)).toNat : Int))), [some (Blk.box [V.sl (Cd.int .u8) l, V.i .i64 (IntKind.i64.wrap (a + (1 : Int))), V.i .u64 (IntKind.u64.wrap (IntKind.u64.wrap (IntKind.u64.wrap
 (s * (6364136223846793005 : Int)) + IntKind.u64.wrap (IntKind.i64.wrap z)) + (1442695040888963407 : Int)))])])))) (ifB (decide (IntKind.i64.wrap (a + (1 : Int)) ≤
 (↑l.length : Int))) (some (V.i .i64 0, [some (Blk.box [V.sl (Cd.int .u8) l, V.i .i64 (IntKind.i64.wrap (a + (1 : Int))), V.i .u64 (IntKind.u64.wrap (IntKind.u64.wrap
 (IntKind.u64.wrap (s * (6364136223846793005 : Int)) + IntKind.u64.wrap (0 : Int)) + (1442695040888963407 : Int)))])])) (some (V.i .i64 (IntKind.i64.wrap (IntKind.u64.wrap
 (↑(BitVec.ofInt IntKind.u64.bits ((IntKind.u64.wrap (IntKind.u64.wrap (IntKind.u64.wrap (s * (6364136223846793005 : Int)) + IntKind.u64.wrap (0 : Int)) +
 (1442695040888963407 : Int))).fdiv ((2 : Int) ^ min (40 : Nat) IntKind.u64.bits)) &&& BitVec.ofInt IntKind.u64.bits (255 : Int)).toNat : Int))), [some (Blk.box [V.sl
 (Cd.int .u8) l, V.i .i64 (IntKind.i64.wrap (a + (1 : Int))), V.i .u64 (IntKind.u64.wrap (IntKind.u64.wrap (IntKind.u64.wrap (s * (6364136223846793005 : Int)) +
 IntKind.u64.wrap (0 : Int)) + (1442695040888963407 : Int)))])])))) : _) := by kernel_rfl
  rw [e]
  clear e
  have h0 := hc.2.1
  have h1 := hc.2.2
  dsimp only at h0 h1
  rw [wrap_id (n := a + 1) (by omega) (by omega)]
  by_cases q : a < (l.length : Int)
  · have hi : a.toNat < l.length := by omega
    have eb : (Cur.mk l a s).byte = IntKind.i64.wrap l[a.toNat] := by unfold Cur.byte; dsimp only; rw [if_pos q]; simp [hi]
    have q1 : a + 1 ≤ (l.length : Int) := by omega
    rw [ifB_true (decide_eq_true q), ifT_true (by simp only [Bool.and_eq_true, decide_eq_true_eq]; omega), List.getElem?_eq_getElem hi, ifSome_s, ifB_true (decide_eq_true q1), ← eb]
    have ev : (Cur.mk l a s).val = (Cur.mk l a s).byte := by unfold Cur.val; dsimp only; rw [if_pos q1]
    rw [ev]
    rfl
  · have eb : (Cur.mk l a s).byte = 0 := by unfold Cur.byte; dsimp only; rw [if_neg q]
    have q1 : ¬ a + 1 ≤ (l.length : Int) := by omega
    rw [ifB_false (decide_eq_false q), ifB_false (decide_eq_false q1), ← eb]
    have ev : (Cur.mk l a s).val = IntKind.i64.wrap (IntKind.u64.wrap (((BitVec.ofInt IntKind.u64.bits ((Cur.mk l a s).seed.fdiv ((2 : Int) ^ min 40 IntKind.u64.bits)) &&& BitVec.ofInt IntKind.u64.bits 255).toNat : Nat) : Int)) := by unfold Cur.val; dsimp only; rw [if_neg q1]
    rw [ev]
    rfl
theorem cnext : Contract Try.prog 119 (Ent.own cnextG).F := by
  refine fun_contract' KnowsL.nil.knows (Λ := look []) Try.func119 (c := Try.f119.body.getD .skip) (by kernel_rfl) fun vs bs r h hv hb => ?_
  unfold Ent.F cnextG at h
  dsimp only at h
  split at h
  · rename_i l a s
    obtain ⟨hc, h⟩ := need_some h
    exact ⟨loopsOk_nil _, (cnext_fun l a s (of_decide_eq_true hc)).trans h⟩
  · cases h

def cpickG : List V → List Blk → Br (V × List (Option Blk))
  | [.ptr 0 0, .i .i64 n], [.box [.sl (.int .u8) l, .i .i64 a, .i .u64 s]] => .need (decide ((Cur.mk l a s).good 900000000)) (.leaf (.i .i64 ((Cur.mk l a s).pickV n), [some (.box [.sl (.int .u8) ((Cur.mk l a s).pickC n).l, .i .i64 ((Cur.mk l a s).pickC n).a, .i .u64 ((Cur.mk l a s).pickC n).s])]))
  | _, _ => .no
def coneG : List V → List Blk → Br (V × List (Option Blk))
  | [.ptr 0 0, .i .i64 n], [.box [.sl (.int .u8) l, .i .i64 a, .i .u64 s]] => .need (decide ((Cur.mk l a s).good 900000000)) (.leaf (.b ((Cur.mk l a s).pickV n == 0), [some (.box [.sl (.int .u8) ((Cur.mk l a s).pickC n).l, .i .i64 ((Cur.mk l a s).pickC n).a, .i .u64 ((Cur.mk l a s).pickC n).s])]))
  | _, _ => .no
def camongG : List V → List Blk → Br (V × List (Option Blk))
  | [.ptr 0 0, .ref 1 p m], [.box [.sl (.int .u8) l, .i .i64 a, .i .u64 s], .row false nl (.int .i64) r] => .need (decide ((Cur.mk l a s).good 900000000 ∧ 1 ≤ m ∧ p + m ≤ r.length)) (.leaf (.i .i64 (r.getD (p + ((Cur.mk l a s).pickV m).toNat) 0), [some (.box [.sl (.int .u8) ((Cur.mk l a s).pickC m).l, .i .i64 ((Cur.mk l a s).pickC m).a, .i .u64 ((Cur.mk l a s).pickC m).s]), some (.row false nl (.int .i64) r)]))
  | _, _ => .no
def cofG : List V → List Blk → Br (V × List (Option Blk))
  | [.ptr 0 0, .ref 1 p m], [.box [.sl (.int .u8) l, .i .i64 a, .i .u64 s], .row false nl .str r] => .need (decide ((Cur.mk l a s).good 900000000 ∧ 1 ≤ m ∧ p + m ≤ r.length)) (.leaf (.s (r.getD (p + ((Cur.mk l a s).pickV m).toNat) []), [some (.box [.sl (.int .u8) ((Cur.mk l a s).pickC m).l, .i .i64 ((Cur.mk l a s).pickC m).a, .i .u64 ((Cur.mk l a s).pickC m).s]), some (.row false nl .str r)]))
  | _, _ => .no

theorem cpick_fun (n : Int) (l : List Int) (a s : Int) (hc : (Cur.mk l a s).good 900000000) : funK Try.prog (look [(119, .own cnextG)]) (look []) Try.f56 [.ptr 0 0, .i .i64 n] [.box [.sl (.int .u8) l, .i .i64 a, .i .u64 s]] = (.leaf (.i .i64 ((Cur.mk l a s).pickV n), [some (.box [.sl (.int .u8) ((Cur.mk l a s).pickC n).l, .i .i64 ((Cur.mk l a s).pickC n).a, .i .u64 ((Cur.mk l a s).pickC n).s])]) : Br (V × List (Option Blk))).run := by
  have e : funK Try.prog (look [(119, .own cnextG)]) (look []) Try.f56 [.ptr 0 0, .i .i64 n] [.box [.sl (.int .u8) l, .i .i64 a, .i .u64 s]] =
    ((ifB (decide (n ≤ (1 : Int))) (some (V.i .i64 0, [some (Blk.box [V.sl (Cd.int .u8) l, V.i .i64 a, V.i .u64 s])])) (ifT (decide ((Cur.mk l a s).good (1000000000 : Int)))
 (ifB (decide (n > (200 : Int))) (ifT (decide ((Cur.mk l a s).adv.good (1000000000 : Int))) (ifT (!decide (n = (0 : Int))) (some (V.i .i64 ((IntKind.i64.wrap
 (IntKind.i64.wrap ((Cur.mk l a s).val * (256 : Int)) + (Cur.mk l a s).adv.val)).tmod n), [some (Blk.box [V.sl (Cd.int .u8) (Cur.mk l a s).adv.adv.l, V.i .i64 (Cur.mk l a
 s).adv.adv.a, V.i .u64 (Cur.mk l a s).adv.adv.s])])))) (ifT (!decide (n = (0 : Int))) (some (V.i .i64 ((Cur.mk l a s).val.tmod n), [some (Blk.box [V.sl (Cd.int .u8)
 (Cur.mk l a s).adv.l, V.i .i64 (Cur.mk l a s).adv.a, V.i .u64 (Cur.mk l a s).adv.s])])))))) : _) := by kernel_rfl
  rw [e]
  clear e
  have g0 : (Cur.mk l a s).good 1000000000 := Cur.good_mono hc (by omega)
  have g1 : (Cur.mk l a s).adv.good 1000000000 := Cur.good_mono (Cur.adv_good hc) (by omega)
  have r0 := Cur.val_range g0
  have r1 := Cur.val_range g1
  unfold Cur.pickV Cur.pickC
  try rw [show Cur.mk (Cur.mk l a s).adv.l (Cur.mk l a s).adv.a (Cur.mk l a s).adv.s = (Cur.mk l a s).adv from rfl]
  by_cases q : n ≤ 1
  · rw [ifB_true (decide_eq_true q), if_pos q, if_pos q]; rfl
  · rw [ifB_false (decide_eq_false q), ifT_true (decide_eq_true g0), if_neg q, if_neg q]
    by_cases q2 : n > 200
    · rw [ifB_true (decide_eq_true q2), ifT_true (decide_eq_true g1), ifT_true (by simp; omega), if_pos q2, if_pos q2, wrap_id (n := (Cur.mk l a s).val * 256) (by omega) (by omega), wrap_id (by omega) (by omega)]; rfl
    · rw [ifB_false (decide_eq_false q2), ifT_true (by simp; omega), if_neg q2, if_neg q2]; rfl
theorem cpick : Contract Try.prog 56 (Ent.own cpickG).F := by
  refine fun_contract' (KnowsL.cons (enters_fn Try.func119 (by kernel_rfl) (by kernel_rfl)) cnext KnowsL.nil).knows (Λ := look []) Try.func56 (c := Try.f56.body.getD .skip) (by kernel_rfl) fun vs bs r h hv hb => ?_
  unfold Ent.F cpickG at h
  dsimp only at h
  split at h
  · rename_i n l a s
    obtain ⟨hc, h⟩ := need_some h
    exact ⟨loopsOk_nil _, (cpick_fun n l a s (of_decide_eq_true hc)).trans h⟩
  · cases h
theorem cone_fun (n : Int) (l : List Int) (a s : Int) (hc : (Cur.mk l a s).good 900000000) : funK Try.prog (look [(56, .own cpickG)]) (look []) Try.f85 [.ptr 0 0, .i .i64 n] [.box [.sl (.int .u8) l, .i .i64 a, .i .u64 s]] = (.leaf (.b ((Cur.mk l a s).pickV n == 0), [some (.box [.sl (.int .u8) ((Cur.mk l a s).pickC n).l, .i .i64 ((Cur.mk l a s).pickC n).a, .i .u64 ((Cur.mk l a s).pickC n).s])]) : Br (V × List (Option Blk))).run := by
  have e : funK Try.prog (look [(56, .own cpickG)]) (look []) Try.f85 [.ptr 0 0, .i .i64 n] [.box [.sl (.int .u8) l, .i .i64 a, .i .u64 s]] =
    ((ifT (decide ((Cur.mk l a s).good (900000000 : Int))) (some (V.b ((Cur.mk l a s).pickV n == (0 : Int)), [some (Blk.box [V.sl (Cd.int .u8) ((Cur.mk l a s).pickC n).l, V.i
 .i64 ((Cur.mk l a s).pickC n).a, V.i .u64 ((Cur.mk l a s).pickC n).s])]))) : _) := by kernel_rfl
  rw [e, ifT_true (decide_eq_true hc)]
  rfl
theorem cone : Contract Try.prog 85 (Ent.own coneG).F := by
  refine fun_contract' (KnowsL.cons (enters_fn Try.func56 (by kernel_rfl) (by kernel_rfl)) cpick KnowsL.nil).knows (Λ := look []) Try.func85 (c := Try.f85.body.getD .skip) (by kernel_rfl) fun vs bs r h hv hb => ?_
  unfold Ent.F coneG at h
  dsimp only at h
  split at h
  · rename_i n l a s
    obtain ⟨hc, h⟩ := need_some h
    exact ⟨loopsOk_nil _, (cone_fun n l a s (of_decide_eq_true hc)).trans h⟩
  · cases h
theorem camong_fun (p m : Nat) (l : List Int) (a s : Int) (nl : Option Bool) (r : List Int) (hc : (Cur.mk l a s).good 900000000 ∧ 1 ≤ m ∧ p + m ≤ r.length) : funK Try.prog (look [(56, .own cpickG)]) (look []) Try.f133 [.ptr 0 0, .ref 1 p m] [.box [.sl (.int .u8) l, .i .i64 a, .i .u64 s], .row false nl (.int .i64) r] = (.leaf (.i .i64 (r.getD (p + ((Cur.mk l a s).pickV m).toNat) 0), [some (.box [.sl (.int .u8) ((Cur.mk l a s).pickC m).l, .i .i64 ((Cur.mk l a s).pickC m).a, .i .u64 ((Cur.mk l a s).pickC m).s]), some (.row false nl (.int .i64) r)]) : Br (V × List (Option Blk))).run := by
  have e : funK Try.prog (look [(56, .own cpickG)]) (look []) Try.f133 [.ptr 0 0, .ref 1 p m] [.box [.sl (.int .u8) l, .i .i64 a, .i .u64 s], .row false nl (.int .i64) r] =
    ((ifT (decide ((Cur.mk l a s).good (900000000 : Int))) (ifT (decide ((0 : Int) ≤ (Cur.mk l a s).pickV (↑m : Int)) && decide ((Cur.mk l a s).pickV (↑m : Int) < (↑m : Int)))
 (ifSome r[p + ((Cur.mk l a s).pickV (↑m : Int)).toNat]? fun z => some (V.i .i64 z, [some (Blk.box [V.sl (Cd.int .u8) ((Cur.mk l a s).pickC (↑m : Int)).l, V.i .i64
 ((Cur.mk l a s).pickC (↑m : Int)).a, V.i .u64 ((Cur.mk l a s).pickC (↑m : Int)).s]), some (Blk.row false nl (Cd.int .i64) r)])))) : _) := by kernel_rfl
  obtain ⟨h1, h2, h3⟩ := hc
  have hr := Cur.pickV_range (k := (m : Int)) h1 (by omega)
  have hi : p + ((Cur.mk l a s).pickV m).toNat < r.length := by omega
  have eg : r.getD (p + ((Cur.mk l a s).pickV m).toNat) 0 = r[p + ((Cur.mk l a s).pickV m).toNat] := by simp [hi]
  rw [e, ifT_true (decide_eq_true h1), ifT_true (by simp only [Bool.and_eq_true, decide_eq_true_eq]; omega), List.getElem?_eq_getElem hi, ifSome_s, eg]
  rfl
theorem camong : Contract Try.prog 133 (Ent.own camongG).F := by
  refine fun_contract' (KnowsL.cons (enters_fn Try.func56 (by kernel_rfl) (by kernel_rfl)) cpick KnowsL.nil).knows (Λ := look []) Try.func133 (c := Try.f133.body.getD .skip) (by kernel_rfl) fun vs bs r h hv hb => ?_
  unfold Ent.F camongG at h
  dsimp only at h
  split at h
  · rename_i p m l a s nl r
    obtain ⟨hc, h⟩ := need_some h
    exact ⟨loopsOk_nil _, (camong_fun p m l a s nl r (of_decide_eq_true hc)).trans h⟩
  · cases h
theorem cof_fun (p m : Nat) (l : List Int) (a s : Int) (nl : Option Bool) (r : List (List UInt8)) (hc : (Cur.mk l a s).good 900000000 ∧ 1 ≤ m ∧ p + m ≤ r.length) : funK Try.prog (look [(56, .own cpickG)]) (look []) Try.f137 [.ptr 0 0, .ref 1 p m] [.box [.sl (.int .u8) l, .i .i64 a, .i .u64 s], .row false nl .str r] = (.leaf (.s (r.getD (p + ((Cur.mk l a s).pickV m).toNat) []), [some (.box [.sl (.int .u8) ((Cur.mk l a s).pickC m).l, .i .i64 ((Cur.mk l a s).pickC m).a, .i .u64 ((Cur.mk l a s).pickC m).s]), some (.row false nl .str r)]) : Br (V × List (Option Blk))).run := by
  have e : funK Try.prog (look [(56, .own cpickG)]) (look []) Try.f137 [.ptr 0 0, .ref 1 p m] [.box [.sl (.int .u8) l, .i .i64 a, .i .u64 s], .row false nl .str r] =
    ((ifT (decide ((Cur.mk l a s).good (900000000 : Int))) (ifT (decide ((0 : Int) ≤ (Cur.mk l a s).pickV (↑m : Int)) && decide ((Cur.mk l a s).pickV (↑m : Int) < (↑m : Int)))
 (ifSome r[p + ((Cur.mk l a s).pickV (↑m : Int)).toNat]? fun z => some (V.s z, [some (Blk.box [V.sl (Cd.int .u8) ((Cur.mk l a s).pickC (↑m : Int)).l, V.i .i64 ((Cur.mk l a
 s).pickC (↑m : Int)).a, V.i .u64 ((Cur.mk l a s).pickC (↑m : Int)).s]), some (Blk.row false nl Cd.str r)])))) : _) := by kernel_rfl
  obtain ⟨h1, h2, h3⟩ := hc
  have hr := Cur.pickV_range (k := (m : Int)) h1 (by omega)
  have hi : p + ((Cur.mk l a s).pickV m).toNat < r.length := by omega
  have eg : r.getD (p + ((Cur.mk l a s).pickV m).toNat) [] = r[p + ((Cur.mk l a s).pickV m).toNat] := by simp [hi]
  rw [e, ifT_true (decide_eq_true h1), ifT_true (by simp only [Bool.and_eq_true, decide_eq_true_eq]; omega), List.getElem?_eq_getElem hi, ifSome_s, eg]
  rfl
theorem cof : Contract Try.prog 137 (Ent.own cofG).F := by
  refine fun_contract' (KnowsL.cons (enters_fn Try.func56 (by kernel_rfl) (by kernel_rfl)) cpick KnowsL.nil).knows (Λ := look []) Try.func137 (c := Try.f137.body.getD .skip) (by kernel_rfl) fun vs bs r h hv hb => ?_
  unfold Ent.F cofG at h
  dsimp only at h
  split at h
  · rename_i p m l a s nl r
    obtain ⟨hc, h⟩ := need_some h
    exact ⟨loopsOk_nil _, (cof_fun p m l a s nl r (of_decide_eq_true hc)).trans h⟩
  · cases h

/-- A part of a tree that stands in it more than once. -/
def shr {α β : Type} (a : α) (k : α → β) : β := k a
/-- An answer of a shape. -/
def Ex1 {β Y : Type} (t : Option β) (sh : Y → β) (Q : Y → Prop) : Prop := ∃ y, t = some (sh y) ∧ Q y
/-- A cursor's box. -/
def cB (c : Cur) : Blk := .box [.sl (.int .u8) c.l, .i .i64 c.a, .i .u64 c.s]

theorem cB_fold (c : Cur) : Blk.box [V.sl (Cd.int IntKind.u8) c.l, V.i IntKind.i64 c.a, V.i IntKind.u64 c.s] = cB c := rfl
theorem Cur.pk {c : Cur} {m k : Int} (h : c.good (m - 2)) : (c.pickC k).good m := by
  have := Cur.pickC_good (k := k) h
  rwa [Int.sub_add_cancel] at this
theorem Ex1.sh {α β Y : Type} {a : α} {k : α → Option β} {sh : Y → β} {Q : Y → Prop} (h : Ex1 (k a) sh Q) : Ex1 (shr a k) sh Q := h
theorem Ex1.T {β Y : Type} {c : Bool} {x : Option β} {sh : Y → β} {Q : Y → Prop} (h : c = true) (k : Ex1 x sh Q) : Ex1 (ifT c x) sh Q := by subst h; exact k
theorem Ex1.B {β Y : Type} {c : Bool} {x y : Option β} {sh : Y → β} {Q : Y → Prop} (h1 : c = true → Ex1 x sh Q) (h2 : c = false → Ex1 y sh Q) : Ex1 (ifB c x y) sh Q := by
  cases c with
  | true => exact h1 rfl
  | false => exact h2 rfl
theorem Ex1.S {α β Y : Type} {o : Option α} {k : α → Option β} {sh : Y → β} {Q : Y → Prop} (h : ∃ z, o = some z) (hk : ∀ z, o = some z → Ex1 (k z) sh Q) : Ex1 (ifSome o k) sh Q := by
  obtain ⟨z, rfl⟩ := h
  exact hk z rfl
theorem Ex1.L {β Y : Type} {b : β} {sh : Y → β} {Q : Y → Prop} (y : Y) (h : b = sh y) (q : Q y) : Ex1 (some b) sh Q := ⟨y, by rw [h], q⟩
theorem Ex1.P {α β Y : Type} {a : α} {b : β} {sh : Y → α × β} {Q : Y → Prop} (y : Y) (h2 : b = (sh y).2) (h1 : a = (sh y).1) (q : Q y) : Ex1 (some (a, b)) sh Q := ⟨y, by rw [h1, h2], q⟩
theorem Ex1.c {Y : Type} {v : V} {c : Cur} {B : List (Option Blk)} {s1 : Y × Cur → V} {s2 : Y × Cur → List (Option Blk)} {Q : Y × Cur → Prop} (y : Y) (h2 : B = s2 (y, c)) (h1 : v = s1 (y, c)) (q : Q (y, c)) : Ex1 (some (v, some (cB c) :: B)) (fun y => (s1 y, some (cB y.2) :: s2 y)) Q := ⟨(y, c), by rw [h1, h2], q⟩
theorem Ex1.c2 {Y : Type} {v : V} {c : Cur} {B : List (Option Blk)} {s1 : Y × Cur → V} {s2 : Y × Cur → List (Option Blk)} {Q : Y × Cur → Prop} (y : Y) (h2 : B = s2 (y, c)) (h1 : v = s1 (y, c)) (q : Q (y, c)) : Ex1 (some (v, some (cB c) :: none :: B)) (fun y => (s1 y, some (cB y.2) :: none :: s2 y)) Q := ⟨(y, c), by rw [h1, h2], q⟩
theorem Ex1.lc {A : Type} {e : Ex} {vs : List V} {c : Cur} {B : List (Option Blk)} {s0 : Cur × A → Ex} {s1 : Cur × A → List V} {s2 : Cur × A → List (Option Blk)} {Q : Cur × A → Prop} (a : A) (h3 : B = s2 (c, a)) (h2 : vs = s1 (c, a)) (h1 : e = s0 (c, a)) (q : Q (c, a)) : Ex1 (some (e, vs, some (cB c) :: B)) (fun y => (s0 y, s1 y, some (cB y.1) :: s2 y)) Q := ⟨(c, a), by rw [h1, h2, h3], q⟩
theorem Ex1.of {β Y : Type} {t t' : Option β} {sh : Y → β} {Q : Y → Prop} (e : t = t') (k : Ex1 t' sh Q) : Ex1 t sh Q := by subst e; exact k
/-- What there is for each is told by a function. -/
theorem pick_fn {X Y : Type} (y0 : Y) {I : X → Prop} {R : X → Y → Prop} (h : ∀ x, I x → ∃ y, R x y) : ∃ f : X → Y, ∀ x, I x → R x (f x) := by
  classical
  exact ⟨fun x => if hx : I x then (h x hx).choose else y0, fun x hx => by simp only [dif_pos hx]; exact (h x hx).choose_spec⟩
/-- The same, whatever the loop is said to make. -/
theorem loop_exo {ι : Type} (o0 : ι) {P : Program} {Γ : FuncId → Option Ent} {Λ : ι → Nat → Option LoopEnt} {m : Nat} {a : Code} {ent : ι → LoopEnt} {X Y : Type} (H : X → Dt) (E : Y → Ex × Dt) (hE : ∀ y, (E y).1 ≠ .normal) (I : X → Prop) (Q : X → Y → Prop) (μ : X → Nat)
    (hT : ∀ o x, I x → roundK P Γ (Λ o) m a (ent o) (H x) = roundK P Γ (Λ o0) m a (ent o0) (H x))
    (hr : ∀ x, I x → Ex1 (roundK P Γ (Λ o0) m a (ent o0) (H x)) E (Q x) ∨ Ex1 (roundK P Γ (Λ o0) m a (ent o0) (H x)) (fun x' => (.normal, H x')) (fun x' => I x' ∧ μ x' < μ x ∧ ∀ y, Q x' y → Q x y)) :
    ∀ x, I x → ∃ y, (∀ o, Runs P Γ (Λ o) m a (ent o) (H x) (E y).1 (E y).2) ∧ Q x y := by
  have key : ∀ n x, μ x ≤ n → I x → ∃ y, (∀ o, Runs P Γ (Λ o) m a (ent o) (H x) (E y).1 (E y).2) ∧ Q x y := by
    intro n
    induction n with
    | zero =>
      intro x hx hI
      rcases hr x hI with ⟨y, h1, h2⟩ | ⟨x', h1, h2, h3, h4⟩
      · exact ⟨y, fun o => .stop _ _ _ ((hT o x hI).trans h1) (hE y), h2⟩
      · omega
    | succ n ih =>
      intro x hx hI
      rcases hr x hI with ⟨y, h1, h2⟩ | ⟨x', h1, h2, h3, h4⟩
      · exact ⟨y, fun o => .stop _ _ _ ((hT o x hI).trans h1) (hE y), h2⟩
      · obtain ⟨y, h5, h6⟩ := ih x' (by omega) h2
        exact ⟨y, fun o => .step _ _ _ _ ((hT o x hI).trans h1) (h5 o), h4 y h6⟩
  exact fun x hI => key (μ x) x (Nat.le_refl _) hI
theorem ex_at {α : Type} {l : List α} {i : Nat} (h : i < l.length) : ∃ z, l[i]? = some z := ⟨_, List.getElem?_eq_getElem h⟩
theorem pick_at {α : Type} {c : Cur} {n : Int} {W : List α} (h : c.good n) (h1 : 1 ≤ W.length) : (c.pickV (W.length : Int)).toNat < W.length := by
  have := Cur.pickV_range (k := (W.length : Int)) h (by omega)
  omega
theorem pick_b {α : Type} {c : Cur} {n : Int} {W : List α} (h : c.good n) (h1 : 1 ≤ W.length) : (decide (0 ≤ c.pickV (W.length : Int)) && decide (c.pickV (W.length : Int) < (W.length : Int))) = true := by
  have := Cur.pickV_range (k := (W.length : Int)) h (by omega)
  simp only [Bool.and_eq_true, decide_eq_true_eq]
  exact this
/-- An instruction: code, kind, number of a field, number, text, place. -/
abbrev Ins := Int × Int × Int × Int × List UInt8 × Int × Unit
def wAt (l : List Wt) (i : Nat) : Wt := l.getD i (0, 0, 0, [], 0, 0, ())
def wantsB (l : List Wt) : Bool := (List.range l.length).all fun i => wantB (wAt l i) (i : Int)
def cm0G (n : Nat) (f : List Wt → Nat → List Ins) : List V → List Blk → Br (V × List (Option Blk))
  | [.agg [.sl (.pair (.int .i64) (.pair (.int .i64) (.pair (.int .i64) (.pair .str (.pair (.int .i64) (.pair (.int .i64) .unit)))))) l], .i .i64 k, .nl], [] => .need (decide (0 ≤ k ∧ k.toNat < l.length ∧ l.length ≤ 20 ∧ k.toNat < n) && wantsB l) (.leaf (.ref 0 0 (f l k.toNat).length, [some (.row false none (.pair (.int .i64) (.pair (.int .i64) (.pair (.int .i64) (.pair (.int .i64) (.pair .str (.pair (.int .i64) .unit)))))) (f l k.toNat))]))
  | _, _ => .no
def cm1G (n : Nat) (g : List Wt → Nat → List Ins → List Ins) : List V → List Blk → Br (V × List (Option Blk))
  | [.agg [.sl (.pair (.int .i64) (.pair (.int .i64) (.pair (.int .i64) (.pair .str (.pair (.int .i64) (.pair (.int .i64) .unit)))))) l], .i .i64 k, .ref 0 0 m], [.row false _ (.pair (.int .i64) (.pair (.int .i64) (.pair (.int .i64) (.pair (.int .i64) (.pair .str (.pair (.int .i64) .unit)))))) o] => .need (decide (0 ≤ k ∧ k.toNat < l.length ∧ l.length ≤ 20 ∧ k.toNat < n ∧ m = o.length ∧ o.length + 2 * 2 ^ k.toNat ≤ 8000000) && wantsB l) (.leaf (.ref 1 0 (g l k.toNat o).length, [none, some (.row false none (.pair (.int .i64) (.pair (.int .i64) (.pair (.int .i64) (.pair (.int .i64) (.pair .str (.pair (.int .i64) .unit)))))) (g l k.toNat o))]))
  | _, _ => .no
def cmG (n : Nat) (f : List Wt → Nat → List Ins) (g : List Wt → Nat → List Ins → List Ins) (vs : List V) (bs : List Blk) : Br (V × List (Option Blk)) := match vs with
  | [_, _, .nl] => cm0G n f vs bs
  | _ => cm1G n g vs bs
def cmpG (f : List Wt → List Ins) : List V → List Blk → Br (V × List (Option Blk))
  | [.agg [.sl (.pair (.int .i64) (.pair (.int .i64) (.pair (.int .i64) (.pair .str (.pair (.int .i64) (.pair (.int .i64) .unit)))))) l]], [] => .leaf (.tup [.agg [.ref 0 0 (f l).length], .b (goodFB l)], [some (.row false none (.pair (.int .i64) (.pair (.int .i64) (.pair (.int .i64) (.pair (.int .i64) (.pair .str (.pair (.int .i64) .unit)))))) (f l))])
  | _, _ => .no

theorem cm0_tree (n : Nat) (f : List Wt → Nat → List Ins) (g : List Wt → Nat → List Ins → List Ins) (l : List Wt) (k : Int) : funC Try.prog (look [(179, .own (cmG n f g))]) (look []) Try.f179 [.agg [.sl (.pair (.int .i64) (.pair (.int .i64) (.pair (.int .i64) (.pair .str (.pair (.int .i64) (.pair (.int .i64) .unit)))))) l], .i .i64 k, .nl] [] =
  ((shr (nilT ((Cd.int .i64).pair ((Cd.int .i64).pair ((Cd.int .i64).pair ((Cd.int .i64).pair (Cd.str.pair ((Cd.int .i64).pair Cd.unit)))))).den) fun sh1 => ifT (decide ((0 :
 Int) ≤ k) && decide (k < (↑l.length : Int))) (ifSome l[k.toNat]? fun z => ifB (z.fst == (8 : Int)) (ifT (decide ((0 : Int) ≤ z.snd.snd.snd.snd.fst ∧ Int.toNat
 z.snd.snd.snd.snd.fst < l.length ∧ l.length ≤ (20 : Nat) ∧ Int.toNat z.snd.snd.snd.snd.fst < n) && wantsB l) (ifT (decide (((f l (Int.toNat z.snd.snd.snd.snd.fst)).length
 + (1 : Nat)) * (56 : Nat) ≤ (140737488355328 : Nat)) && decide ((f l (Int.toNat z.snd.snd.snd.snd.fst)).length + (1 : Nat) ≤ maxI)) (some (V.ref 0 0 ((f l (Int.toNat
 z.snd.snd.snd.snd.fst)).length + (1 : Nat)), [some (Blk.row false none ((Cd.int .i64).pair ((Cd.int .i64).pair ((Cd.int .i64).pair ((Cd.int .i64).pair (Cd.str.pair
 ((Cd.int .i64).pair Cd.unit)))))) (List.take (f l (Int.toNat z.snd.snd.snd.snd.fst)).length (List.drop (0 : Nat) (f l (Int.toNat z.snd.snd.snd.snd.fst))) ++ ((4 : Int),
 (0 : Int), (0 : Int), (0 : Int), nilT UInt8, (0 : Int), ()) :: sh1))])))) (ifB (z.fst == (6 : Int)) (ifB (z.fst == (6 : Int)) (ifT (decide ((0 : Int) ≤
 z.snd.snd.snd.snd.fst ∧ Int.toNat z.snd.snd.snd.snd.fst < l.length ∧ l.length ≤ (20 : Nat) ∧ Int.toNat z.snd.snd.snd.snd.fst < n) && wantsB l) (ifT (decide (((f l
 (Int.toNat z.snd.snd.snd.snd.fst)).length + (1 : Nat)) * (56 : Nat) ≤ (140737488355328 : Nat)) && decide ((f l (Int.toNat z.snd.snd.snd.snd.fst)).length + (1 : Nat) ≤
 maxI)) (ifT (decide ((0 : Int) ≤ z.snd.snd.snd.snd.snd.fst ∧ Int.toNat z.snd.snd.snd.snd.snd.fst < l.length ∧ l.length ≤ (20 : Nat) ∧ Int.toNat z.snd.snd.snd.snd.snd.fst
 < n ∧ (f l (Int.toNat z.snd.snd.snd.snd.fst)).length + (1 : Nat) = (List.take (f l (Int.toNat z.snd.snd.snd.snd.fst)).length (List.drop (0 : Nat) (f l (Int.toNat
 z.snd.snd.snd.snd.fst))) ++ ((3 : Int), (0 : Int), (0 : Int), IntKind.i64.wrap (z.fst - (6 : Int)), nilT UInt8, (0 : Int), ()) :: sh1).length ∧ (List.take (f l (Int.toNat
 z.snd.snd.snd.snd.fst)).length (List.drop (0 : Nat) (f l (Int.toNat z.snd.snd.snd.snd.fst))) ++ ((3 : Int), (0 : Int), (0 : Int), IntKind.i64.wrap (z.fst - (6 : Int)),
 nilT UInt8, (0 : Int), ()) :: sh1).length + (2 : Nat) * (2 : Nat) ^ Int.toNat z.snd.snd.snd.snd.snd.fst ≤ (8000000 : Nat)) && wantsB l) (ifT (decide ((0 : Int) ≤ (↑(f l
 (Int.toNat z.snd.snd.snd.snd.fst)).length : Int)) && decide ((↑(f l (Int.toNat z.snd.snd.snd.snd.fst)).length : Int) < (↑(g l (Int.toNat z.snd.snd.snd.snd.snd.fst)
 (List.take (f l (Int.toNat z.snd.snd.snd.snd.fst)).length (List.drop (0 : Nat) (f l (Int.toNat z.snd.snd.snd.snd.fst))) ++ ((3 : Int), (0 : Int), (0 : Int),
 IntKind.i64.wrap (z.fst - (6 : Int)), nilT UInt8, (0 : Int), ()) :: sh1)).length : Int))) (ifSome (g l (Int.toNat z.snd.snd.snd.snd.snd.fst) (List.take (f l (Int.toNat
 z.snd.snd.snd.snd.fst)).length (List.drop (0 : Nat) (f l (Int.toNat z.snd.snd.snd.snd.fst))) ++ ((3 : Int), (0 : Int), (0 : Int), IntKind.i64.wrap (z.fst - (6 : Int)),
 nilT UInt8, (0 : Int), ()) :: sh1))[(0 : Nat) + (↑(f l (Int.toNat z.snd.snd.snd.snd.fst)).length : Int).toNat]? fun z_1 => some (V.ref 0 0 (g l (Int.toNat
 z.snd.snd.snd.snd.snd.fst) (List.take (f l (Int.toNat z.snd.snd.snd.snd.fst)).length (List.drop (0 : Nat) (f l (Int.toNat z.snd.snd.snd.snd.fst))) ++ ((3 : Int), (0 :
 Int), (0 : Int), IntKind.i64.wrap (z.fst - (6 : Int)), nilT UInt8, (0 : Int), ()) :: sh1)).length, [some (Blk.row false none ((Cd.int .i64).pair ((Cd.int .i64).pair
 ((Cd.int .i64).pair ((Cd.int .i64).pair (Cd.str.pair ((Cd.int .i64).pair Cd.unit)))))) ((g l (Int.toNat z.snd.snd.snd.snd.snd.fst) (List.take (f l (Int.toNat
 z.snd.snd.snd.snd.fst)).length (List.drop (0 : Nat) (f l (Int.toNat z.snd.snd.snd.snd.fst))) ++ ((3 : Int), (0 : Int), (0 : Int), IntKind.i64.wrap (z.fst - (6 : Int)),
 nilT UInt8, (0 : Int), ()) :: sh1)).set ((0 : Nat) + (↑(f l (Int.toNat z.snd.snd.snd.snd.fst)).length : Int).toNat) (z_1.fst, z_1.snd.fst, z_1.snd.snd.fst,
 z_1.snd.snd.snd.fst, z_1.snd.snd.snd.snd.fst, (↑(g l (Int.toNat z.snd.snd.snd.snd.snd.fst) (List.take (f l (Int.toNat z.snd.snd.snd.snd.fst)).length (List.drop (0 : Nat)
 (f l (Int.toNat z.snd.snd.snd.snd.fst))) ++ ((3 : Int), (0 : Int), (0 : Int), IntKind.i64.wrap (z.fst - (6 : Int)), nilT UInt8, (0 : Int), ()) :: sh1)).length : Int),
 ())))])))))) (some (V.ref 0 0 2, [some (Blk.row false none ((Cd.int .i64).pair ((Cd.int .i64).pair ((Cd.int .i64).pair ((Cd.int .i64).pair (Cd.str.pair ((Cd.int
 .i64).pair Cd.unit)))))) ([((1 : Int), (0 : Int), z.snd.fst, (0 : Int), nilT UInt8, (0 : Int), ())] ++ ((2 : Int), z.fst, (0 : Int), z.snd.snd.fst, z.snd.snd.snd.fst, (0
 : Int), ()) :: sh1))]))) (ifB (z.fst == (7 : Int)) (ifT (decide ((0 : Int) ≤ z.snd.snd.snd.snd.fst ∧ Int.toNat z.snd.snd.snd.snd.fst < l.length ∧ l.length ≤ (20 : Nat) ∧
 Int.toNat z.snd.snd.snd.snd.fst < n) && wantsB l) (ifT (decide (((f l (Int.toNat z.snd.snd.snd.snd.fst)).length + (1 : Nat)) * (56 : Nat) ≤ (140737488355328 : Nat)) &&
 decide ((f l (Int.toNat z.snd.snd.snd.snd.fst)).length + (1 : Nat) ≤ maxI)) (ifT (decide ((0 : Int) ≤ z.snd.snd.snd.snd.snd.fst ∧ Int.toNat z.snd.snd.snd.snd.snd.fst <
 l.length ∧ l.length ≤ (20 : Nat) ∧ Int.toNat z.snd.snd.snd.snd.snd.fst < n ∧ (f l (Int.toNat z.snd.snd.snd.snd.fst)).length + (1 : Nat) = (List.take (f l (Int.toNat
 z.snd.snd.snd.snd.fst)).length (List.drop (0 : Nat) (f l (Int.toNat z.snd.snd.snd.snd.fst))) ++ ((3 : Int), (0 : Int), (0 : Int), IntKind.i64.wrap (z.fst - (6 : Int)),
 nilT UInt8, (0 : Int), ()) :: sh1).length ∧ (List.take (f l (Int.toNat z.snd.snd.snd.snd.fst)).length (List.drop (0 : Nat) (f l (Int.toNat z.snd.snd.snd.snd.fst))) ++ ((3
 : Int), (0 : Int), (0 : Int), IntKind.i64.wrap (z.fst - (6 : Int)), nilT UInt8, (0 : Int), ()) :: sh1).length + (2 : Nat) * (2 : Nat) ^ Int.toNat
 z.snd.snd.snd.snd.snd.fst ≤ (8000000 : Nat)) && wantsB l) (ifT (decide ((0 : Int) ≤ (↑(f l (Int.toNat z.snd.snd.snd.snd.fst)).length : Int)) && decide ((↑(f l (Int.toNat
 z.snd.snd.snd.snd.fst)).length : Int) < (↑(g l (Int.toNat z.snd.snd.snd.snd.snd.fst) (List.take (f l (Int.toNat z.snd.snd.snd.snd.fst)).length (List.drop (0 : Nat) (f l
 (Int.toNat z.snd.snd.snd.snd.fst))) ++ ((3 : Int), (0 : Int), (0 : Int), IntKind.i64.wrap (z.fst - (6 : Int)), nilT UInt8, (0 : Int), ()) :: sh1)).length : Int))) (ifSome
 (g l (Int.toNat z.snd.snd.snd.snd.snd.fst) (List.take (f l (Int.toNat z.snd.snd.snd.snd.fst)).length (List.drop (0 : Nat) (f l (Int.toNat z.snd.snd.snd.snd.fst))) ++ ((3
 : Int), (0 : Int), (0 : Int), IntKind.i64.wrap (z.fst - (6 : Int)), nilT UInt8, (0 : Int), ()) :: sh1))[(0 : Nat) + (↑(f l (Int.toNat z.snd.snd.snd.snd.fst)).length :
 Int).toNat]? fun z_1 => some (V.ref 0 0 (g l (Int.toNat z.snd.snd.snd.snd.snd.fst) (List.take (f l (Int.toNat z.snd.snd.snd.snd.fst)).length (List.drop (0 : Nat) (f l
 (Int.toNat z.snd.snd.snd.snd.fst))) ++ ((3 : Int), (0 : Int), (0 : Int), IntKind.i64.wrap (z.fst - (6 : Int)), nilT UInt8, (0 : Int), ()) :: sh1)).length, [some (Blk.row
 false none ((Cd.int .i64).pair ((Cd.int .i64).pair ((Cd.int .i64).pair ((Cd.int .i64).pair (Cd.str.pair ((Cd.int .i64).pair Cd.unit)))))) ((g l (Int.toNat
 z.snd.snd.snd.snd.snd.fst) (List.take (f l (Int.toNat z.snd.snd.snd.snd.fst)).length (List.drop (0 : Nat) (f l (Int.toNat z.snd.snd.snd.snd.fst))) ++ ((3 : Int), (0 :
 Int), (0 : Int), IntKind.i64.wrap (z.fst - (6 : Int)), nilT UInt8, (0 : Int), ()) :: sh1)).set ((0 : Nat) + (↑(f l (Int.toNat z.snd.snd.snd.snd.fst)).length : Int).toNat)
 (z_1.fst, z_1.snd.fst, z_1.snd.snd.fst, z_1.snd.snd.snd.fst, z_1.snd.snd.snd.snd.fst, (↑(g l (Int.toNat z.snd.snd.snd.snd.snd.fst) (List.take (f l (Int.toNat
 z.snd.snd.snd.snd.fst)).length (List.drop (0 : Nat) (f l (Int.toNat z.snd.snd.snd.snd.fst))) ++ ((3 : Int), (0 : Int), (0 : Int), IntKind.i64.wrap (z.fst - (6 : Int)),
 nilT UInt8, (0 : Int), ()) :: sh1)).length : Int), ())))])))))) (some (V.ref 0 0 2, [some (Blk.row false none ((Cd.int .i64).pair ((Cd.int .i64).pair ((Cd.int .i64).pair
 ((Cd.int .i64).pair (Cd.str.pair ((Cd.int .i64).pair Cd.unit)))))) ([((1 : Int), (0 : Int), z.snd.fst, (0 : Int), nilT UInt8, (0 : Int), ())] ++ ((2 : Int), z.fst, (0 :
 Int), z.snd.snd.fst, z.snd.snd.snd.fst, (0 : Int), ()) :: sh1))])))))) : _) := by kernel_rfl
theorem cm1_tree (n : Nat) (f : List Wt → Nat → List Ins) (g : List Wt → Nat → List Ins → List Ins) (l : List Wt) (k : Int) (m : Nat) (nl : Option Bool) (o : List Ins) : funC Try.prog (look [(179, .own (cmG n f g))]) (look []) Try.f179 [.agg [.sl (.pair (.int .i64) (.pair (.int .i64) (.pair (.int .i64) (.pair .str (.pair (.int .i64) (.pair (.int .i64) .unit)))))) l], .i .i64 k, .ref 0 0 m] [.row false nl (.pair (.int .i64) (.pair (.int .i64) (.pair (.int .i64) (.pair (.int .i64) (.pair .str (.pair (.int .i64) .unit)))))) o] =
  ((shr (List.take m (List.drop (0 : Nat) o)) fun sh2 => shr (nilT ((Cd.int .i64).pair ((Cd.int .i64).pair ((Cd.int .i64).pair ((Cd.int .i64).pair (Cd.str.pair ((Cd.int
 .i64).pair Cd.unit)))))).den) fun sh1 => ifT (decide ((0 : Int) ≤ k) && decide (k < (↑l.length : Int))) (ifSome l[k.toNat]? fun z => ifB (z.fst == (8 : Int)) (ifT (decide
 ((0 : Int) ≤ z.snd.snd.snd.snd.fst ∧ Int.toNat z.snd.snd.snd.snd.fst < l.length ∧ l.length ≤ (20 : Nat) ∧ Int.toNat z.snd.snd.snd.snd.fst < n ∧ m = o.length ∧ o.length +
 (2 : Nat) * (2 : Nat) ^ Int.toNat z.snd.snd.snd.snd.fst ≤ (8000000 : Nat)) && wantsB l) (ifT (decide (((g l (Int.toNat z.snd.snd.snd.snd.fst) o).length + (1 : Nat)) * (56
 : Nat) ≤ (140737488355328 : Nat)) && decide ((g l (Int.toNat z.snd.snd.snd.snd.fst) o).length + (1 : Nat) ≤ maxI)) (some (V.ref 1 0 ((g l (Int.toNat
 z.snd.snd.snd.snd.fst) o).length + (1 : Nat)), [none, some (Blk.row false none ((Cd.int .i64).pair ((Cd.int .i64).pair ((Cd.int .i64).pair ((Cd.int .i64).pair
 (Cd.str.pair ((Cd.int .i64).pair Cd.unit)))))) (List.take (g l (Int.toNat z.snd.snd.snd.snd.fst) o).length (List.drop (0 : Nat) (g l (Int.toNat z.snd.snd.snd.snd.fst) o))
 ++ ((4 : Int), (0 : Int), (0 : Int), (0 : Int), nilT UInt8, (0 : Int), ()) :: sh1))])))) (ifB (z.fst == (6 : Int)) (ifB (z.fst == (6 : Int)) (ifT (decide ((0 : Int) ≤
 z.snd.snd.snd.snd.fst ∧ Int.toNat z.snd.snd.snd.snd.fst < l.length ∧ l.length ≤ (20 : Nat) ∧ Int.toNat z.snd.snd.snd.snd.fst < n ∧ m = o.length ∧ o.length + (2 : Nat) *
 (2 : Nat) ^ Int.toNat z.snd.snd.snd.snd.fst ≤ (8000000 : Nat)) && wantsB l) (ifT (decide (((g l (Int.toNat z.snd.snd.snd.snd.fst) o).length + (1 : Nat)) * (56 : Nat) ≤
 (140737488355328 : Nat)) && decide ((g l (Int.toNat z.snd.snd.snd.snd.fst) o).length + (1 : Nat) ≤ maxI)) (ifT (decide ((0 : Int) ≤ z.snd.snd.snd.snd.snd.fst ∧ Int.toNat
 z.snd.snd.snd.snd.snd.fst < l.length ∧ l.length ≤ (20 : Nat) ∧ Int.toNat z.snd.snd.snd.snd.snd.fst < n ∧ (g l (Int.toNat z.snd.snd.snd.snd.fst) o).length + (1 : Nat) =
 (List.take (g l (Int.toNat z.snd.snd.snd.snd.fst) o).length (List.drop (0 : Nat) (g l (Int.toNat z.snd.snd.snd.snd.fst) o)) ++ ((3 : Int), (0 : Int), (0 : Int),
 IntKind.i64.wrap (z.fst - (6 : Int)), nilT UInt8, (0 : Int), ()) :: sh1).length ∧ (List.take (g l (Int.toNat z.snd.snd.snd.snd.fst) o).length (List.drop (0 : Nat) (g l
 (Int.toNat z.snd.snd.snd.snd.fst) o)) ++ ((3 : Int), (0 : Int), (0 : Int), IntKind.i64.wrap (z.fst - (6 : Int)), nilT UInt8, (0 : Int), ()) :: sh1).length + (2 : Nat) *
 (2 : Nat) ^ Int.toNat z.snd.snd.snd.snd.snd.fst ≤ (8000000 : Nat)) && wantsB l) (ifT (decide ((0 : Int) ≤ (↑(g l (Int.toNat z.snd.snd.snd.snd.fst) o).length : Int)) &&
 decide ((↑(g l (Int.toNat z.snd.snd.snd.snd.fst) o).length : Int) < (↑(g l (Int.toNat z.snd.snd.snd.snd.snd.fst) (List.take (g l (Int.toNat z.snd.snd.snd.snd.fst)
 o).length (List.drop (0 : Nat) (g l (Int.toNat z.snd.snd.snd.snd.fst) o)) ++ ((3 : Int), (0 : Int), (0 : Int), IntKind.i64.wrap (z.fst - (6 : Int)), nilT UInt8, (0 :
 Int), ()) :: sh1)).length : Int))) (ifSome (g l (Int.toNat z.snd.snd.snd.snd.snd.fst) (List.take (g l (Int.toNat z.snd.snd.snd.snd.fst) o).length (List.drop (0 : Nat) (g
 l (Int.toNat z.snd.snd.snd.snd.fst) o)) ++ ((3 : Int), (0 : Int), (0 : Int), IntKind.i64.wrap (z.fst - (6 : Int)), nilT UInt8, (0 : Int), ()) :: sh1))[(0 : Nat) + (↑(g l
 (Int.toNat z.snd.snd.snd.snd.fst) o).length : Int).toNat]? fun z_1 => some (V.ref 1 0 (g l (Int.toNat z.snd.snd.snd.snd.snd.fst) (List.take (g l (Int.toNat
 z.snd.snd.snd.snd.fst) o).length (List.drop (0 : Nat) (g l (Int.toNat z.snd.snd.snd.snd.fst) o)) ++ ((3 : Int), (0 : Int), (0 : Int), IntKind.i64.wrap (z.fst - (6 :
 Int)), nilT UInt8, (0 : Int), ()) :: sh1)).length, [none, some (Blk.row false none ((Cd.int .i64).pair ((Cd.int .i64).pair ((Cd.int .i64).pair ((Cd.int .i64).pair
 (Cd.str.pair ((Cd.int .i64).pair Cd.unit)))))) ((g l (Int.toNat z.snd.snd.snd.snd.snd.fst) (List.take (g l (Int.toNat z.snd.snd.snd.snd.fst) o).length (List.drop (0 :
 Nat) (g l (Int.toNat z.snd.snd.snd.snd.fst) o)) ++ ((3 : Int), (0 : Int), (0 : Int), IntKind.i64.wrap (z.fst - (6 : Int)), nilT UInt8, (0 : Int), ()) :: sh1)).set ((0 :
 Nat) + (↑(g l (Int.toNat z.snd.snd.snd.snd.fst) o).length : Int).toNat) (z_1.fst, z_1.snd.fst, z_1.snd.snd.fst, z_1.snd.snd.snd.fst, z_1.snd.snd.snd.snd.fst, (↑(g l
 (Int.toNat z.snd.snd.snd.snd.snd.fst) (List.take (g l (Int.toNat z.snd.snd.snd.snd.fst) o).length (List.drop (0 : Nat) (g l (Int.toNat z.snd.snd.snd.snd.fst) o)) ++ ((3 :
 Int), (0 : Int), (0 : Int), IntKind.i64.wrap (z.fst - (6 : Int)), nilT UInt8, (0 : Int), ()) :: sh1)).length : Int), ())))])))))) (ifT (decide ((m + (1 : Nat)) * (56 :
 Nat) ≤ (140737488355328 : Nat)) && decide (m + (1 : Nat) ≤ maxI)) (ifT (decide ((m + (1 : Nat) + (1 : Nat)) * (56 : Nat) ≤ (140737488355328 : Nat)) && decide (m + (1 :
 Nat) + (1 : Nat) ≤ maxI)) (some (V.ref 1 0 (m + (1 : Nat) + (1 : Nat)), [none, some (Blk.row false none ((Cd.int .i64).pair ((Cd.int .i64).pair ((Cd.int .i64).pair
 ((Cd.int .i64).pair (Cd.str.pair ((Cd.int .i64).pair Cd.unit)))))) (List.take (m + (1 : Nat)) (List.drop (0 : Nat) (sh2 ++ ((1 : Int), (0 : Int), z.snd.fst, (0 : Int),
 nilT UInt8, (0 : Int), ()) :: sh1)) ++ ((2 : Int), z.fst, (0 : Int), z.snd.snd.fst, z.snd.snd.snd.fst, (0 : Int), ()) :: sh1))]))))) (ifB (z.fst == (7 : Int)) (ifT
 (decide ((0 : Int) ≤ z.snd.snd.snd.snd.fst ∧ Int.toNat z.snd.snd.snd.snd.fst < l.length ∧ l.length ≤ (20 : Nat) ∧ Int.toNat z.snd.snd.snd.snd.fst < n ∧ m = o.length ∧
 o.length + (2 : Nat) * (2 : Nat) ^ Int.toNat z.snd.snd.snd.snd.fst ≤ (8000000 : Nat)) && wantsB l) (ifT (decide (((g l (Int.toNat z.snd.snd.snd.snd.fst) o).length + (1 :
 Nat)) * (56 : Nat) ≤ (140737488355328 : Nat)) && decide ((g l (Int.toNat z.snd.snd.snd.snd.fst) o).length + (1 : Nat) ≤ maxI)) (ifT (decide ((0 : Int) ≤
 z.snd.snd.snd.snd.snd.fst ∧ Int.toNat z.snd.snd.snd.snd.snd.fst < l.length ∧ l.length ≤ (20 : Nat) ∧ Int.toNat z.snd.snd.snd.snd.snd.fst < n ∧ (g l (Int.toNat
 z.snd.snd.snd.snd.fst) o).length + (1 : Nat) = (List.take (g l (Int.toNat z.snd.snd.snd.snd.fst) o).length (List.drop (0 : Nat) (g l (Int.toNat z.snd.snd.snd.snd.fst) o))
 ++ ((3 : Int), (0 : Int), (0 : Int), IntKind.i64.wrap (z.fst - (6 : Int)), nilT UInt8, (0 : Int), ()) :: sh1).length ∧ (List.take (g l (Int.toNat z.snd.snd.snd.snd.fst)
 o).length (List.drop (0 : Nat) (g l (Int.toNat z.snd.snd.snd.snd.fst) o)) ++ ((3 : Int), (0 : Int), (0 : Int), IntKind.i64.wrap (z.fst - (6 : Int)), nilT UInt8, (0 :
 Int), ()) :: sh1).length + (2 : Nat) * (2 : Nat) ^ Int.toNat z.snd.snd.snd.snd.snd.fst ≤ (8000000 : Nat)) && wantsB l) (ifT (decide ((0 : Int) ≤ (↑(g l (Int.toNat
 z.snd.snd.snd.snd.fst) o).length : Int)) && decide ((↑(g l (Int.toNat z.snd.snd.snd.snd.fst) o).length : Int) < (↑(g l (Int.toNat z.snd.snd.snd.snd.snd.fst) (List.take (g
 l (Int.toNat z.snd.snd.snd.snd.fst) o).length (List.drop (0 : Nat) (g l (Int.toNat z.snd.snd.snd.snd.fst) o)) ++ ((3 : Int), (0 : Int), (0 : Int), IntKind.i64.wrap (z.fst
 - (6 : Int)), nilT UInt8, (0 : Int), ()) :: sh1)).length : Int))) (ifSome (g l (Int.toNat z.snd.snd.snd.snd.snd.fst) (List.take (g l (Int.toNat z.snd.snd.snd.snd.fst)
 o).length (List.drop (0 : Nat) (g l (Int.toNat z.snd.snd.snd.snd.fst) o)) ++ ((3 : Int), (0 : Int), (0 : Int), IntKind.i64.wrap (z.fst - (6 : Int)), nilT UInt8, (0 :
 Int), ()) :: sh1))[(0 : Nat) + (↑(g l (Int.toNat z.snd.snd.snd.snd.fst) o).length : Int).toNat]? fun z_1 => some (V.ref 1 0 (g l (Int.toNat z.snd.snd.snd.snd.snd.fst)
 (List.take (g l (Int.toNat z.snd.snd.snd.snd.fst) o).length (List.drop (0 : Nat) (g l (Int.toNat z.snd.snd.snd.snd.fst) o)) ++ ((3 : Int), (0 : Int), (0 : Int),
 IntKind.i64.wrap (z.fst - (6 : Int)), nilT UInt8, (0 : Int), ()) :: sh1)).length, [none, some (Blk.row false none ((Cd.int .i64).pair ((Cd.int .i64).pair ((Cd.int
 .i64).pair ((Cd.int .i64).pair (Cd.str.pair ((Cd.int .i64).pair Cd.unit)))))) ((g l (Int.toNat z.snd.snd.snd.snd.snd.fst) (List.take (g l (Int.toNat
 z.snd.snd.snd.snd.fst) o).length (List.drop (0 : Nat) (g l (Int.toNat z.snd.snd.snd.snd.fst) o)) ++ ((3 : Int), (0 : Int), (0 : Int), IntKind.i64.wrap (z.fst - (6 :
 Int)), nilT UInt8, (0 : Int), ()) :: sh1)).set ((0 : Nat) + (↑(g l (Int.toNat z.snd.snd.snd.snd.fst) o).length : Int).toNat) (z_1.fst, z_1.snd.fst, z_1.snd.snd.fst,
 z_1.snd.snd.snd.fst, z_1.snd.snd.snd.snd.fst, (↑(g l (Int.toNat z.snd.snd.snd.snd.snd.fst) (List.take (g l (Int.toNat z.snd.snd.snd.snd.fst) o).length (List.drop (0 :
 Nat) (g l (Int.toNat z.snd.snd.snd.snd.fst) o)) ++ ((3 : Int), (0 : Int), (0 : Int), IntKind.i64.wrap (z.fst - (6 : Int)), nilT UInt8, (0 : Int), ()) :: sh1)).length :
 Int), ())))])))))) (ifT (decide ((m + (1 : Nat)) * (56 : Nat) ≤ (140737488355328 : Nat)) && decide (m + (1 : Nat) ≤ maxI)) (ifT (decide ((m + (1 : Nat) + (1 : Nat)) * (56
 : Nat) ≤ (140737488355328 : Nat)) && decide (m + (1 : Nat) + (1 : Nat) ≤ maxI)) (some (V.ref 1 0 (m + (1 : Nat) + (1 : Nat)), [none, some (Blk.row false none ((Cd.int
 .i64).pair ((Cd.int .i64).pair ((Cd.int .i64).pair ((Cd.int .i64).pair (Cd.str.pair ((Cd.int .i64).pair Cd.unit)))))) (List.take (m + (1 : Nat)) (List.drop (0 : Nat) (sh2
 ++ ((1 : Int), (0 : Int), z.snd.fst, (0 : Int), nilT UInt8, (0 : Int), ()) :: sh1)) ++ ((2 : Int), z.fst, (0 : Int), z.snd.snd.fst, z.snd.snd.snd.fst, (0 : Int), ()) ::
 sh1))])))))))) : _) := by kernel_rfl
theorem wantsB_at {l : List Wt} {k : Nat} (h : wantsB l = true) (hk : k < l.length) : wantB l[k] (k : Int) = true := by
  unfold wantsB at h
  have := List.all_eq_true.1 h k (List.mem_range.2 hk)
  unfold wAt at this
  simpa [hk] using this
theorem pow_lt {a b : Nat} (h : a < b) : 2 * 2 ^ a ≤ 2 ^ b ∧ 1 ≤ 2 ^ a := by
  refine ⟨?_, Nat.one_le_two_pow⟩
  have : 2 ^ (a + 1) ≤ 2 ^ b := Nat.pow_le_pow_right (by omega) (by omega)
  rw [Nat.pow_succ] at this; omega
theorem cm0_ex (n : Nat) (f : List Wt → Nat → List Ins) (g : List Wt → Nat → List Ins → List Ins) (pf : ∀ l k, wantsB l = true → k < l.length → l.length ≤ 20 → k < n → (f l k).length ≤ 2 * 2 ^ k) (pg : ∀ l k o, wantsB l = true → k < l.length → l.length ≤ 20 → k < n → o.length + 2 * 2 ^ k ≤ 8000000 → o.length ≤ (g l k o).length ∧ (g l k o).length ≤ o.length + 2 * 2 ^ k) (l : List Wt) (k : Nat) (hs : wantsB l = true) (hk : k < l.length) (hl : l.length ≤ 20) (hn : k < n + 1) : Ex1 (funC Try.prog (look [(179, .own (cmG n f g))]) (look []) Try.f179 [.agg [.sl (.pair (.int .i64) (.pair (.int .i64) (.pair (.int .i64) (.pair .str (.pair (.int .i64) (.pair (.int .i64) .unit)))))) l], .i .i64 (k : Int), .nl] []) (fun w : List Ins => ((.ref 0 0 w.length, [some (.row false none (.pair (.int .i64) (.pair (.int .i64) (.pair (.int .i64) (.pair (.int .i64) (.pair .str (.pair (.int .i64) .unit)))))) w)]) : V × List (Option Blk))) (fun w => w.length ≤ 2 * 2 ^ k) := by
  refine Ex1.of (cm0_tree n f g l k) ?_
  have hM : maxI = 9223372036854775807 := rfl
  have hw := wantsB_at hs hk
  obtain ⟨u1, u2, u3⟩ := want_use hw
  have hk20 : (2 : Nat) ^ k ≤ 2 ^ 19 := Nat.pow_le_pow_right (by omega) (by omega)
  have h19 : (2 : Nat) ^ 19 = 524288 := by decide
  have h1k : 1 ≤ 2 ^ k := Nat.one_le_two_pow
  repeat with_reducible refine Ex1.sh ?_
  simp only [Int.toNat_natCast]
  refine Ex1.T (by simp only [Bool.and_eq_true, decide_eq_true_eq]; omega) (Ex1.S ⟨l[k], List.getElem?_eq_getElem hk⟩ fun z hz => ?_)
  obtain rfl : l[k] = z := by rw [List.getElem?_eq_getElem hk] at hz; exact Option.some.inj hz
  generalize l[k] = z at *
  obtain ⟨w0, w1, w2, w3, w4, w5, ⟨⟩⟩ := z
  dsimp only at *
  simp only [nilT_eq, List.drop_zero, List.take_length, Nat.zero_add, Int.toNat_natCast]

  have nt : w0 = 8 → Ex1 (ifT (decide (0 ≤ w4 ∧ w4.toNat < l.length ∧ l.length ≤ 20 ∧ w4.toNat < n) && wantsB l) (ifT (decide (((f l w4.toNat).length + 1) * 56 ≤ 140737488355328) && decide ((f l w4.toNat).length + 1 ≤ maxI)) (some (V.ref 0 0 ((f l w4.toNat).length + 1), [some (.row false none (.pair (.int .i64) (.pair (.int .i64) (.pair (.int .i64) (.pair (.int .i64) (.pair .str (.pair (.int .i64) .unit)))))) (f l w4.toNat ++ [(4, 0, 0, 0, [], 0, ())]))])))) (fun w : List Ins => ((.ref 0 0 w.length, [some (.row false none (.pair (.int .i64) (.pair (.int .i64) (.pair (.int .i64) (.pair (.int .i64) (.pair .str (.pair (.int .i64) .unit)))))) w)]) : V × List (Option Blk))) (fun w => w.length ≤ 2 * 2 ^ k) := fun h => by
    obtain ⟨a1, a2⟩ := u2 h
    have p := pf l w4.toNat hs (by omega) hl (by omega)
    have q := pow_lt (a := w4.toNat) (b := k) (by omega)
    refine Ex1.T (by rw [hs, decide_eq_true ⟨by omega, by omega, hl, by omega⟩]; rfl) (Ex1.T (by simp only [Bool.and_eq_true, decide_eq_true_eq]; omega) ?_)
    exact Ex1.P (f l w4.toNat ++ [(4, 0, 0, 0, [], 0, ())]) rfl (by simp) (by simp; omega)
  repeat' first
    | exact nt (by simpa using ‹(w0 == 8) = true›)
    | with_reducible refine Ex1.B (fun h => ?_) (fun h => ?_)
  all_goals first
    | exact Ex1.P ([_] ++ [_]) rfl rfl (by simp; omega)
    | (have h67 : w0 = 6 ∨ w0 = 7 := (by first | (left; simpa using ‹(w0 == 6) = true›) | (right; simpa using ‹(w0 == 7) = true›))
       obtain ⟨a1, a2, a3⟩ := u1 h67
       have p := pf l w4.toNat hs (by omega) hl (by omega)
       have q1 := pow_lt (a := w4.toNat) (b := w5.toNat) (by omega)
       have q2 := pow_lt (a := w5.toNat) (b := k) (by omega)
       have pg1 := pg l w5.toNat (f l w4.toNat ++ [(3, 0, 0, IntKind.i64.wrap (w0 - 6), [], 0, ())]) hs (by omega) hl (by omega) (by rw [List.length_append, List.length_singleton]; omega)
       generalize hO : g l w5.toNat (f l w4.toNat ++ [(3, 0, 0, IntKind.i64.wrap (w0 - 6), [], 0, ())]) = O at *
       rw [List.length_append, List.length_singleton] at pg1
       refine Ex1.T (by rw [hs, decide_eq_true ⟨by omega, by omega, hl, by omega⟩]; rfl) (Ex1.T (by simp only [Bool.and_eq_true, decide_eq_true_eq]; omega) (Ex1.T (by rw [hs, decide_eq_true ⟨by omega, by omega, hl, by omega, by simp, by rw [List.length_append, List.length_singleton]; omega⟩]; rfl) (Ex1.T (by simp only [Bool.and_eq_true, decide_eq_true_eq]; omega) (Ex1.S (ex_at (by omega)) fun z hz => ?_))))
       exact Ex1.P (O.set _ _) rfl (by simp) (by rw [List.length_set]; omega))
theorem cm1_ex (n : Nat) (f : List Wt → Nat → List Ins) (g : List Wt → Nat → List Ins → List Ins) (pf : ∀ l k, wantsB l = true → k < l.length → l.length ≤ 20 → k < n → (f l k).length ≤ 2 * 2 ^ k) (pg : ∀ l k o, wantsB l = true → k < l.length → l.length ≤ 20 → k < n → o.length + 2 * 2 ^ k ≤ 8000000 → o.length ≤ (g l k o).length ∧ (g l k o).length ≤ o.length + 2 * 2 ^ k) (l : List Wt) (k : Nat) (nl : Option Bool) (o : List Ins) (hs : wantsB l = true) (hk : k < l.length) (hl : l.length ≤ 20) (hn : k < n + 1) (ho : o.length + 2 * 2 ^ k ≤ 8000000) : Ex1 (funC Try.prog (look [(179, .own (cmG n f g))]) (look []) Try.f179 [.agg [.sl (.pair (.int .i64) (.pair (.int .i64) (.pair (.int .i64) (.pair .str (.pair (.int .i64) (.pair (.int .i64) .unit)))))) l], .i .i64 (k : Int), .ref 0 0 o.length] [.row false nl (.pair (.int .i64) (.pair (.int .i64) (.pair (.int .i64) (.pair (.int .i64) (.pair .str (.pair (.int .i64) .unit)))))) o]) (fun w : List Ins => ((.ref 1 0 w.length, [none, some (.row false none (.pair (.int .i64) (.pair (.int .i64) (.pair (.int .i64) (.pair (.int .i64) (.pair .str (.pair (.int .i64) .unit)))))) w)]) : V × List (Option Blk))) (fun w => o.length ≤ w.length ∧ w.length ≤ o.length + 2 * 2 ^ k) := by
  refine Ex1.of (cm1_tree n f g l k o.length nl o) ?_
  have hM : maxI = 9223372036854775807 := rfl
  have hw := wantsB_at hs hk
  obtain ⟨u1, u2, u3⟩ := want_use hw
  have hk20 : (2 : Nat) ^ k ≤ 2 ^ 19 := Nat.pow_le_pow_right (by omega) (by omega)
  have h19 : (2 : Nat) ^ 19 = 524288 := by decide
  have h1k : 1 ≤ 2 ^ k := Nat.one_le_two_pow
  repeat with_reducible refine Ex1.sh ?_
  simp only [Int.toNat_natCast]
  refine Ex1.T (by simp only [Bool.and_eq_true, decide_eq_true_eq]; omega) (Ex1.S ⟨l[k], List.getElem?_eq_getElem hk⟩ fun z hz => ?_)
  obtain rfl : l[k] = z := by rw [List.getElem?_eq_getElem hk] at hz; exact Option.some.inj hz
  generalize l[k] = z at *
  obtain ⟨w0, w1, w2, w3, w4, w5, ⟨⟩⟩ := z
  dsimp only at *
  simp only [nilT_eq, List.drop_zero, List.take_length, Nat.zero_add, Int.toNat_natCast]
  simp only [true_and]
  have nt : w0 = 8 → Ex1 (ifT (decide (0 ≤ w4 ∧ w4.toNat < l.length ∧ l.length ≤ 20 ∧ w4.toNat < n ∧ o.length + 2 * 2 ^ w4.toNat ≤ 8000000) && wantsB l) (ifT (decide (((g l w4.toNat o).length + 1) * 56 ≤ 140737488355328) && decide ((g l w4.toNat o).length + 1 ≤ maxI)) (some (V.ref 1 0 ((g l w4.toNat o).length + 1), [none, some (.row false none (.pair (.int .i64) (.pair (.int .i64) (.pair (.int .i64) (.pair (.int .i64) (.pair .str (.pair (.int .i64) .unit)))))) (g l w4.toNat o ++ [(4, 0, 0, 0, [], 0, ())]))])))) (fun w : List Ins => ((.ref 1 0 w.length, [none, some (.row false none (.pair (.int .i64) (.pair (.int .i64) (.pair (.int .i64) (.pair (.int .i64) (.pair .str (.pair (.int .i64) .unit)))))) w)]) : V × List (Option Blk))) (fun w => o.length ≤ w.length ∧ w.length ≤ o.length + 2 * 2 ^ k) := fun h => by
    obtain ⟨a1, a2⟩ := u2 h
    have q := pow_lt (a := w4.toNat) (b := k) (by omega)
    have p := pg l w4.toNat o hs (by omega) hl (by omega) (by omega)
    refine Ex1.T (by rw [hs, decide_eq_true ⟨by omega, by omega, hl, by omega, by omega⟩]; rfl) (Ex1.T (by simp only [Bool.and_eq_true, decide_eq_true_eq]; omega) ?_)
    exact Ex1.P (g l w4.toNat o ++ [(4, 0, 0, 0, [], 0, ())]) rfl (by simp) (by simp; omega)
  repeat' first
    | exact nt (by simpa using ‹(w0 == 8) = true›)
    | with_reducible refine Ex1.B (fun h => ?_) (fun h => ?_)
  all_goals first
    | (refine Ex1.T (by simp only [Bool.and_eq_true, decide_eq_true_eq]; omega) ?_
       first
         | (rw [List.take_of_length_le (by simp)]
            exact Ex1.P (o ++ [_] ++ [_]) rfl (by simp) (by simp; omega))
         | (refine Ex1.T (by simp only [Bool.and_eq_true, decide_eq_true_eq]; omega) ?_
            rw [List.take_of_length_le (by simp)]
            exact Ex1.P (o ++ [_] ++ [_]) rfl (by simp) (by simp; omega)))
    | (have h67 : w0 = 6 ∨ w0 = 7 := (by first | (left; simpa using ‹(w0 == 6) = true›) | (right; simpa using ‹(w0 == 7) = true›))
       obtain ⟨a1, a2, a3⟩ := u1 h67
       have q1 := pow_lt (a := w4.toNat) (b := w5.toNat) (by omega)
       have q2 := pow_lt (a := w5.toNat) (b := k) (by omega)
       have p := pg l w4.toNat o hs (by omega) hl (by omega) (by omega)
       have pg1 := pg l w5.toNat (g l w4.toNat o ++ [(3, 0, 0, IntKind.i64.wrap (w0 - 6), [], 0, ())]) hs (by omega) hl (by omega) (by rw [List.length_append, List.length_singleton]; omega)
       generalize hO : g l w5.toNat (g l w4.toNat o ++ [(3, 0, 0, IntKind.i64.wrap (w0 - 6), [], 0, ())]) = O at *
       rw [List.length_append, List.length_singleton] at pg1
       refine Ex1.T (by rw [hs, Bool.and_true]; exact decide_eq_true ⟨by omega, by omega, hl, by omega, by omega⟩) (Ex1.T (by simp only [Bool.and_eq_true, decide_eq_true_eq]; omega) (Ex1.T (by rw [hs, Bool.and_true]; exact decide_eq_true ⟨by omega, by omega, hl, by omega, by simp, by rw [List.length_append, List.length_singleton]; omega⟩) (Ex1.T (by simp only [Bool.and_eq_true, decide_eq_true_eq]; omega) (Ex1.S (ex_at (by omega)) fun z hz => ?_))))
       exact Ex1.P (O.set _ _) rfl (by simp) (by rw [List.length_set]; omega))
theorem cm_step (n : Nat) (f : List Wt → Nat → List Ins) (g : List Wt → Nat → List Ins → List Ins) (hf : Contract Try.prog 179 (Ent.own (cmG n f g)).F) (pf : ∀ l k, wantsB l = true → k < l.length → l.length ≤ 20 → k < n → (f l k).length ≤ 2 * 2 ^ k) (pg : ∀ l k o, wantsB l = true → k < l.length → l.length ≤ 20 → k < n → o.length + 2 * 2 ^ k ≤ 8000000 → o.length ≤ (g l k o).length ∧ (g l k o).length ≤ o.length + 2 * 2 ^ k) :
    ∃ f' g', Contract Try.prog 179 (Ent.own (cmG (n + 1) f' g')).F ∧ (∀ l k, wantsB l = true → k < l.length → l.length ≤ 20 → k < n + 1 → (f' l k).length ≤ 2 * 2 ^ k) ∧ (∀ l k o, wantsB l = true → k < l.length → l.length ≤ 20 → k < n + 1 → o.length + 2 * 2 ^ k ≤ 8000000 → o.length ≤ (g' l k o).length ∧ (g' l k o).length ≤ o.length + 2 * 2 ^ k) := by
  have ex0 := fun (l : List Wt) (k : Nat) (h : wantsB l = true ∧ k < l.length ∧ l.length ≤ 20 ∧ k < n + 1) => cm0_ex n f g pf pg l k h.1 h.2.1 h.2.2.1 h.2.2.2
  have ex1 := fun (l : List Wt) (k : Nat) (o : List Ins) (nl : Option Bool) (h : wantsB l = true ∧ k < l.length ∧ l.length ≤ 20 ∧ k < n + 1 ∧ o.length + 2 * 2 ^ k ≤ 8000000) => cm1_ex n f g pf pg l k nl o h.1 h.2.1 h.2.2.1 h.2.2.2.1 h.2.2.2.2
  have nlq : ∀ (l : List Wt) (k : Nat) (o : List Ins) (nl : Option Bool), funC Try.prog (look [(179, .own (cmG n f g))]) (look []) Try.f179 [.agg [.sl (.pair (.int .i64) (.pair (.int .i64) (.pair (.int .i64) (.pair .str (.pair (.int .i64) (.pair (.int .i64) .unit)))))) l], .i .i64 (k : Int), .ref 0 0 o.length] [.row false nl (.pair (.int .i64) (.pair (.int .i64) (.pair (.int .i64) (.pair (.int .i64) (.pair .str (.pair (.int .i64) .unit)))))) o] = funC Try.prog (look [(179, .own (cmG n f g))]) (look []) Try.f179 [.agg [.sl (.pair (.int .i64) (.pair (.int .i64) (.pair (.int .i64) (.pair .str (.pair (.int .i64) (.pair (.int .i64) .unit)))))) l], .i .i64 (k : Int), .ref 0 0 o.length] [.row false none (.pair (.int .i64) (.pair (.int .i64) (.pair (.int .i64) (.pair (.int .i64) (.pair .str (.pair (.int .i64) .unit)))))) o] := fun l k o nl => (cm1_tree n f g l k o.length nl o).trans (cm1_tree n f g l k o.length none o).symm
  classical
  refine ⟨fun l k => if h : wantsB l = true ∧ k < l.length ∧ l.length ≤ 20 ∧ k < n + 1 then (ex0 l k h).choose else [], fun l k o => if h : wantsB l = true ∧ k < l.length ∧ l.length ≤ 20 ∧ k < n + 1 ∧ o.length + 2 * 2 ^ k ≤ 8000000 then (ex1 l k o none h).choose else [], ?_, fun l k h1 h2 h3 h4 => ?_, fun l k o h1 h2 h3 h4 h5 => ?_⟩
  rotate_left
  · simp only [dif_pos (show wantsB l = true ∧ k < l.length ∧ l.length ≤ 20 ∧ k < n + 1 from ⟨h1, h2, h3, h4⟩)]
    exact (ex0 l k ⟨h1, h2, h3, h4⟩).choose_spec.2
  · simp only [dif_pos (show wantsB l = true ∧ k < l.length ∧ l.length ≤ 20 ∧ k < n + 1 ∧ o.length + 2 * 2 ^ k ≤ 8000000 from ⟨h1, h2, h3, h4, h5⟩)]
    exact (ex1 l k o none ⟨h1, h2, h3, h4, h5⟩).choose_spec.2
  refine fun_contractC' (KnowsL.cons (enters_fn Try.func179 (by kernel_rfl) (by kernel_rfl)) hf KnowsL.nil).knows (Λ := look []) Try.func179 (c := Try.f179.body.getD .skip) (by kernel_rfl) fun vs bs r hq hv hb => ?_
  unfold Ent.F cmG at hq
  dsimp only at hq
  split at hq
  · unfold cm0G at hq
    dsimp only at hq
    split at hq
    · rename_i l k heq
      obtain ⟨hc, hx⟩ := need_some hq
      rw [Bool.and_eq_true] at hc
      obtain ⟨hc, hs⟩ := hc
      obtain ⟨h1, h2, h3, h4⟩ := of_decide_eq_true hc
      obtain ⟨k, rfl⟩ := Int.eq_ofNat_of_zero_le h1
      simp only [Int.toNat_natCast] at h2 h4 hx
      have h : wantsB l = true ∧ k < l.length ∧ l.length ≤ 20 ∧ k < n + 1 := ⟨hs, h2, h3, h4⟩
      rw [heq]
      refine ⟨loopsOk_nil _, ((ex0 l k h).choose_spec.1).trans ?_⟩
      rw [dif_pos h] at hx
      exact hx
    · cases hq
  · unfold cm1G at hq
    dsimp only at hq
    split at hq
    · rename_i l k m nl o _
      obtain ⟨hc, hx⟩ := need_some hq
      rw [Bool.and_eq_true] at hc
      obtain ⟨hc, hs⟩ := hc
      obtain ⟨h1, h2, h3, h4, hm, h5⟩ := of_decide_eq_true hc
      obtain ⟨k, rfl⟩ := Int.eq_ofNat_of_zero_le h1
      simp only [Int.toNat_natCast] at h2 h4 h5 hx
      have h : wantsB l = true ∧ k < l.length ∧ l.length ≤ 20 ∧ k < n + 1 ∧ o.length + 2 * 2 ^ k ≤ 8000000 := ⟨hs, h2, h3, h4, h5⟩
      rw [hm]
      refine ⟨loopsOk_nil _, ((nlq l k o nl).trans (ex1 l k o none h).choose_spec.1).trans ?_⟩
      rw [dif_pos h] at hx
      exact hx
    · cases hq
theorem cm_all : ∀ n, ∃ f g, Contract Try.prog 179 (Ent.own (cmG n f g)).F ∧ (∀ l k, wantsB l = true → k < l.length → l.length ≤ 20 → k < n → (f l k).length ≤ 2 * 2 ^ k) ∧ (∀ l k o, wantsB l = true → k < l.length → l.length ≤ 20 → k < n → o.length + 2 * 2 ^ k ≤ 8000000 → o.length ≤ (g l k o).length ∧ (g l k o).length ≤ o.length + 2 * 2 ^ k)
  | 0 => ⟨fun _ _ => [], fun _ _ _ => [], contract_no fun vs bs => by
    unfold Ent.F cmG
    dsimp only
    split
    · unfold cm0G
      dsimp only
      split
      · rw [decide_eq_false (by omega)]; rfl
      · rfl
    · unfold cm1G
      dsimp only
      split
      · rw [decide_eq_false (by omega)]; rfl
      · rfl, fun l k _ _ _ h => by omega, fun l k o _ _ _ h => by omega⟩
  | n + 1 => by
    obtain ⟨f, g, hf, pf, pg⟩ := cm_all n
    exact cm_step n f g hf pf pg
noncomputable def cm_f : List Wt → Nat → List Ins := (cm_all 20).choose
theorem cm_sp : ∃ g, Contract Try.prog 179 (Ent.own (cmG 20 cm_f g)).F ∧ (∀ l k, wantsB l = true → k < l.length → l.length ≤ 20 → k < 20 → (cm_f l k).length ≤ 2 * 2 ^ k) ∧ (∀ l k o, wantsB l = true → k < l.length → l.length ≤ 20 → k < 20 → o.length + 2 * 2 ^ k ≤ 8000000 → o.length ≤ (g l k o).length ∧ (g l k o).length ≤ o.length + 2 * 2 ^ k) := (cm_all 20).choose_spec
theorem cmp_tree (n : Nat) (f : List Wt → Nat → List Ins) (g : List Wt → Nat → List Ins → List Ins) (l : List Wt) : funC Try.prog (look [(178, .rd1 goodFG), (179, .own (cmG n f g))]) (look []) Try.f134 [.agg [.sl (.pair (.int .i64) (.pair (.int .i64) (.pair (.int .i64) (.pair .str (.pair (.int .i64) (.pair (.int .i64) .unit)))))) l]] [] =
  ((shr (f l (IntKind.i64.wrap ((↑l.length : Int) - (1 : Int))).toNat) fun sh1 => ifB (!goodFB l) (some (V.tup [V.agg [V.ref 0 0 0], V.b false], [some (Blk.row false none
 ((Cd.int .i64).pair ((Cd.int .i64).pair ((Cd.int .i64).pair ((Cd.int .i64).pair (Cd.str.pair ((Cd.int .i64).pair Cd.unit)))))) (nilT ((Cd.int .i64).pair ((Cd.int
 .i64).pair ((Cd.int .i64).pair ((Cd.int .i64).pair (Cd.str.pair ((Cd.int .i64).pair Cd.unit)))))).den))])) (ifT (decide ((0 : Int) ≤ IntKind.i64.wrap ((↑l.length : Int) -
 (1 : Int)) ∧ (IntKind.i64.wrap ((↑l.length : Int) - (1 : Int))).toNat < l.length ∧ l.length ≤ (20 : Nat) ∧ (IntKind.i64.wrap ((↑l.length : Int) - (1 : Int))).toNat < n)
 && wantsB l) (ifT (decide ((sh1.length + (1 : Nat)) * (56 : Nat) ≤ (140737488355328 : Nat)) && decide (sh1.length + (1 : Nat) ≤ maxI)) (some (V.tup [V.agg [V.ref 0 0
 (sh1.length + (1 : Nat))], V.b true], [some (Blk.row false none ((Cd.int .i64).pair ((Cd.int .i64).pair ((Cd.int .i64).pair ((Cd.int .i64).pair (Cd.str.pair ((Cd.int
 .i64).pair Cd.unit)))))) (List.take sh1.length (List.drop (0 : Nat) sh1) ++ ((5 : Int), (0 : Int), (0 : Int), (0 : Int), nilT UInt8, (0 : Int), ()) :: nilT ((Cd.int
 .i64).pair ((Cd.int .i64).pair ((Cd.int .i64).pair ((Cd.int .i64).pair (Cd.str.pair ((Cd.int .i64).pair Cd.unit)))))).den))]))))) : _) := by kernel_rfl
theorem wgo_all : ∀ (l : List Wt) (i : Nat) (u v : List Int), wgo i l u = some v → ∀ j, j < l.length → wantB (wAt l j) ((i + j : Nat) : Int) = true
  | [], i, u, v, _, j, hj => by simp at hj
  | w :: l, i, u, v, h, j, hj => by
    rw [wgo] at h
    split at h
    · rename_i q
      cases j with
      | zero => exact q
      | succ j =>
        have := wgo_all l (i + 1) _ v h j (by simpa using hj)
        rw [show i + 1 + j = i + (j + 1) by omega] at this
        exact this
    · cases h
theorem goodF_wants {l : List Wt} (h : goodFB l = true) : wantsB l = true ∧ 1 ≤ l.length ∧ l.length ≤ 20 := by
  unfold goodFB at h
  rw [Bool.and_eq_true, decide_eq_true_eq] at h
  obtain ⟨h1, h2⟩ := h
  refine ⟨?_, h1⟩
  unfold wantsB
  rw [List.all_eq_true]
  intro j hj
  cases e : wgo 0 l (List.replicate l.length 0) with
  | none => rw [e] at h2; cases h2
  | some v =>
    have := wgo_all l 0 _ v e j (List.mem_range.1 hj)
    rw [Nat.zero_add] at this
    exact this
theorem cmp_exf : ∃ f : List Wt → List Ins, Contract Try.prog 134 (Ent.rd1 (cmpG f)).F ∧ ∀ l, (f l).length ≤ 2000000 ∧ (goodFB l = true → 1 ≤ (f l).length) := by
  obtain ⟨g, hf, pf, pg⟩ := cm_sp
  refine ⟨fun l => if goodFB l = true then cm_f l (l.length - 1) ++ [(5, 0, 0, 0, [], 0, ())] else [], ?_, fun l => ?_⟩
  rotate_left
  · dsimp only
    split
    · rename_i h
      obtain ⟨h1, h2, h3⟩ := goodF_wants h
      have := pf l (l.length - 1) h1 (by omega) h3 (by omega)
      have hk : (2 : Nat) ^ (l.length - 1) ≤ 2 ^ 19 := Nat.pow_le_pow_right (by omega) (by omega)
      have h19 : (2 : Nat) ^ 19 = 524288 := by decide
      refine ⟨by rw [List.length_append, List.length_singleton]; omega, fun _ => by simp⟩
    · rename_i h
      exact ⟨by simp, fun hh => absurd hh h⟩
  refine fun_contractC' (KnowsL.cons (enters_fn Try.func178 (by kernel_rfl) (by kernel_rfl)) sgoodF (KnowsL.cons (enters_fn Try.func179 (by kernel_rfl) (by kernel_rfl)) hf KnowsL.nil)).knows (Λ := look []) Try.func134 (c := Try.f134.body.getD .skip) (by kernel_rfl) fun vs bs r hq hv hb => ?_
  unfold Ent.F cmpG at hq
  dsimp only at hq
  split at hq
  · rename_i l
    refine ⟨loopsOk_nil _, (cmp_tree 20 cm_f g l).trans (Eq.trans ?_ hq)⟩
    have hM : maxI = 9223372036854775807 := rfl
    cases h : goodFB l with
    | false => rfl
    | true =>
      obtain ⟨h1, h2, h3⟩ := goodF_wants h
      have hp := pf l (l.length - 1) h1 (by omega) h3 (by omega)
      have hk : (2 : Nat) ^ (l.length - 1) ≤ 2 ^ 19 := Nat.pow_le_pow_right (by omega) (by omega)
      have h19 : (2 : Nat) ^ 19 = 524288 := by decide
      have w1 : IntKind.i64.wrap ((l.length : Int) - 1) = ((l.length - 1 : Nat) : Int) := by rw [wrap_id (by omega) (by omega)]; omega
      dsimp only [shr]
      simp only [w1, Int.toNat_natCast, nilT_eq, List.drop_zero, List.take_length]
      rw [Bool.not_true, ifB_f, ifT_true (by rw [h1, decide_eq_true ⟨by omega, by omega, h3, by omega⟩]; rfl), ifT_true (by simp only [Bool.and_eq_true, decide_eq_true_eq]; omega)]
      simp [Br.run]
  · cases hq
noncomputable def cmp_f : List Wt → List Ins := cmp_exf.choose
theorem cmp_con : Contract Try.prog 134 (Ent.rd1 (cmpG cmp_f)).F := cmp_exf.choose_spec.1
theorem cmp_pr : ∀ l, (cmp_f l).length ≤ 2000000 ∧ (goodFB l = true → 1 ≤ (cmp_f l).length) := cmp_exf.choose_spec.2

/-- A test is one: kind, number, text. -/
def tstB (kd nm : Int) (tx : List UInt8) : Bool := decide (1 ≤ kd ∧ kd ≤ 5 ∧ (kd ≤ 3 → numB nm = true) ∧ (3 < kd → nm = 0) ∧ (kd ≤ 4 → tx = []) ∧ tx.length ≤ 30)
/-- An instruction that is none of a program's ends. -/
def insM (c kd no nm : Int) (tx : List UInt8) (to i n : Int) : Bool := decide ((c = 1 ∧ 1 ≤ no ∧ no ≤ 30 ∧ kd = 0 ∧ nm = 0 ∧ tx = [] ∧ to = 0) ∨ (c = 2 ∧ no = 0 ∧ to = 0 ∧ tstB kd nm tx = true) ∨ (c = 3 ∧ 0 ≤ nm ∧ nm ≤ 1 ∧ kd = 0 ∧ no = 0 ∧ tx = [] ∧ i < to ∧ to < n) ∨ ((c = 4 ∨ c = 5) ∧ kd = 0 ∧ no = 0 ∧ nm = 0 ∧ tx = [] ∧ to = 0))
def itestG : List V → List Blk → Br (V × List (Option Blk))
  | [.i .i64 kd, .i .i64 nm, .s tx], [] => .leaf (.b (tstB kd nm tx), [])
  | _, _ => .no
def iinsG : List V → List Blk → Br (V × List (Option Blk))
  | [.agg [.i .i64 c, .i .i64 kd, .i .i64 no, .i .i64 nm, .s tx, .i .i64 to], .i .i64 i, .i .i64 n], [] => .need (decide (0 ≤ i ∧ i < n ∧ n ≤ 8000000)) (.leaf (.b (decide (c = 5 ↔ i = n - 1) && insM c kd no nm tx to i n), []))
  | _, _ => .no
def sinsG : List V → List Blk → Br (V × List (Option Blk))
  | [.agg [.i .i64 c, .i .i64 kd, .i .i64 no, .i .i64 nm, .s tx, .i .i64 to], .i .i64 i, .i .i64 n], [] => .need (decide (0 ≤ i ∧ i < n ∧ n ≤ 8000000)) (.leaf (.b (decide ((c = 4 → i < n - 1) ∧ (c = 5 → i = n - 1)) && insM c kd no nm tx to i n), []))
  | _, _ => .no

theorem itest_fun (kd nm : Int) (tx : List UInt8) : funK Try.prog (look [(164, .rd1 numG)]) (look []) Try.f151 [.i .i64 kd, .i .i64 nm, .s tx] [] = (.leaf (.b (tstB kd nm tx), []) : Br (V × List (Option Blk))).run := by
  have e : funK Try.prog (look [(164, .rd1 numG)]) (look []) Try.f151 [.i .i64 kd, .i .i64 nm, .s tx] [] = ((ifB (kd == (1 : Int)) (ifB (kd == (1 : Int)) (ifB (numB nm) (some (V.b (tx == nilT UInt8), [])) (some (V.b false, []))) (ifB (kd == (4 : Int)) (ifB (nm == (0 : Int)) (some
 (V.b (tx == nilT UInt8), [])) (some (V.b false, []))) (ifB (kd == (5 : Int)) (ifB (nm == (0 : Int)) (some (V.b (decide ((↑tx.length : Int) ≤ (30 : Int))), [])) (some (V.b
 false, []))) (some (V.b false, []))))) (ifB (kd == (2 : Int)) (ifB (kd == (2 : Int)) (ifB (numB nm) (some (V.b (tx == nilT UInt8), [])) (some (V.b false, []))) (ifB (kd
 == (4 : Int)) (ifB (nm == (0 : Int)) (some (V.b (tx == nilT UInt8), [])) (some (V.b false, []))) (ifB (kd == (5 : Int)) (ifB (nm == (0 : Int)) (some (V.b (decide
 ((↑tx.length : Int) ≤ (30 : Int))), [])) (some (V.b false, []))) (some (V.b false, []))))) (ifB (kd == (3 : Int)) (ifB (numB nm) (some (V.b (tx == nilT UInt8), [])) (some
 (V.b false, []))) (ifB (kd == (4 : Int)) (ifB (nm == (0 : Int)) (some (V.b (tx == nilT UInt8), [])) (some (V.b false, []))) (ifB (kd == (5 : Int)) (ifB (nm == (0 : Int))
 (some (V.b (decide ((↑tx.length : Int) ≤ (30 : Int))), [])) (some (V.b false, []))) (some (V.b false, []))))))) : _) := by kernel_rfl
  rw [e]
  clear e
  show _ = some (V.b (tstB kd nm tx), [])
  simp only [nilT_eq]
  unfold tstB
  by_cases a1 : kd = 1
  · subst a1; cases hn : numB nm <;> cases tx <;> simp [ifB]
  by_cases a2 : kd = 2
  · subst a2; cases hn : numB nm <;> cases tx <;> simp [ifB]
  by_cases a3 : kd = 3
  · subst a3; cases hn : numB nm <;> cases tx <;> simp [ifB]
  have q1 := beq_eq_false_iff_ne.2 a1
  have q2 := beq_eq_false_iff_ne.2 a2
  have q3 := beq_eq_false_iff_ne.2 a3
  by_cases a4 : kd = 4
  · subst a4
    by_cases hn : nm = 0
    · subst hn; cases tx <;> simp [ifB]
    · have e := beq_eq_false_iff_ne.2 hn
      cases tx <;> simp [ifB, hn, e]
  have q4 := beq_eq_false_iff_ne.2 a4
  by_cases a5 : kd = 5
  · subst a5
    by_cases hn : nm = 0
    · subst hn
      by_cases ht : tx.length ≤ 30
      · rw [decide_eq_true (show (tx.length : Int) ≤ 30 by omega)]; simp [ifB, ht]
      · rw [decide_eq_false (show ¬ (tx.length : Int) ≤ 30 by omega)]; simp [ifB, ht]
    · have e := beq_eq_false_iff_ne.2 hn
      simp [ifB, hn, e]
  have q5 := beq_eq_false_iff_ne.2 a5
  simp [ifB, q1, q2, q3, q4, q5]
  intro h1 h2
  omega
theorem itest : Contract Try.prog 151 (Ent.rd1 itestG).F := by
  refine fun_contract' (KnowsL.cons (enters_fn Try.func164 (by kernel_rfl) (by kernel_rfl)) numOK KnowsL.nil).knows (Λ := look []) Try.func151 (c := Try.f151.body.getD .skip) (by kernel_rfl) fun vs bs r' hq hv hb => ?_
  unfold Ent.F itestG at hq
  dsimp only at hq
  split at hq
  · rename_i kd nm tx
    exact ⟨loopsOk_nil _, (itest_fun kd nm tx).trans hq⟩
  · cases hq
theorem iins_fun (c kd no nm : Int) (tx : List UInt8) (to : Int) (i n : Int) (hc : 0 ≤ i ∧ i < n ∧ n ≤ 8000000) : funK Try.prog (look [(66, .rd1 withinG), (151, .rd1 itestG)]) (look []) Try.f99 [.agg [.i .i64 c, .i .i64 kd, .i .i64 no, .i .i64 nm, .s tx, .i .i64 to], .i .i64 i, .i .i64 n] [] = some (.b (decide (c = 5 ↔ i = n - 1) && insM c kd no nm tx to i n), []) := by
  have e : funK Try.prog (look [(66, .rd1 withinG), (151, .rd1 itestG)]) (look []) Try.f99 [.agg [.i .i64 c, .i .i64 kd, .i .i64 no, .i .i64 nm, .s tx, .i .i64 to], .i .i64 i, .i .i64 n] [] = ((ifB (!(c == (5 : Int)) == (i == IntKind.i64.wrap (n - (1 : Int)))) (some (V.b false, [])) (ifB (c == (1 : Int)) (ifB (decide ((1 : Int) ≤ no ∧ no ≤ (30 : Int))) (some (V.b
 (c == (1 : Int) && (kd == (0 : Int) && (no == no && (nm == (0 : Int) && (tx == nilT UInt8 && (to == (0 : Int) && true)))))), [])) (some (V.b false, []))) (ifB (c == (2 :
 Int)) (ifB (no == (0 : Int)) (ifB (to == (0 : Int)) (some (V.b (tstB kd nm tx), [])) (some (V.b false, []))) (some (V.b false, []))) (ifB (c == (3 : Int)) (ifB (decide
 ((0 : Int) ≤ nm ∧ nm ≤ (1 : Int))) (ifB (decide (IntKind.i64.wrap (i + (1 : Int)) ≤ to ∧ to ≤ IntKind.i64.wrap (n - (1 : Int)))) (some (V.b (c == (3 : Int) && (kd == (0 :
 Int) && (no == (0 : Int) && (nm == nm && (tx == nilT UInt8 && (to == to && true)))))), [])) (some (V.b false, []))) (some (V.b false, []))) (ifB (c == (4 : Int)) (ifB (c
 == (4 : Int)) (some (V.b (c == c && (kd == (0 : Int) && (no == (0 : Int) && (nm == (0 : Int) && (tx == nilT UInt8 && (to == (0 : Int) && true)))))), [])) (some (V.b
 false, []))) (ifB (c == (5 : Int)) (some (V.b (c == c && (kd == (0 : Int) && (no == (0 : Int) && (nm == (0 : Int) && (tx == nilT UInt8 && (to == (0 : Int) && true)))))),
 [])) (some (V.b false, [])))))))) : _) := by kernel_rfl
  rw [e]
  clear e
  obtain ⟨h0, h1, h2⟩ := hc
  have w1 : IntKind.i64.wrap (n - 1) = n - 1 := wrap_id (by omega) (by omega)
  have w2 : IntKind.i64.wrap (i + 1) = i + 1 := wrap_id (by omega) (by omega)
  simp only [nilT_eq, w1, w2]
  show _ = some (V.b _, [])
  have hc5 : decide (c = 5 ↔ i = n - 1) = ((c == 5) == (i == n - 1)) := by
    rw [show (c == 5) = decide (c = 5) from rfl, show (i == n - 1) = decide (i = n - 1) from rfl]
    by_cases a : c = 5 <;> by_cases b : i = n - 1 <;> simp [a, b]
  rw [hc5]
  cases hq : ((c == 5) == (i == n - 1)) with
  | false => simp [ifB]
  | true =>
    rw [Bool.true_and]
    clear hc5 hq
    unfold insM
    by_cases a1 : c = 1
    · subst a1
      by_cases hr : 1 ≤ no ∧ no ≤ 30
      · rw [decide_eq_true hr]; simp [ifB, hr.1, hr.2]; rw [Bool.eq_iff_iff]; simp
      · rw [decide_eq_false hr]; simp [ifB]; intro x1 x2; exact absurd ⟨x1, x2⟩ hr
    have q1 := beq_eq_false_iff_ne.2 a1
    by_cases a2 : c = 2
    · subst a2
      by_cases b1 : no = 0
      · subst b1
        by_cases b2 : to = 0
        · subst b2; simp [ifB]
        · have e := beq_eq_false_iff_ne.2 b2; simp [ifB, b2, e]
      · have e := beq_eq_false_iff_ne.2 b1; simp [ifB, b1, e]
    have q2 := beq_eq_false_iff_ne.2 a2
    by_cases a3 : c = 3
    · subst a3
      by_cases hr : 0 ≤ nm ∧ nm ≤ 1
      · rw [decide_eq_true hr]
        by_cases ht : i + 1 ≤ to ∧ to ≤ n - 1
        · rw [decide_eq_true ht]; simp [ifB, hr.1, hr.2, show i < to by omega, show to < n by omega]; rw [Bool.eq_iff_iff]; simp
        · rw [decide_eq_false ht]; simp [ifB]; intros; omega
      · rw [decide_eq_false hr]; simp [ifB]; intros; omega
    have q3 := beq_eq_false_iff_ne.2 a3
    by_cases a4 : c = 4
    · subst a4; simp [ifB]; rw [Bool.eq_iff_iff]; simp
    have q4 := beq_eq_false_iff_ne.2 a4
    by_cases a5 : c = 5
    · subst a5; simp [ifB]; rw [Bool.eq_iff_iff]; simp
    have q5 := beq_eq_false_iff_ne.2 a5
    simp [ifB, q1, q2, q3, q4, q5, a1, a2, a3, a4, a5]
theorem iins : Contract Try.prog 99 (Ent.rd1 iinsG).F := by
  refine fun_contract' (KnowsL.cons (enters_fn Try.func66 (by kernel_rfl) (by kernel_rfl)) within (KnowsL.cons (enters_fn Try.func151 (by kernel_rfl) (by kernel_rfl)) itest KnowsL.nil)).knows (Λ := look []) Try.func99 (c := Try.f99.body.getD .skip) (by kernel_rfl) fun vs bs r' hq hv hb => ?_
  unfold Ent.F iinsG at hq
  dsimp only at hq
  split at hq
  · obtain ⟨hc, hx⟩ := need_some hq
    exact ⟨loopsOk_nil _, (iins_fun _ _ _ _ _ _ _ _ (of_decide_eq_true hc)).trans hx⟩
  · cases hq


theorem ifB_bool (c x y : Bool) : ifB c (some ((V.b x, []) : V × List (Option Blk))) (some (V.b y, [])) = some (V.b (cond c x y), []) := by cases c <;> rfl
theorem sins_fun (c kd no nm : Int) (tx : List UInt8) (to : Int) (i n : Int) (hc : 0 ≤ i ∧ i < n ∧ n ≤ 8000000) : funK Try.prog (look [(111, .rd1 withinG), (165, .rd1 numG)]) (look []) Try.f143 [.agg [.i .i64 c, .i .i64 kd, .i .i64 no, .i .i64 nm, .s tx, .i .i64 to], .i .i64 i, .i .i64 n] [] = some (.b (decide ((c = 4 → i < n - 1) ∧ (c = 5 → i = n - 1)) && insM c kd no nm tx to i n), []) := by
  have e : funK Try.prog (look [(111, .rd1 withinG), (165, .rd1 numG)]) (look []) Try.f143 [.agg [.i .i64 c, .i .i64 kd, .i .i64 no, .i .i64 nm, .s tx, .i .i64 to], .i .i64 i, .i .i64 n] [] = ((ifB (!numB nm) (some (V.b false, [])) (ifB (decide ((↑tx.length : Int) > (30 : Int))) (some (V.b false, [])) (ifB (c == (1 : Int)) (ifB (decide ((1 : Int) ≤ no ∧ no ≤ (30
 : Int))) (ifB (kd == (0 : Int)) (ifB (nm == (0 : Int)) (ifB (tx == nilT UInt8) (some (V.b (to == (0 : Int)), [])) (some (V.b false, []))) (some (V.b false, []))) (some
 (V.b false, []))) (some (V.b false, []))) (ifB (c == (2 : Int)) (ifB (decide ((1 : Int) ≤ kd ∧ kd ≤ (5 : Int))) (ifB (no == (0 : Int)) (ifB (to == (0 : Int)) (ifB (decide
 (kd ≤ (3 : Int))) (ifB (kd == (5 : Int)) (some (V.b true, [])) (some (V.b (tx == nilT UInt8), []))) (ifB (nm == (0 : Int)) (ifB (kd == (5 : Int)) (some (V.b true, []))
 (some (V.b (tx == nilT UInt8), []))) (some (V.b false, [])))) (some (V.b false, []))) (some (V.b false, []))) (some (V.b false, []))) (ifB (c == (3 : Int)) (ifB (no == (0
 : Int)) (ifB (kd == (0 : Int)) (ifB (tx == nilT UInt8) (ifB (decide ((0 : Int) ≤ nm ∧ nm ≤ (1 : Int))) (ifB (decide (to > i)) (some (V.b (decide (to < n)), [])) (some
 (V.b false, []))) (some (V.b false, []))) (some (V.b false, []))) (some (V.b false, []))) (some (V.b false, []))) (ifB (c == (4 : Int)) (ifB (c == (4 : Int)) (ifB (no ==
 (0 : Int)) (ifB (kd == (0 : Int)) (ifB (tx == nilT UInt8) (ifB (nm == (0 : Int)) (ifB (to == (0 : Int)) (some (V.b ((c == (4 : Int)) == decide (i < IntKind.i64.wrap (n -
 (1 : Int)))), [])) (some (V.b false, []))) (some (V.b false, []))) (some (V.b false, []))) (some (V.b false, []))) (some (V.b false, []))) (some (V.b false, []))) (ifB (c
 == (5 : Int)) (ifB (no == (0 : Int)) (ifB (kd == (0 : Int)) (ifB (tx == nilT UInt8) (ifB (nm == (0 : Int)) (ifB (to == (0 : Int)) (some (V.b ((c == (4 : Int)) == decide
 (i < IntKind.i64.wrap (n - (1 : Int)))), [])) (some (V.b false, []))) (some (V.b false, []))) (some (V.b false, []))) (some (V.b false, []))) (some (V.b false, [])))
 (some (V.b false, []))))))))) : _) := by kernel_rfl
  rw [e]
  clear e
  obtain ⟨h0, h1, h2⟩ := hc
  have w1 : IntKind.i64.wrap (n - 1) = n - 1 := wrap_id (by omega) (by omega)
  simp only [nilT_eq, w1, ifB_bool]
  refine congrArg (fun b => some (V.b b, [])) ?_
  have hn : numB nm = decide (-1000000000 ≤ nm ∧ nm ≤ 1000000000) := by unfold numB; rw [Bool.decide_and]
  unfold insM tstB
  rw [hn]
  clear hn
  rw [Bool.eq_iff_iff]
  by_cases a1 : c = 1
  · subst a1
    cases tx <;> (simp; try omega)
  by_cases a2 : c = 2
  · subst a2
    cases tx <;> (simp; first | omega | (by_cases k3 : kd ≤ 3 <;> simp [k3] <;> omega))
  by_cases a3 : c = 3
  · subst a3
    cases tx <;> (simp; try omega)
  by_cases a4 : c = 4
  · subst a4
    cases tx <;> (simp; try omega)
  by_cases a5 : c = 5
  · subst a5
    cases tx <;> (simp; try omega)
  simp [a1, a2, a3, a4, a5]
theorem sins : Contract Try.prog 143 (Ent.rd1 sinsG).F := by
  refine fun_contract' (KnowsL.cons (enters_fn Try.func111 (by kernel_rfl) (by kernel_rfl)) l1In (KnowsL.cons (enters_fn Try.func165 (by kernel_rfl) (by kernel_rfl)) l1Num KnowsL.nil)).knows (Λ := look []) Try.func143 (c := Try.f143.body.getD .skip) (by kernel_rfl) fun vs bs r' hq hv hb => ?_
  unfold Ent.F sinsG at hq
  dsimp only at hq
  split at hq
  · obtain ⟨hc, hx⟩ := need_some hq
    exact ⟨loopsOk_nil _, (sins_fun _ _ _ _ _ _ _ _ (of_decide_eq_true hc)).trans hx⟩
  · cases hq

/-- The place i of a program is good. -/
def plB (l : List Ins) (i : Nat) : Bool := match l[i]? with
  | some (c, kd, no, nm, tx, to, _) => decide (c = 5 ↔ (i : Int) = (l.length : Int) - 1) && insM c kd no nm tx to i l.length
  | none => true
def plS (l : List Ins) (i : Nat) : Bool := (List.range l.length).drop i |>.all (plB l)
def goodPB (l : List Ins) : Bool := decide (1 ≤ l.length ∧ l.length ≤ 60) && plS l 0
def goodPG : List V → List Blk → Br (V × List (Option Blk))
  | [.agg [.sl (.pair (.int .i64) (.pair (.int .i64) (.pair (.int .i64) (.pair (.int .i64) (.pair .str (.pair (.int .i64) .unit)))))) l]], [] => .leaf (.b (goodPB l), [])
  | _, _ => .no
def igpE : LoopEnt := ⟨26, [1,11,12,13], [], [2], fun
  | ([.ptr 0 0, .sl (.pair (.int .i64) (.pair (.int .i64) (.pair (.int .i64) (.pair (.int .i64) (.pair .str (.pair (.int .i64) .unit)))))) l, .i .i64 n, .i .i64 i], [some (.box [.sl (.pair (.int .i64) (.pair (.int .i64) (.pair (.int .i64) (.pair (.int .i64) (.pair .str (.pair (.int .i64) .unit)))))) q])]) => .need (decide (0 ≤ i ∧ i.toNat ≤ l.length ∧ n = l.length ∧ q.length = l.length ∧ l.length ≤ 60)) (.br (plS l i.toNat) (.leaf (.exit 0, ([], []))) (.leaf (.ret, ([.b false], []))))
  | _ => .no⟩
def sgpE : LoopEnt := ⟨37, [3,13,14,15], [], [2], fun
  | ([.i .i64 m, .sl (.pair (.int .i64) (.pair (.int .i64) (.pair (.int .i64) (.pair (.int .i64) (.pair .str (.pair (.int .i64) .unit)))))) l, .i .i64 n, .i .i64 i], []) => .need (decide (0 ≤ i ∧ i.toNat ≤ l.length ∧ n = l.length ∧ m = l.length ∧ l.length ≤ 60)) (.br (plS l i.toNat) (.leaf (.exit 0, ([], []))) (.leaf (.ret, ([.b false], []))))
  | _ => .no⟩

theorem igp_round (l q : List Ins) (n i : Int) : roundK Try.prog (look [(66, .rd1 withinG), (99, .rd1 iinsG)]) (look [(4, igpE)]) 0 (body Try.f35 0) igpE ([.ptr 0 0, .sl (.pair (.int .i64) (.pair (.int .i64) (.pair (.int .i64) (.pair (.int .i64) (.pair .str (.pair (.int .i64) .unit)))))) l, .i .i64 n, .i .i64 i], [some (.box [.sl (.pair (.int .i64) (.pair (.int .i64) (.pair (.int .i64) (.pair (.int .i64) (.pair .str (.pair (.int .i64) .unit)))))) q])]) =
  ((ifB (decide (i < n)) (ifT (decide ((0 : Int) ≤ i) && decide (i < (↑l.length : Int))) (ifSome l[i.toNat]? fun z => ifT (decide ((0 : Int) ≤ i ∧ i < (↑q.length : Int) ∧
 (↑q.length : Int) ≤ (8000000 : Int))) (ifB (!(decide (z.fst = (5 : Int) ↔ i = (↑q.length : Int) - (1 : Int)) && insM z.fst z.snd.fst z.snd.snd.fst z.snd.snd.snd.fst
 z.snd.snd.snd.snd.fst z.snd.snd.snd.snd.snd.fst i (↑q.length : Int))) (some (Ex.ret, [V.b false], [])) (some (Ex.normal, [V.ptr 0 0, V.sl ((Cd.int .i64).pair ((Cd.int
 .i64).pair ((Cd.int .i64).pair ((Cd.int .i64).pair (Cd.str.pair ((Cd.int .i64).pair Cd.unit)))))) l, V.i .i64 n, V.i .i64 (IntKind.i64.wrap (i + (1 : Int)))], [some
 (Blk.box [V.sl ((Cd.int .i64).pair ((Cd.int .i64).pair ((Cd.int .i64).pair ((Cd.int .i64).pair (Cd.str.pair ((Cd.int .i64).pair Cd.unit)))))) q])]))))) (some (Ex.exit 0,
 [], []))) : _) := by kernel_rfl
theorem sgp_round (l : List Ins) (m n i : Int) : roundK Try.prog (look [(111, .rd1 withinG), (143, .rd1 sinsG)]) (look [(5, sgpE)]) 0 (body Try.f94 0) sgpE ([.i .i64 m, .sl (.pair (.int .i64) (.pair (.int .i64) (.pair (.int .i64) (.pair (.int .i64) (.pair .str (.pair (.int .i64) .unit)))))) l, .i .i64 n, .i .i64 i], []) =
  ((ifB (decide (i < n)) (ifT (decide ((0 : Int) ≤ i) && decide (i < (↑l.length : Int))) (ifSome l[i.toNat]? fun z => ifT (decide ((0 : Int) ≤ i ∧ i < m ∧ m ≤ (8000000 :
 Int))) (ifB (!(decide ((z.fst = (4 : Int) → i < m - (1 : Int)) ∧ (z.fst = (5 : Int) → i = m - (1 : Int))) && insM z.fst z.snd.fst z.snd.snd.fst z.snd.snd.snd.fst
 z.snd.snd.snd.snd.fst z.snd.snd.snd.snd.snd.fst i m)) (some (Ex.ret, [V.b false], [])) (ifB (i == IntKind.i64.wrap (m - (1 : Int))) (ifB (z.fst != (5 : Int)) (some
 (Ex.ret, [V.b false], [])) (some (Ex.normal, [V.i .i64 m, V.sl ((Cd.int .i64).pair ((Cd.int .i64).pair ((Cd.int .i64).pair ((Cd.int .i64).pair (Cd.str.pair ((Cd.int
 .i64).pair Cd.unit)))))) l, V.i .i64 n, V.i .i64 (IntKind.i64.wrap (i + (1 : Int)))], []))) (some (Ex.normal, [V.i .i64 m, V.sl ((Cd.int .i64).pair ((Cd.int .i64).pair
 ((Cd.int .i64).pair ((Cd.int .i64).pair (Cd.str.pair ((Cd.int .i64).pair Cd.unit)))))) l, V.i .i64 n, V.i .i64 (IntKind.i64.wrap (i + (1 : Int)))], [])))))) (some
 (Ex.exit 0, [], []))) : _) := by kernel_rfl
theorem igp_tree (l : List Ins) : funK Try.prog (look [(66, .rd1 withinG), (99, .rd1 iinsG)]) (look [(4, igpE)]) Try.f35 [.agg [.sl (.pair (.int .i64) (.pair (.int .i64) (.pair (.int .i64) (.pair (.int .i64) (.pair .str (.pair (.int .i64) .unit)))))) l]] [] =
  ((ifB (!decide ((1 : Int) ≤ (↑l.length : Int) ∧ (↑l.length : Int) ≤ (60 : Int))) (some (V.b false, [])) (ifT (decide ((0 : Int) ≤ (0 : Int) ∧ (0 : Nat) ≤ l.length ∧
 (↑l.length : Int) = (↑l.length : Int) ∧ l.length = l.length ∧ l.length ≤ (60 : Nat))) (ifB (plS l (0 : Nat)) (some (V.b true, [])) (some (V.b false, []))))) : _) := by kernel_rfl
theorem sgp_tree (l : List Ins) : funK Try.prog (look [(111, .rd1 withinG), (143, .rd1 sinsG)]) (look [(5, sgpE)]) Try.f94 [.agg [.sl (.pair (.int .i64) (.pair (.int .i64) (.pair (.int .i64) (.pair (.int .i64) (.pair .str (.pair (.int .i64) .unit)))))) l]] [] =
  ((ifB (!decide ((1 : Int) ≤ (↑l.length : Int) ∧ (↑l.length : Int) ≤ (60 : Int))) (some (V.b false, [])) (ifT (decide ((0 : Int) ≤ (0 : Int) ∧ (0 : Nat) ≤ l.length ∧
 (↑l.length : Int) = (↑l.length : Int) ∧ (↑l.length : Int) = (↑l.length : Int) ∧ l.length ≤ (60 : Nat))) (ifB (plS l (0 : Nat)) (some (V.b true, [])) (some (V.b false,
 []))))) : _) := by kernel_rfl
theorem igoodP_rd (l q : List Ins) (hq : q.length = l.length) (hl : l.length ≤ 60) (k : Nat) (hk : k < (List.range l.length).length) : roundK Try.prog (look [(66, .rd1 withinG), (99, .rd1 iinsG)]) (look [(4, igpE)]) 0 (body Try.f35 0) igpE ([.ptr 0 0, .sl (.pair (.int .i64) (.pair (.int .i64) (.pair (.int .i64) (.pair (.int .i64) (.pair .str (.pair (.int .i64) .unit)))))) l, .i .i64 (l.length : Int), .i .i64 (k : Int)], [some (.box [.sl (.pair (.int .i64) (.pair (.int .i64) (.pair (.int .i64) (.pair (.int .i64) (.pair .str (.pair (.int .i64) .unit)))))) q])]) = some (bif plB l (List.range l.length)[k] then ((.normal : Ex), (([.ptr 0 0, .sl (.pair (.int .i64) (.pair (.int .i64) (.pair (.int .i64) (.pair (.int .i64) (.pair .str (.pair (.int .i64) .unit)))))) l, .i .i64 (l.length : Int), .i .i64 ((k + 1 : Nat) : Int)], [some (.box [.sl (.pair (.int .i64) (.pair (.int .i64) (.pair (.int .i64) (.pair (.int .i64) (.pair .str (.pair (.int .i64) .unit)))))) q])]) : Dt)) else (.ret, ([.b false], []))) := by
  have hk' : k < l.length := by rw [List.length_range] at hk; exact hk
  rw [List.getElem_range, igp_round]
  have w1 : IntKind.i64.wrap ((k : Int) + 1) = ((k + 1 : Nat) : Int) := by rw [wrap_id (by omega) (by omega)]; omega
  rw [ifB_true (decide_eq_true (by omega)), ifT_true (by simp only [Bool.and_eq_true, decide_eq_true_eq]; omega)]
  simp only [Int.toNat_natCast]
  unfold plB
  rw [List.getElem?_eq_getElem hk']
  show ifT _ _ = _
  generalize l[k] = z
  obtain ⟨c, kd, no, nm, tx, to, ⟨⟩⟩ := z
  dsimp only
  rw [hq, w1, ifT_true (decide_eq_true (by omega))]
  generalize (decide (c = 5 ↔ (k : Int) = (l.length : Int) - 1) && insM c kd no nm tx to (k : Int) (l.length : Int)) = b
  cases b <;> rfl
theorem igoodP_ok : LoopsOk Try.prog (look [(66, .rd1 withinG), (99, .rd1 iinsG)]) (look [(4, igpE)]) 0 (Try.f35.body.getD .skip) := by
  refine loopsOk_one (a := body Try.f35 0) (by kernel_rfl) fun d ex d' h => ?_
  unfold igpE at h
  dsimp only at h
  split at h
  · rename_i l n i q
    obtain ⟨hc, hx⟩ := need_some h
    obtain ⟨k1, k2, k3, k4, k5⟩ := of_decide_eq_true hc
    obtain ⟨k, rfl⟩ := Int.eq_ofNat_of_zero_le k1
    simp only [Int.toNat_natCast] at k2 hx
    subst k3
    exact runs_all (l := List.range l.length) (ex := ((.exit 0 : Ex), ([], []))) (rt := ((.ret : Ex), ([.b false], []))) (plB l) (fun j => ([.ptr 0 0, .sl (.pair (.int .i64) (.pair (.int .i64) (.pair (.int .i64) (.pair (.int .i64) (.pair .str (.pair (.int .i64) .unit)))))) l, .i .i64 (l.length : Int), .i .i64 (j : Int)], [some (.box [.sl (.pair (.int .i64) (.pair (.int .i64) (.pair (.int .i64) (.pair (.int .i64) (.pair .str (.pair (.int .i64) .unit)))))) q])])) (by simp) (by simp) (igoodP_rd l q k4 k5) (by
      rw [List.length_range, igp_round, ifB_false (decide_eq_false (by omega))]) (l.length - k) k (by rw [List.length_range]; omega) ex d' hx
  · cases h
theorem igoodP_fun (l : List Ins) : funK Try.prog (look [(66, .rd1 withinG), (99, .rd1 iinsG)]) (look [(4, igpE)]) Try.f35 [.agg [.sl (.pair (.int .i64) (.pair (.int .i64) (.pair (.int .i64) (.pair (.int .i64) (.pair .str (.pair (.int .i64) .unit)))))) l]] [] = some (.b (goodPB l), []) := by
  rw [igp_tree]
  unfold goodPB
  by_cases h : 1 ≤ l.length ∧ l.length ≤ 60
  · rw [decide_eq_true h, decide_eq_true (show (1 : Int) ≤ (l.length : Int) ∧ (l.length : Int) ≤ 60 by omega), Bool.not_true, ifB_f, ifT_true (decide_eq_true (by refine ⟨by omega, by omega, rfl, rfl, h.2⟩)), Bool.true_and]
    cases plS l 0 <;> rfl
  · rw [decide_eq_false h, decide_eq_false (show ¬ ((1 : Int) ≤ (l.length : Int) ∧ (l.length : Int) ≤ 60) by omega)]
    rfl
theorem igoodP : Contract Try.prog 35 (Ent.rd1 goodPG).F := by
  refine fun_contract' (KnowsL.cons (enters_fn Try.func66 (by kernel_rfl) (by kernel_rfl)) within (KnowsL.cons (enters_fn Try.func99 (by kernel_rfl) (by kernel_rfl)) iins KnowsL.nil)).knows (Λ := (look [(4, igpE)])) Try.func35 (c := Try.f35.body.getD .skip) (by kernel_rfl) fun vs bs r' hq hv hb => ?_
  unfold Ent.F goodPG at hq
  dsimp only at hq
  split at hq
  · exact ⟨igoodP_ok, (igoodP_fun _).trans hq⟩
  · cases hq
theorem sgoodP_rd (l : List Ins)  (hl : l.length ≤ 60) (k : Nat) (hk : k < (List.range l.length).length) : roundK Try.prog (look [(111, .rd1 withinG), (143, .rd1 sinsG)]) (look [(5, sgpE)]) 0 (body Try.f94 0) sgpE ([.i .i64 (l.length : Int), .sl (.pair (.int .i64) (.pair (.int .i64) (.pair (.int .i64) (.pair (.int .i64) (.pair .str (.pair (.int .i64) .unit)))))) l, .i .i64 (l.length : Int), .i .i64 (k : Int)], []) = some (bif plB l (List.range l.length)[k] then ((.normal : Ex), (([.i .i64 (l.length : Int), .sl (.pair (.int .i64) (.pair (.int .i64) (.pair (.int .i64) (.pair (.int .i64) (.pair .str (.pair (.int .i64) .unit)))))) l, .i .i64 (l.length : Int), .i .i64 ((k + 1 : Nat) : Int)], []) : Dt)) else (.ret, ([.b false], []))) := by
  have hk' : k < l.length := by rw [List.length_range] at hk; exact hk
  rw [List.getElem_range, sgp_round]
  have w1 : IntKind.i64.wrap ((k : Int) + 1) = ((k + 1 : Nat) : Int) := by rw [wrap_id (by omega) (by omega)]; omega
  rw [ifB_true (decide_eq_true (by omega)), ifT_true (by simp only [Bool.and_eq_true, decide_eq_true_eq]; omega)]
  simp only [Int.toNat_natCast]
  unfold plB
  rw [List.getElem?_eq_getElem hk']
  show ifT _ _ = _
  generalize l[k] = z
  obtain ⟨c, kd, no, nm, tx, to, ⟨⟩⟩ := z
  dsimp only
  have w2 : IntKind.i64.wrap ((l.length : Int) - 1) = (l.length : Int) - 1 := wrap_id (by omega) (by omega)
  rw [w1, w2, ifT_true (decide_eq_true (by omega))]
  cases insM c kd no nm tx to (k : Int) (l.length : Int) with
  | false => simp only [Bool.and_false]; rfl
  | true =>
    simp only [Bool.and_true]
    by_cases a : (k : Int) = (l.length : Int) - 1
    · rw [show ((k : Int) == (l.length : Int) - 1) = true from beq_iff_eq.2 a]
      by_cases b : c = 5
      · subst b
        rw [decide_eq_true (show ((5 : Int) = 4 → (k : Int) < (l.length : Int) - 1) ∧ ((5 : Int) = 5 → (k : Int) = (l.length : Int) - 1) from ⟨fun h => by omega, fun _ => a⟩), decide_eq_true (show (5 : Int) = 5 ↔ (k : Int) = (l.length : Int) - 1 from ⟨fun _ => a, fun _ => rfl⟩)]
        rfl
      · rw [decide_eq_false (show ¬ (c = 5 ↔ (k : Int) = (l.length : Int) - 1) from fun h => b (h.2 a)), show (c != 5) = true from bne_iff_ne.2 b]
        cases decide ((c = 4 → (k : Int) < (l.length : Int) - 1) ∧ (c = 5 → (k : Int) = (l.length : Int) - 1)) <;> rfl
    · rw [show ((k : Int) == (l.length : Int) - 1) = false from beq_eq_false_iff_ne.2 a]
      by_cases b : c = 5
      · rw [decide_eq_false (show ¬ (c = 5 ↔ (k : Int) = (l.length : Int) - 1) from fun h => a (h.1 b)), decide_eq_false (fun h => a (h.2 b))]
        rfl
      · rw [decide_eq_true (show (c = 5 ↔ (k : Int) = (l.length : Int) - 1) from ⟨fun h => absurd h b, fun h => absurd h a⟩), decide_eq_true ⟨fun _ => by omega, fun h => absurd h b⟩]
        rfl
theorem sgoodP_ok : LoopsOk Try.prog (look [(111, .rd1 withinG), (143, .rd1 sinsG)]) (look [(5, sgpE)]) 0 (Try.f94.body.getD .skip) := by
  refine loopsOk_one (a := body Try.f94 0) (by kernel_rfl) fun d ex d' h => ?_
  unfold sgpE at h
  dsimp only at h
  split at h
  · rename_i m l n i
    obtain ⟨hc, hx⟩ := need_some h
    obtain ⟨k1, k2, k3, k4, k5⟩ := of_decide_eq_true hc
    obtain ⟨k, rfl⟩ := Int.eq_ofNat_of_zero_le k1
    simp only [Int.toNat_natCast] at k2 hx
    subst k3 k4
    exact runs_all (l := List.range l.length) (ex := ((.exit 0 : Ex), ([], []))) (rt := ((.ret : Ex), ([.b false], []))) (plB l) (fun j => ([.i .i64 (l.length : Int), .sl (.pair (.int .i64) (.pair (.int .i64) (.pair (.int .i64) (.pair (.int .i64) (.pair .str (.pair (.int .i64) .unit)))))) l, .i .i64 (l.length : Int), .i .i64 (j : Int)], [])) (by simp) (by simp) (sgoodP_rd l  k5) (by
      rw [List.length_range, sgp_round, ifB_false (decide_eq_false (by omega))]) (l.length - k) k (by rw [List.length_range]; omega) ex d' hx
  · cases h
theorem sgoodP_fun (l : List Ins) : funK Try.prog (look [(111, .rd1 withinG), (143, .rd1 sinsG)]) (look [(5, sgpE)]) Try.f94 [.agg [.sl (.pair (.int .i64) (.pair (.int .i64) (.pair (.int .i64) (.pair (.int .i64) (.pair .str (.pair (.int .i64) .unit)))))) l]] [] = some (.b (goodPB l), []) := by
  rw [sgp_tree]
  unfold goodPB
  by_cases h : 1 ≤ l.length ∧ l.length ≤ 60
  · rw [decide_eq_true h, decide_eq_true (show (1 : Int) ≤ (l.length : Int) ∧ (l.length : Int) ≤ 60 by omega), Bool.not_true, ifB_f, ifT_true (decide_eq_true (by refine ⟨by omega, by omega, rfl, rfl, h.2⟩)), Bool.true_and]
    cases plS l 0 <;> rfl
  · rw [decide_eq_false h, decide_eq_false (show ¬ ((1 : Int) ≤ (l.length : Int) ∧ (l.length : Int) ≤ 60) by omega)]
    rfl
theorem sgoodP : Contract Try.prog 94 (Ent.rd1 goodPG).F := by
  refine fun_contract' (KnowsL.cons (enters_fn Try.func111 (by kernel_rfl) (by kernel_rfl)) l1In (KnowsL.cons (enters_fn Try.func143 (by kernel_rfl) (by kernel_rfl)) sins KnowsL.nil)).knows (Λ := (look [(5, sgpE)])) Try.func94 (c := Try.f94.body.getD .skip) (by kernel_rfl) fun vs bs r' hq hv hb => ?_
  unfold Ent.F goodPG at hq
  dsimp only at hq
  split at hq
  · exact ⟨sgoodP_ok, (sgoodP_fun _).trans hq⟩
  · cases hq

def stepsG : List V → List Blk → Br (V × List (Option Blk))
  | [.agg [.sl (.pair (.int .i64) (.pair (.int .i64) (.pair (.int .i64) (.pair (.int .i64) (.pair .str (.pair (.int .i64) .unit)))))) l]], [] => .leaf (.tup [.i .i64 (bif goodPB l then (l.length : Int) else 0), .b (goodPB l)], [])
  | _, _ => .no

theorem isteps_fun (l : List Ins) : funK Try.prog (look [(35, .rd1 goodPG)]) (look []) Try.f32 [.agg [.sl (.pair (.int .i64) (.pair (.int .i64) (.pair (.int .i64) (.pair (.int .i64) (.pair .str (.pair (.int .i64) .unit)))))) l]] [] = some (.tup [.i .i64 (bif goodPB l then (l.length : Int) else 0), .b (goodPB l)], []) := by
  have e : funK Try.prog (look [(35, .rd1 goodPG)]) (look []) Try.f32 [.agg [.sl (.pair (.int .i64) (.pair (.int .i64) (.pair (.int .i64) (.pair (.int .i64) (.pair .str (.pair (.int .i64) .unit)))))) l]] [] = ((ifB (!goodPB l) (some (V.tup [V.i .i64 0, V.b false], [])) (some (V.tup [V.i .i64 (↑l.length : Int), V.b true], []))) : _) := by kernel_rfl
  rw [e]
  clear e
  cases goodPB l <;> rfl
theorem isteps : Contract Try.prog 32 (Ent.rd1 stepsG).F := by
  refine fun_contract' (KnowsL.cons (enters_fn Try.func35 (by kernel_rfl) (by kernel_rfl)) igoodP KnowsL.nil).knows (Λ := look []) Try.func32 (c := Try.f32.body.getD .skip) (by kernel_rfl) fun vs bs r' hq hv hb => ?_
  unfold Ent.F stepsG at hq
  dsimp only at hq
  split at hq
  · exact ⟨loopsOk_nil _, (isteps_fun _).trans hq⟩
  · cases hq
theorem ssteps_fun (l : List Ins) : funK Try.prog (look [(94, .rd1 goodPG)]) (look []) Try.f33 [.agg [.sl (.pair (.int .i64) (.pair (.int .i64) (.pair (.int .i64) (.pair (.int .i64) (.pair .str (.pair (.int .i64) .unit)))))) l]] [] = some (.tup [.i .i64 (bif goodPB l then (l.length : Int) else 0), .b (goodPB l)], []) := by
  have e : funK Try.prog (look [(94, .rd1 goodPG)]) (look []) Try.f33 [.agg [.sl (.pair (.int .i64) (.pair (.int .i64) (.pair (.int .i64) (.pair (.int .i64) (.pair .str (.pair (.int .i64) .unit)))))) l]] [] = ((ifB (!goodPB l) (some (V.tup [V.i .i64 0, V.b false], [])) (some (V.tup [V.i .i64 (↑l.length : Int), V.b true], []))) : _) := by kernel_rfl
  rw [e]
  clear e
  cases goodPB l <;> rfl
theorem ssteps : Contract Try.prog 33 (Ent.rd1 stepsG).F := by
  refine fun_contract' (KnowsL.cons (enters_fn Try.func94 (by kernel_rfl) (by kernel_rfl)) sgoodP KnowsL.nil).knows (Λ := look []) Try.func33 (c := Try.f33.body.getD .skip) (by kernel_rfl) fun vs bs r' hq hv hb => ?_
  unfold Ent.F stepsG at hq
  dsimp only at hq
  split at hq
  · exact ⟨loopsOk_nil _, (ssteps_fun _).trans hq⟩
  · cases hq

def isJ (k : Int) (z : Ins) : Bool := z.1 == 3 && z.2.2.2.2.2.1 == k
def ledB (l : List Ins) (k : Int) : Bool := !(l.all fun z => !isJ k z)
def ledG : List V → List Blk → Br (V × List (Option Blk))
  | [.sl (.pair (.int .i64) (.pair (.int .i64) (.pair (.int .i64) (.pair (.int .i64) (.pair .str (.pair (.int .i64) .unit)))))) l, .i .i64 k], [] => .need (decide (l.length ≤ 8000000)) (.leaf (.b (ledB l k), []))
  | _, _ => .no
def sledE : LoopEnt := ⟨23, [1,7,8,9], [], [4], fun
  | ([.i .i64 k, .sl (.pair (.int .i64) (.pair (.int .i64) (.pair (.int .i64) (.pair (.int .i64) (.pair .str (.pair (.int .i64) .unit)))))) l, .i .i64 n, .i .i64 i], []) => .need (decide (0 ≤ i ∧ i.toNat ≤ l.length ∧ n = l.length ∧ l.length ≤ 8000000)) (.br ((l.drop i.toNat).all fun z => !isJ k z) (.leaf (.exit 0, ([], []))) (.leaf (.ret, ([.b true], []))))
  | _ => .no⟩

theorem sled_round (k : Int) (l : List Ins) (n i : Int) : roundK Try.prog (look []) (look [(2, sledE)]) 0 (body Try.f149 0) sledE ([.i .i64 k, .sl (.pair (.int .i64) (.pair (.int .i64) (.pair (.int .i64) (.pair (.int .i64) (.pair .str (.pair (.int .i64) .unit)))))) l, .i .i64 n, .i .i64 i], []) =
  ((ifB (decide (i < n)) (ifT (decide ((0 : Int) ≤ i) && decide (i < (↑l.length : Int))) (ifSome l[i.toNat]? fun z => ifB (z.fst == (3 : Int)) (ifB (z.snd.snd.snd.snd.snd.fst
 == k) (some (Ex.ret, [V.b true], [])) (some (Ex.normal, [V.i .i64 k, V.sl ((Cd.int .i64).pair ((Cd.int .i64).pair ((Cd.int .i64).pair ((Cd.int .i64).pair (Cd.str.pair
 ((Cd.int .i64).pair Cd.unit)))))) l, V.i .i64 n, V.i .i64 (IntKind.i64.wrap (i + (1 : Int)))], []))) (some (Ex.normal, [V.i .i64 k, V.sl ((Cd.int .i64).pair ((Cd.int
 .i64).pair ((Cd.int .i64).pair ((Cd.int .i64).pair (Cd.str.pair ((Cd.int .i64).pair Cd.unit)))))) l, V.i .i64 n, V.i .i64 (IntKind.i64.wrap (i + (1 : Int)))], []))))
 (some (Ex.exit 0, [], []))) : _) := by kernel_rfl
theorem sled_rd (k : Int) (l : List Ins) (hl : l.length ≤ 8000000) (j : Nat) (hk : j < l.length) : roundK Try.prog (look []) (look [(2, sledE)]) 0 (body Try.f149 0) sledE ([.i .i64 k, .sl (.pair (.int .i64) (.pair (.int .i64) (.pair (.int .i64) (.pair (.int .i64) (.pair .str (.pair (.int .i64) .unit)))))) l, .i .i64 (l.length : Int), .i .i64 (j : Int)], []) = some (bif !isJ k l[j] then ((.normal : Ex), (([.i .i64 k, .sl (.pair (.int .i64) (.pair (.int .i64) (.pair (.int .i64) (.pair (.int .i64) (.pair .str (.pair (.int .i64) .unit)))))) l, .i .i64 (l.length : Int), .i .i64 ((j + 1 : Nat) : Int)], []) : Dt)) else (.ret, ([.b true], []))) := by
  rw [sled_round]
  have w1 : IntKind.i64.wrap ((j : Int) + 1) = ((j + 1 : Nat) : Int) := by rw [wrap_id (by omega) (by omega)]; omega
  rw [ifB_true (decide_eq_true (by omega)), ifT_true (by simp only [Bool.and_eq_true, decide_eq_true_eq]; omega)]
  simp only [Int.toNat_natCast]
  rw [List.getElem?_eq_getElem hk, w1]
  unfold isJ
  generalize l[j] = z
  cases h1 : z.1 == 3 <;> cases h2 : z.2.2.2.2.2.1 == k <;> simp [ifSome, ifB, h1, h2]
theorem sled_tree (l : List Ins) (k : Int) : funK Try.prog (look []) (look [(2, sledE)]) Try.f149 [.sl (.pair (.int .i64) (.pair (.int .i64) (.pair (.int .i64) (.pair (.int .i64) (.pair .str (.pair (.int .i64) .unit)))))) l, .i .i64 k] [] =
  ((ifT (decide ((0 : Int) ≤ (0 : Int) ∧ (0 : Nat) ≤ l.length ∧ (↑l.length : Int) = (↑l.length : Int) ∧ l.length ≤ (8000000 : Nat))) (ifB ((List.drop (0 : Nat) l).all fun z =>
 !isJ k z) (some (V.b false, [])) (some (V.b true, [])))) : _) := by kernel_rfl
theorem sled_ok : LoopsOk Try.prog (look []) (look [(2, sledE)]) 0 (Try.f149.body.getD .skip) := by
  refine loopsOk_one (a := body Try.f149 0) (by kernel_rfl) fun d ex d' h => ?_
  unfold sledE at h
  dsimp only at h
  split at h
  · rename_i k l n i
    obtain ⟨hc, hx⟩ := need_some h
    obtain ⟨k1, k2, k3, k4⟩ := of_decide_eq_true hc
    obtain ⟨j, rfl⟩ := Int.eq_ofNat_of_zero_le k1
    simp only [Int.toNat_natCast] at k2 hx
    subst k3
    exact runs_all (l := l) (ex := ((.exit 0 : Ex), ([], []))) (rt := ((.ret : Ex), ([.b true], []))) (fun z => !isJ k z) (fun j => ([.i .i64 k, .sl (.pair (.int .i64) (.pair (.int .i64) (.pair (.int .i64) (.pair (.int .i64) (.pair .str (.pair (.int .i64) .unit)))))) l, .i .i64 (l.length : Int), .i .i64 (j : Int)], [])) (by simp) (by simp) (sled_rd k l k4) (by
      rw [sled_round, ifB_false (decide_eq_false (by omega))]) (l.length - j) j (by omega) ex d' hx
  · cases h
theorem sled_fun (l : List Ins) (k : Int) (hl : l.length ≤ 8000000) : funK Try.prog (look []) (look [(2, sledE)]) Try.f149 [.sl (.pair (.int .i64) (.pair (.int .i64) (.pair (.int .i64) (.pair (.int .i64) (.pair .str (.pair (.int .i64) .unit)))))) l, .i .i64 k] [] = some (.b (ledB l k), []) := by
  rw [sled_tree, ifT_true (decide_eq_true (by refine ⟨by omega, by omega, rfl, hl⟩))]
  unfold ledB
  rw [List.drop_zero]
  cases l.all fun z => !isJ k z <;> rfl
theorem sled : Contract Try.prog 149 (Ent.rd1 ledG).F := by
  refine fun_contract' KnowsL.nil.knows (Λ := (look [(2, sledE)])) Try.func149 (c := Try.f149.body.getD .skip) (by kernel_rfl) fun vs bs r' hq hv hb => ?_
  unfold Ent.F ledG at hq
  dsimp only at hq
  split at hq
  · obtain ⟨hc, hx⟩ := need_some hq
    exact ⟨sled_ok, (sled_fun _ _ (of_decide_eq_true hc)).trans hx⟩
  · cases hq

instance decIns0 : DecidableEq (List UInt8 × Int × Unit) := inferInstance
instance decIns : DecidableEq Ins := inferInstance
def samePG : List V → List Blk → Br (V × List (Option Blk))
  | [.agg [.sl (.pair (.int .i64) (.pair (.int .i64) (.pair (.int .i64) (.pair (.int .i64) (.pair .str (.pair (.int .i64) .unit)))))) a], .agg [.sl (.pair (.int .i64) (.pair (.int .i64) (.pair (.int .i64) (.pair (.int .i64) (.pair .str (.pair (.int .i64) .unit)))))) b]], [] => .leaf (.b (decide (eqT (List Ins) a b)), [])
  | _, _ => .no
def samePE : LoopEnt := ⟨31, [2,3,15,16], [], [4], fun
  | ([.ptr 0 0, .ptr 1 0, .i .i64 k, .i .i64 i], [some (.box [.sl (.pair (.int .i64) (.pair (.int .i64) (.pair (.int .i64) (.pair (.int .i64) (.pair .str (.pair (.int .i64) .unit)))))) a]), some (.box [.sl (.pair (.int .i64) (.pair (.int .i64) (.pair (.int .i64) (.pair (.int .i64) (.pair .str (.pair (.int .i64) .unit)))))) b])]) => .need (decide (0 ≤ i ∧ i.toNat ≤ a.length ∧ k = a.length ∧ a.length = b.length ∧ a.length ≤ maxI)) (.br (decide (eqT (List Ins) (a.drop i.toNat) (b.drop i.toNat))) (.leaf (.exit 0, ([], []))) (.leaf (.ret, ([.b false], []))))
  | _ => .no⟩

theorem sameP_round (a b : List Ins) (k i : Int) : roundK Try.prog (look []) (look [(4, samePE)]) 0 (body Try.f34 0) samePE ([.ptr 0 0, .ptr 1 0, .i .i64 k, .i .i64 i], [some (.box [.sl (.pair (.int .i64) (.pair (.int .i64) (.pair (.int .i64) (.pair (.int .i64) (.pair .str (.pair (.int .i64) .unit)))))) a]), some (.box [.sl (.pair (.int .i64) (.pair (.int .i64) (.pair (.int .i64) (.pair (.int .i64) (.pair .str (.pair (.int .i64) .unit)))))) b])]) =
  ((ifB (decide (i < k)) (ifT (decide ((0 : Int) ≤ i) && decide (i < (↑a.length : Int))) (ifSome a[i.toNat]? fun z => ifT (decide ((0 : Int) ≤ i) && decide (i < (↑b.length :
 Int))) (ifSome b[i.toNat]? fun z_1 => ifB (!(z.fst == z_1.fst && (z.snd.fst == z_1.snd.fst && (z.snd.snd.fst == z_1.snd.snd.fst && (z.snd.snd.snd.fst ==
 z_1.snd.snd.snd.fst && (z.snd.snd.snd.snd.fst == z_1.snd.snd.snd.snd.fst && (z.snd.snd.snd.snd.snd.fst == z_1.snd.snd.snd.snd.snd.fst && true))))))) (some (Ex.ret, [V.b
 false], [])) (some (Ex.normal, [V.ptr 0 0, V.ptr 1 0, V.i .i64 k, V.i .i64 (IntKind.i64.wrap (i + (1 : Int)))], [some (Blk.box [V.sl ((Cd.int .i64).pair ((Cd.int
 .i64).pair ((Cd.int .i64).pair ((Cd.int .i64).pair (Cd.str.pair ((Cd.int .i64).pair Cd.unit)))))) a]), some (Blk.box [V.sl ((Cd.int .i64).pair ((Cd.int .i64).pair
 ((Cd.int .i64).pair ((Cd.int .i64).pair (Cd.str.pair ((Cd.int .i64).pair Cd.unit)))))) b])]))))) (some (Ex.exit 0, [], []))) : _) := by kernel_rfl
theorem ins_eq (z y : Ins) : (z.1 == y.1 && (z.2.1 == y.2.1 && (z.2.2.1 == y.2.2.1 && (z.2.2.2.1 == y.2.2.2.1 && (z.2.2.2.2.1 == y.2.2.2.2.1 && (z.2.2.2.2.2.1 == y.2.2.2.2.2.1 && true)))))) = decide (eqT Ins z y) := by
  obtain ⟨a1, a2, a3, a4, a5, a6, ⟨⟩⟩ := z
  obtain ⟨b1, b2, b3, b4, b5, b6, ⟨⟩⟩ := y
  rw [Bool.eq_iff_iff]
  simp only [Bool.and_eq_true, beq_iff_eq, decide_eq_true_eq, eqT, Prod.mk.injEq, and_true]
theorem sameP_loop (a b : List Ins) (hab : a.length = b.length) (hm : a.length ≤ maxI) : ∀ (j i : Nat), i + j = a.length → ∀ ex d, (Br.br (decide (eqT (List Ins) (a.drop i) (b.drop i))) (.leaf (.exit 0, ([], []))) (.leaf (.ret, ([.b false], []))) : Br (Ex × Dt)).run = some (ex, d) →
    Runs Try.prog (look []) (look [(4, samePE)]) 0 (body Try.f34 0) samePE ([.ptr 0 0, .ptr 1 0, .i .i64 (a.length : Int), .i .i64 (i : Int)], [some (.box [.sl (.pair (.int .i64) (.pair (.int .i64) (.pair (.int .i64) (.pair (.int .i64) (.pair .str (.pair (.int .i64) .unit)))))) a]), some (.box [.sl (.pair (.int .i64) (.pair (.int .i64) (.pair (.int .i64) (.pair (.int .i64) (.pair .str (.pair (.int .i64) .unit)))))) b])]) ex d
  | 0, i, hi, ex, d, h => by
    have hr := sameP_round a b a.length i
    rw [ifB_false (decide_eq_false (by omega))] at hr
    rw [List.drop_eq_nil_of_le (by omega), List.drop_eq_nil_of_le (by omega), decide_eq_true rfl] at h
    have h8 := leaf_some h
    obtain ⟨rfl, rfl⟩ := Prod.mk.inj h8
    exact .stop _ _ _ hr (by simp)
  | j + 1, i, hi, ex, d, h => by
    have hl : i < a.length := by omega
    have hl2 : i < b.length := by omega
    have hM : maxI = 9223372036854775807 := rfl
    have hr := sameP_round a b a.length i
    rw [ifB_true (decide_eq_true (by omega)), ifT_true (by simp only [Bool.and_eq_true, decide_eq_true_eq]; omega), Int.toNat_natCast, List.getElem?_eq_getElem hl, ifSome_s, ifT_true (by simp only [Bool.and_eq_true, decide_eq_true_eq]; omega), List.getElem?_eq_getElem hl2, ifSome_s, wrap_succ (n := i) (by omega), ins_eq] at hr
    rw [List.drop_eq_getElem_cons hl, List.drop_eq_getElem_cons hl2, br_run] at h
    by_cases q : a[i] = b[i]
    · rw [decide_eq_true (show eqT Ins a[i] b[i] from q), Bool.not_true, ifB_f] at hr
      refine .step _ _ _ _ hr (sameP_loop a b hab hm j (i + 1) (by omega) ex d ?_)
      rw [br_run, ← h]
      by_cases q2 : a.drop (i + 1) = b.drop (i + 1)
      · rw [if_pos q2, if_pos (show eqT (List Ins) _ _ by unfold eqT; rw [q, q2])]
      · rw [if_neg q2, if_neg (fun hh => q2 (List.cons.inj hh).2)]
    · rw [decide_eq_false (show ¬ eqT Ins a[i] b[i] from q), Bool.not_false, ifB_t] at hr
      rw [if_neg (fun hh => q (List.cons.inj hh).1)] at h
      have h8 := leaf_some h
      obtain ⟨rfl, rfl⟩ := Prod.mk.inj h8
      exact .stop _ _ _ hr (by simp)
theorem sameP_ok : LoopsOk Try.prog (look []) (look [(4, samePE)]) 0 (Try.f34.body.getD .skip) := by
  refine loopsOk_one (a := body Try.f34 0) (by kernel_rfl) fun d ex d' h => ?_
  unfold samePE at h
  dsimp only at h
  split at h
  · rename_i k i a b
    obtain ⟨hc, hx⟩ := need_some h
    clear h
    obtain ⟨h0, h1, rfl, h3, h4⟩ := of_decide_eq_true hc
    obtain ⟨i, rfl⟩ := Int.eq_ofNat_of_zero_le h0
    simp only [Int.toNat_natCast] at h1 hx
    exact sameP_loop a b h3 h4 (a.length - i) i (by omega) ex d' hx
  · cases h
theorem sameP : Contract Try.prog 34 (Ent.rd1 samePG).F := by
  refine fun_contract' KnowsL.nil.knows (Λ := (look [(4, samePE)])) Try.func34 (c := Try.f34.body.getD .skip) (by kernel_rfl) fun vs bs r hq hv hb => ?_
  unfold Ent.F samePG at hq
  dsimp only at hq
  split at hq
  · rename_i a b
    have hm : a.length ≤ maxI := (hv (.agg [.sl (.pair (.int .i64) (.pair (.int .i64) (.pair (.int .i64) (.pair (.int .i64) (.pair .str (.pair (.int .i64) .unit)))))) a]) (by simp) (.sl (.pair (.int .i64) (.pair (.int .i64) (.pair (.int .i64) (.pair (.int .i64) (.pair .str (.pair (.int .i64) .unit)))))) a) (by simp)).1
    refine ⟨sameP_ok, Eq.trans ?_ hq⟩
    have e : funK Try.prog (look []) (look [(4, samePE)]) Try.f34 [.agg [.sl (.pair (.int .i64) (.pair (.int .i64) (.pair (.int .i64) (.pair (.int .i64) (.pair .str (.pair (.int .i64) .unit)))))) a], .agg [.sl (.pair (.int .i64) (.pair (.int .i64) (.pair (.int .i64) (.pair (.int .i64) (.pair .str (.pair (.int .i64) .unit)))))) b]] [] = ((ifB ((↑a.length : Int) != (↑b.length : Int)) (some (V.b false, [])) (ifT (decide ((0 : Int) ≤ (0 : Int) ∧ (0 : Nat) ≤ a.length ∧ (↑a.length : Int) = (↑a.length : Int) ∧
 a.length = b.length ∧ a.length ≤ maxI)) (ifB (decide (eqT (List Ins) (List.drop (0 : Nat) a) (List.drop (0 : Nat) b))) (some (V.b true, [])) (some (V.b false, []))))) : _) := by kernel_rfl
    rw [e]
    clear e
    by_cases h : a.length = b.length
    · rw [ifB_false (by rw [h]; simp), ifT_true (decide_eq_true ⟨by omega, by omega, rfl, h, hm⟩), List.drop_zero, List.drop_zero]
      cases decide (eqT (List Ins) a b) <;> rfl
    · rw [ifB_true (by simpa using fun hh => h (by omega)), decide_eq_false (fun hh : eqT (List Ins) a b => h (by rw [show a = b from hh]))]
      rfl
  · cases hq

/-- What a test tells of a field. -/
def fldB (kd nm : Int) (tx : List UInt8) (fk fn : Int) (fd : List UInt8) : Bool :=
  bif kd == 1 then fk == 0 && fn == nm else bif kd == 2 then fk == 0 && decide (fn < nm) else bif kd == 3 then fk == 0 && decide (fn > nm) else bif kd == 5 then !(fk == 0) && (decide (tx.length ≤ fd.length) && fd.take tx.length == tx) else true
def stestG : List V → List Blk → Br (V × List (Option Blk))
  | [.agg [.i .i64 c, .i .i64 kd, .i .i64 no, .i .i64 nm, .s tx, .i .i64 to], .agg [.i .i64 fo, .i .i64 fk, .i .i64 fn, .s fd]], [] => .leaf (.b (fldB kd nm tx fk fn fd), [])
  | _, _ => .no

theorem stest_tree (c kd no nm : Int) (tx : List UInt8) (to fo fk fn : Int) (fd : List UInt8) : funK Try.prog (look []) (look []) Try.f145 [.agg [.i .i64 c, .i .i64 kd, .i .i64 no, .i .i64 nm, .s tx, .i .i64 to], .agg [.i .i64 fo, .i .i64 fk, .i .i64 fn, .s fd]] [] =
  ((ifB (kd == (1 : Int)) (ifB (fk == (0 : Int)) (some (V.b (fn == nm), [])) (some (V.b false, []))) (ifB (kd == (2 : Int)) (ifB (fk == (0 : Int)) (some (V.b (decide (fn <
 nm)), [])) (some (V.b false, []))) (ifB (kd == (3 : Int)) (ifB (fk == (0 : Int)) (some (V.b (decide (fn > nm)), [])) (some (V.b false, []))) (ifB (kd == (5 : Int)) (ifB
 (!fk == (0 : Int)) (ifB (decide ((↑fd.length : Int) ≥ (↑tx.length : Int))) (ifT (decide ((0 : Int) ≤ (↑tx.length : Int)) && decide ((↑tx.length : Int) ≤ (↑fd.length :
 Int))) (some (V.b (List.take ((↑tx.length : Int).toNat - (0 : Nat)) (List.drop (0 : Nat) fd) == tx), []))) (some (V.b false, []))) (some (V.b false, []))) (some (V.b
 true, [])))))) : _) := by kernel_rfl
theorem stest_fun (c kd no nm : Int) (tx : List UInt8) (to fo fk fn : Int) (fd : List UInt8) : funK Try.prog (look []) (look []) Try.f145 [.agg [.i .i64 c, .i .i64 kd, .i .i64 no, .i .i64 nm, .s tx, .i .i64 to], .agg [.i .i64 fo, .i .i64 fk, .i .i64 fn, .s fd]] [] = some (.b (fldB kd nm tx fk fn fd), []) := by
  rw [stest_tree]
  have e : (ifB (decide ((fd.length : Int) ≥ (tx.length : Int))) (ifT (decide ((0 : Int) ≤ (tx.length : Int)) && decide ((tx.length : Int) ≤ (fd.length : Int))) (some ((V.b (List.take ((tx.length : Int).toNat - (0 : Nat)) (List.drop (0 : Nat) fd) == tx), []) : V × List (Option Blk)))) (some (V.b false, []))) = some (V.b (decide (tx.length ≤ fd.length) && fd.take tx.length == tx), []) := by
    by_cases h : tx.length ≤ fd.length
    · rw [ifB_true (decide_eq_true (by omega)), ifT_true (by simp only [Bool.and_eq_true, decide_eq_true_eq]; omega), decide_eq_true h, Int.toNat_natCast, Nat.sub_zero, List.drop_zero, Bool.true_and]
    · rw [ifB_false (decide_eq_false (by omega)), decide_eq_false h, Bool.false_and]
  rw [e]
  clear e
  simp only [ifB_bool]
  refine congrArg (fun b => some (V.b b, [])) ?_
  unfold fldB
  generalize (decide (tx.length ≤ fd.length) && fd.take tx.length == tx) = p
  cases kd == 1 <;> cases kd == 2 <;> cases kd == 3 <;> cases kd == 5 <;> cases fk == 0 <;> simp
theorem stest : Contract Try.prog 145 (Ent.rd1 stestG).F := by
  refine fun_contract' KnowsL.nil.knows (Λ := look []) Try.func145 (c := Try.f145.body.getD .skip) (by kernel_rfl) fun vs bs r' hq hv hb => ?_
  unfold Ent.F stestG at hq
  dsimp only at hq
  split at hq
  · exact ⟨loopsOk_nil _, (stest_fun _ _ _ _ _ _ _ _ _ _).trans hq⟩
  · cases hq

/-- A number's bytes: its worth, how many they are, whether they are right. -/
def tv : Nat → List UInt8 → Nat → Nat → Option (Nat × Nat × Bool)
  | 0, _, _, _ => none
  | _ + 1, [], _, _ => none
  | f + 1, b :: l, i, n => if b.toNat < 128 then some (n + b.toNat % 128 * 2 ^ (7 * i), i + 1, decide (n + b.toNat % 128 * 2 ^ (7 * i) ≤ 2000000001) && (decide (0 < b.toNat) || decide (i = 0))) else tv f l (i + 1) (n + b.toNat % 128 * 2 ^ (7 * i))
def tvAt (s : List UInt8) (a : Nat) : Option (Nat × Nat × Bool) := tv 5 (s.drop a) 0 0
/-- The parts of what is told. -/
def tvI1 : Option (Nat × Nat × Bool) → Int | some (n, _, _) => n | none => 0
def tvI2 (a : Nat) : Option (Nat × Nat × Bool) → Int | some (_, k, _) => ((a + k : Nat) : Int) | none => 0
def tvI3 : Option (Nat × Nat × Bool) → Bool | some (_, _, ok) => ok | none => false
def tvS1 : Option (Nat × Nat × Bool) → Int | some (n, _, true) => n | _ => 0
def tvS2 (a : Nat) : Option (Nat × Nat × Bool) → Int | some (_, k, true) => ((a + k : Nat) : Int) | _ => 0
def tviE : LoopEnt := ⟨52, [0,1,7,8], [], [4,5,6], fun
  | ([.s s, .i .i64 a, .i .i64 n, .i .i64 i], []) => .need (decide (0 ≤ a ∧ 0 ≤ n ∧ 0 ≤ i ∧ i ≤ 5 ∧ n.toNat < 2 ^ (7 * i.toNat) ∧ s.length ≤ 4000000000 ∧ a ≤ 4000000000)) (.br (tv (5 - i.toNat) (s.drop (a.toNat + i.toNat)) i.toNat n.toNat).isSome (.leaf (.ret, ([.i .i64 (tvI1 (tv (5 - i.toNat) (s.drop (a.toNat + i.toNat)) i.toNat n.toNat)), .i .i64 (tvI2 a.toNat (tv (5 - i.toNat) (s.drop (a.toNat + i.toNat)) i.toNat n.toNat)), .b (tvI3 (tv (5 - i.toNat) (s.drop (a.toNat + i.toNat)) i.toNat n.toNat))], []))) (.leaf (.exit 0, ([], []))))
  | _ => .no⟩
def tviG : List V → List Blk → Br (V × List (Option Blk))
  | [.s s, .i .i64 a], [] => .need (decide (0 ≤ a ∧ s.length ≤ 4000000000 ∧ a ≤ 4000000000)) (.leaf (.tup [.i .i64 (tvI1 (tvAt s a.toNat)), .i .i64 (tvI2 a.toNat (tvAt s a.toNat)), .b (tvI3 (tvAt s a.toNat))], []))
  | _, _ => .no
def tvsE : LoopEnt := ⟨53, [0,1,7,8], [], [4,5,6], fun
  | ([.s s, .i .i64 a, .i .i64 n, .i .i64 i], []) => .need (decide (0 ≤ a ∧ 0 ≤ n ∧ 0 ≤ i ∧ i ≤ 5 ∧ n.toNat < 2 ^ (7 * i.toNat) ∧ s.length ≤ 4000000000 ∧ a ≤ 4000000000)) (.br (tv (5 - i.toNat) (s.drop (a.toNat + i.toNat)) i.toNat n.toNat).isSome (.leaf (.ret, ([.i .i64 (tvS1 (tv (5 - i.toNat) (s.drop (a.toNat + i.toNat)) i.toNat n.toNat)), .i .i64 (tvS2 a.toNat (tv (5 - i.toNat) (s.drop (a.toNat + i.toNat)) i.toNat n.toNat)), .b (tvI3 (tv (5 - i.toNat) (s.drop (a.toNat + i.toNat)) i.toNat n.toNat))], []))) (.leaf (.exit 0, ([], []))))
  | _ => .no⟩
def tvsG : List V → List Blk → Br (V × List (Option Blk))
  | [.s s, .i .i64 a], [] => .need (decide (0 ≤ a ∧ s.length ≤ 4000000000 ∧ a ≤ 4000000000)) (.leaf (.tup [.i .i64 (tvS1 (tvAt s a.toNat)), .i .i64 (tvS2 a.toNat (tvAt s a.toNat)), .b (tvI3 (tvAt s a.toNat))], []))
  | _, _ => .no

theorem low7 (n : Nat) (h : n < 256) : IntKind.u8.wrap ((BitVec.ofInt IntKind.u8.bits (n : Int) &&& BitVec.ofInt IntKind.u8.bits (127 : Int)).toNat : Int) = ((n % 128 : Nat) : Int) := by
  have e : (BitVec.ofInt IntKind.u8.bits (n : Int) &&& BitVec.ofInt IntKind.u8.bits (127 : Int)).toNat = n % 128 := by
    show (BitVec.ofInt 8 (n : Int) &&& BitVec.ofInt 8 ((127 : Nat) : Int)).toNat = n % 128
    rw [BitVec.toNat_and, BitVec.ofInt_natCast, BitVec.ofInt_natCast, BitVec.toNat_ofNat, BitVec.toNat_ofNat, show 127 % 2 ^ 8 = 2 ^ 7 - 1 by decide, Nat.and_two_pow_sub_one_eq_mod]
    show n % 256 % 128 = n % 128
    omega
  rw [e]
  unfold IntKind.wrap
  simp [IntKind.bits, IntKind.signed]
  omega
theorem low7' (n : Nat) (h : n < 256) : IntKind.i64.wrap ((BitVec.ofInt IntKind.i64.bits (n : Int) &&& BitVec.ofInt IntKind.i64.bits (127 : Int)).toNat : Int) = ((n % 128 : Nat) : Int) := by
  have e : (BitVec.ofInt IntKind.i64.bits (n : Int) &&& BitVec.ofInt IntKind.i64.bits (127 : Int)).toNat = n % 128 := by
    show (BitVec.ofInt 64 (n : Int) &&& BitVec.ofInt 64 ((127 : Nat) : Int)).toNat = n % 128
    rw [BitVec.toNat_and, BitVec.ofInt_natCast, BitVec.ofInt_natCast, BitVec.toNat_ofNat, BitVec.toNat_ofNat, show 127 % 2 ^ 64 = 2 ^ 7 - 1 by decide, Nat.and_two_pow_sub_one_eq_mod]
    show n % 18446744073709551616 % 128 = n % 128
    omega
  rw [e, wrap_id (by omega) (by omega)]
theorem pow7_le {i : Nat} (h : i ≤ 4) : 2 ^ (7 * i) ≤ 268435456 := by
  have : 2 ^ (7 * i) ≤ 2 ^ 28 := Nat.pow_le_pow_right (by decide) (by omega)
  have e : (2 : Nat) ^ 28 = 268435456 := by decide
  omega
theorem shl7 (x i : Nat) (hx : x < 128) (hi : i ≤ 4) : IntKind.i64.wrap ((x : Int) * (2 : Int) ^ min ((7 : Int) * (i : Int)).toNat IntKind.i64.bits) = ((x * 2 ^ (7 * i) : Nat) : Int) := by
  have hp := pow7_le hi
  have hm : x * 2 ^ (7 * i) ≤ 127 * 268435456 := Nat.mul_le_mul (by omega) hp
  have e1 : ((7 : Int) * (i : Int)).toNat = 7 * i := by omega
  have e2 : min (7 * i) IntKind.i64.bits = 7 * i := Nat.min_eq_left (by show 7 * i ≤ 64; omega)
  rw [e1, e2]
  have e3 : (x : Int) * (2 : Int) ^ (7 * i) = ((x * 2 ^ (7 * i) : Nat) : Int) := by simp
  rw [e3, wrap_id (by omega) (by omega)]
theorem wrapu_id {n : Int} (h1 : 0 ≤ n) (h2 : n ≤ 9223372036854775807) : IntKind.u64.wrap n = n := by
  unfold IntKind.wrap
  simp [IntKind.bits, IntKind.signed]
  omega
theorem or7 (n x i : Nat) (hn : n < 2 ^ (7 * i)) (hx : x < 128) (hi : i ≤ 4) : IntKind.i64.wrap ((BitVec.ofInt IntKind.i64.bits (n : Int) ||| BitVec.ofInt IntKind.i64.bits ((x * 2 ^ (7 * i) : Nat) : Int)).toNat : Int) = ((n + x * 2 ^ (7 * i) : Nat) : Int) := by
  have hp := pow7_le hi
  have hm : x * 2 ^ (7 * i) ≤ 127 * 268435456 := Nat.mul_le_mul (by omega) hp
  have e : (BitVec.ofInt IntKind.i64.bits (n : Int) ||| BitVec.ofInt IntKind.i64.bits ((x * 2 ^ (7 * i) : Nat) : Int)).toNat = n + x * 2 ^ (7 * i) := by
    show (BitVec.ofInt 64 (n : Int) ||| BitVec.ofInt 64 ((x * 2 ^ (7 * i) : Nat) : Int)).toNat = _
    rw [BitVec.toNat_or, BitVec.ofInt_natCast, BitVec.ofInt_natCast, BitVec.toNat_ofNat, BitVec.toNat_ofNat, Nat.mod_eq_of_lt (by omega), Nat.mod_eq_of_lt (by omega), Nat.mul_comm x, Nat.or_comm, ← Nat.two_pow_add_eq_or_of_lt hn x, Nat.add_comm]
  rw [e, wrap_id (by omega) (by omega)]
theorem tv_facts : ∀ (f : Nat) (l : List UInt8) (i n : Nat) {x : Nat × Nat × Bool}, i + f ≤ 5 → n < 2 ^ (7 * i) → tv f l i n = some x → x.1 < 2 ^ 35 ∧ i < x.2.1 ∧ x.2.1 ≤ i + l.length ∧ x.2.1 ≤ 5
  | 0, l, i, n, x, h1, h2, h => by rw [tv] at h; cases h
  | f + 1, [], i, n, x, h1, h2, h => by rw [tv] at h; cases h
  | f + 1, b :: l, i, n, x, h1, h2, h => by
    have hm : n + b.toNat % 128 * 2 ^ (7 * i) < 2 ^ (7 * (i + 1)) := by
      have h3 : b.toNat % 128 ≤ 127 := by omega
      have h4 : b.toNat % 128 * 2 ^ (7 * i) ≤ 127 * 2 ^ (7 * i) := Nat.mul_le_mul_right _ h3
      have h5 : 2 ^ (7 * (i + 1)) = 2 ^ (7 * i) * 128 := by rw [show 7 * (i + 1) = 7 * i + 7 by omega, Nat.pow_add]
      omega
    rw [tv] at h
    split at h
    · simp at h
      subst h
      have h6 : 2 ^ (7 * (i + 1)) ≤ 2 ^ 35 := Nat.pow_le_pow_right (by decide) (by omega)
      exact ⟨by omega, by simp, by simp <;> omega, by simp <;> omega⟩
    · obtain ⟨g1, g2, g3, g4⟩ := tv_facts f l (i + 1) _ (by omega) hm h
      exact ⟨g1, by omega, by simp; omega, g4⟩
theorem tvAt_facts {s : List UInt8} {a : Nat} {x : Nat × Nat × Bool} (h : tvAt s a = some x) : x.1 ≤ 34359738368 ∧ 0 < x.2.1 ∧ a + x.2.1 ≤ s.length ∧ x.2.1 ≤ 5 := by
  obtain ⟨h1, h2, h3, h4⟩ := tv_facts 5 _ 0 0 (by omega) (by decide) h
  rw [List.length_drop] at h3
  have e : (2 : Nat) ^ 35 = 34359738368 := by decide
  exact ⟨by omega, h2, by omega, h4⟩
theorem tvi_round (s : List UInt8) (a n i : Int) : roundK Try.prog (look []) (look [(3, tviE)]) 0 (body Try.f205 0) tviE ([.s s, .i .i64 a, .i .i64 n, .i .i64 i], []) =
  ((ifB (decide (i < (5 : Int))) (ifB (decide (IntKind.i64.wrap (a + i) < (↑s.length : Int))) (ifT (decide ((0 : Int) ≤ IntKind.i64.wrap (a + i))) (ifSome s[(IntKind.i64.wrap
 (a + i)).toNat]? fun z => ifT (decide ((0 : Int) ≤ IntKind.i64.wrap ((7 : Int) * i))) (ifB (decide ((↑z.toNat : Int) < (128 : Int))) (ifB (decide (IntKind.i64.wrap
 (↑(BitVec.ofInt IntKind.i64.bits n ||| BitVec.ofInt IntKind.i64.bits (IntKind.i64.wrap (IntKind.i64.wrap (IntKind.u8.wrap (↑(BitVec.ofInt IntKind.u8.bits (↑z.toNat : Int)
 &&& BitVec.ofInt IntKind.u8.bits (127 : Int)).toNat : Int)) * (2 : Int) ^ min (IntKind.i64.wrap ((7 : Int) * i)).toNat IntKind.i64.bits))).toNat : Int) ≤ (2000000001 :
 Int))) (ifB (decide ((↑z.toNat : Int) > (0 : Int))) (some (Ex.ret, [V.i .i64 (IntKind.i64.wrap (↑(BitVec.ofInt IntKind.i64.bits n ||| BitVec.ofInt IntKind.i64.bits
 (IntKind.i64.wrap (IntKind.i64.wrap (IntKind.u8.wrap (↑(BitVec.ofInt IntKind.u8.bits (↑z.toNat : Int) &&& BitVec.ofInt IntKind.u8.bits (127 : Int)).toNat : Int)) * (2 :
 Int) ^ min (IntKind.i64.wrap ((7 : Int) * i)).toNat IntKind.i64.bits))).toNat : Int)), V.i .i64 (IntKind.i64.wrap (IntKind.i64.wrap (a + i) + (1 : Int))), V.b true], []))
 (some (Ex.ret, [V.i .i64 (IntKind.i64.wrap (↑(BitVec.ofInt IntKind.i64.bits n ||| BitVec.ofInt IntKind.i64.bits (IntKind.i64.wrap (IntKind.i64.wrap (IntKind.u8.wrap
 (↑(BitVec.ofInt IntKind.u8.bits (↑z.toNat : Int) &&& BitVec.ofInt IntKind.u8.bits (127 : Int)).toNat : Int)) * (2 : Int) ^ min (IntKind.i64.wrap ((7 : Int) * i)).toNat
 IntKind.i64.bits))).toNat : Int)), V.i .i64 (IntKind.i64.wrap (IntKind.i64.wrap (a + i) + (1 : Int))), V.b (i == (0 : Int))], []))) (some (Ex.ret, [V.i .i64
 (IntKind.i64.wrap (↑(BitVec.ofInt IntKind.i64.bits n ||| BitVec.ofInt IntKind.i64.bits (IntKind.i64.wrap (IntKind.i64.wrap (IntKind.u8.wrap (↑(BitVec.ofInt
 IntKind.u8.bits (↑z.toNat : Int) &&& BitVec.ofInt IntKind.u8.bits (127 : Int)).toNat : Int)) * (2 : Int) ^ min (IntKind.i64.wrap ((7 : Int) * i)).toNat
 IntKind.i64.bits))).toNat : Int)), V.i .i64 (IntKind.i64.wrap (IntKind.i64.wrap (a + i) + (1 : Int))), V.b false], []))) (some (Ex.normal, [V.s s, V.i .i64 a, V.i .i64
 (IntKind.i64.wrap (↑(BitVec.ofInt IntKind.i64.bits n ||| BitVec.ofInt IntKind.i64.bits (IntKind.i64.wrap (IntKind.i64.wrap (IntKind.u8.wrap (↑(BitVec.ofInt
 IntKind.u8.bits (↑z.toNat : Int) &&& BitVec.ofInt IntKind.u8.bits (127 : Int)).toNat : Int)) * (2 : Int) ^ min (IntKind.i64.wrap ((7 : Int) * i)).toNat
 IntKind.i64.bits))).toNat : Int)), V.i .i64 (IntKind.i64.wrap (i + (1 : Int)))], []))))) (some (Ex.exit 0, [], []))) (some (Ex.exit 0, [], []))) : _) := by kernel_rfl
theorem tvi_loop (s : List UInt8) (a : Nat) (hs : s.length ≤ 4000000000) (ha : a ≤ 4000000000) : ∀ (j i n : Nat), i + j = 5 → n < 2 ^ (7 * i) → ∀ ex d, (Br.br (tv (5 - i) (s.drop (a + i)) i n).isSome (.leaf (.ret, ([.i .i64 (tvI1 (tv (5 - i) (s.drop (a + i)) i n)), .i .i64 (tvI2 a (tv (5 - i) (s.drop (a + i)) i n)), .b (tvI3 (tv (5 - i) (s.drop (a + i)) i n))], []))) (.leaf (.exit 0, ([], []))) : Br (Ex × Dt)).run = some (ex, d) →
    Runs Try.prog (look []) (look [(3, tviE)]) 0 (body Try.f205 0) tviE ([.s s, .i .i64 (a : Int), .i .i64 (n : Int), .i .i64 (i : Int)], []) ex d
  | 0, i, n, hi, hn, ex, d, h => by
    have hr := tvi_round s a n i
    rw [ifB_false (decide_eq_false (by omega))] at hr
    rw [show 5 - i = 0 by omega, tv] at h
    have h8 := leaf_some h
    obtain ⟨rfl, rfl⟩ := Prod.mk.inj h8
    exact .stop _ _ _ hr (by simp)
  | j + 1, i, n, hi, hn, ex, d, h => by
    have hr := tvi_round s a n i
    have hw : IntKind.i64.wrap ((a : Int) + (i : Int)) = ((a + i : Nat) : Int) := by rw [wrap_id (by omega) (by omega)]; omega
    rw [ifB_true (decide_eq_true (by omega)), hw] at hr
    rw [show 5 - i = (5 - (i + 1)) + 1 by omega] at h
    by_cases hl : a + i < s.length
    · rw [ifB_true (decide_eq_true (by omega)), ifT_true (decide_eq_true (by omega))] at hr
      have hz := s[a + i].toNat_lt
      have hx : s[a + i].toNat % 128 < 128 := Nat.mod_lt _ (by decide)
      have hp := pow7_le (i := i) (by omega)
      have hm : s[a + i].toNat % 128 * 2 ^ (7 * i) ≤ 127 * 268435456 := Nat.mul_le_mul (by omega) hp
      have hw7 : IntKind.i64.wrap ((7 : Int) * (i : Int)) = 7 * (i : Int) := wrap_id (by omega) (by omega)
      have hwc : IntKind.i64.wrap (s[a + i].toNat : Int) = (s[a + i].toNat : Int) := wrap_id (by omega) (by omega)
      have hu7 : IntKind.u64.wrap (7 * (i : Int)) = 7 * (i : Int) := wrapu_id (by omega) (by omega)
      have hwx : IntKind.i64.wrap ((s[a + i].toNat % 128 : Nat) : Int) = ((s[a + i].toNat % 128 : Nat) : Int) := wrap_id (by omega) (by omega)
      simp only [Int.toNat_natCast, List.getElem?_eq_getElem hl, ifSome_s, hw7, hu7, hwc, low7 _ hz, hwx, shl7 _ i hx (by omega), or7 n _ i hn hx (by omega)] at hr
      rw [ifT_true (decide_eq_true (by omega))] at hr
      rw [List.drop_eq_getElem_cons hl, tv] at h
      have hm2 : n + s[a + i].toNat % 128 * 2 ^ (7 * i) < 2 ^ (7 * (i + 1)) := by
        have h4 : s[a + i].toNat % 128 * 2 ^ (7 * i) ≤ 127 * 2 ^ (7 * i) := Nat.mul_le_mul_right _ (by omega)
        have h5 : 2 ^ (7 * (i + 1)) = 2 ^ (7 * i) * 128 := by rw [show 7 * (i + 1) = 7 * i + 7 by omega, Nat.pow_add]
        omega
      have hwi : IntKind.i64.wrap (((a + i : Nat) : Int) + 1) = ((a + (i + 1) : Nat) : Int) := by rw [wrap_id (by omega) (by omega)]; omega
      rw [wrap_succ (n := i) (by unfold maxI; omega)] at hr
      try rw [hwi] at hr
      generalize s[a + i].toNat % 128 * 2 ^ (7 * i) = y at *
      have hi0 : ((i : Int) == 0) = decide (i = 0) := by
        by_cases h : i = 0
        · subst h; rfl
        · rw [decide_eq_false h]; exact beq_false_of_ne (by omega)
      have hle : decide (((n + y : Nat) : Int) ≤ 2000000001) = decide (n + y ≤ 2000000001) := decide_eq_decide.2 (by omega)
      have hgt : decide (((n + y : Nat) : Int) > 2000000001) = !decide (n + y ≤ 2000000001) := by rw [← decide_not]; exact decide_eq_decide.2 (by omega)
      have hb0 : decide ((s[a + i].toNat : Int) > 0) = decide (0 < s[a + i].toNat) := decide_eq_decide.2 (by omega)
      have hbz : ((s[a + i].toNat : Int) == 0) = !decide (0 < s[a + i].toNat) := by
        by_cases h : s[a + i].toNat = 0
        · rw [h]; rfl
        · rw [decide_eq_true (by omega)]; exact beq_false_of_ne (by omega)
      have hig : decide ((i : Int) > 0) = !decide (i = 0) := by rw [← decide_not]; exact decide_eq_decide.2 (by omega)
      simp only [hi0, hle, hgt, hb0, hbz, hig] at hr
      by_cases hb : s[a + i].toNat < 128
      · rw [if_pos hb] at h
        rw [ifB_true (decide_eq_true (by omega))] at hr
        have h8 := leaf_some h
        obtain ⟨rfl, rfl⟩ := Prod.mk.inj h8
        refine .stop _ _ _ (hr.trans ?_) (by simp)
        cases decide (n + y ≤ 2000000001) <;> cases decide (0 < s[a + i].toNat) <;> cases decide (i = 0) <;> rfl
      · rw [if_neg hb] at h
        rw [ifB_false (decide_eq_false (by omega))] at hr
        exact .step _ _ _ _ hr (tvi_loop s a hs ha j (i + 1) (n + y) (by omega) hm2 ex d h)
    · rw [ifB_false (decide_eq_false (by omega))] at hr
      rw [List.drop_eq_nil_of_le (by omega), tv] at h
      have h8 := leaf_some h
      obtain ⟨rfl, rfl⟩ := Prod.mk.inj h8
      exact .stop _ _ _ hr (by simp)
theorem tvi_ok : LoopsOk Try.prog (look []) (look [(3, tviE)]) 0 (Try.f205.body.getD .skip) := by
  refine loopsOk_one (a := body Try.f205 0) (by kernel_rfl) fun d ex d' h => ?_
  unfold tviE at h
  dsimp only at h
  split at h
  · rename_i s a n i
    obtain ⟨hc, hx⟩ := need_some h
    clear h
    obtain ⟨h0, h1, h2, h3, h4, h5, h6⟩ := of_decide_eq_true hc
    obtain ⟨a, rfl⟩ := Int.eq_ofNat_of_zero_le h0
    obtain ⟨n, rfl⟩ := Int.eq_ofNat_of_zero_le h1
    obtain ⟨i, rfl⟩ := Int.eq_ofNat_of_zero_le h2
    simp only [Int.toNat_natCast] at h4 hx
    exact tvi_loop s a h5 (by omega) (5 - i) i n (by omega) h4 ex d' hx
  · cases h
theorem tvi : Contract Try.prog 205 (Ent.rd1 tviG).F := by
  refine fun_contract' KnowsL.nil.knows (Λ := (look [(3, tviE)])) Try.func205 (c := Try.f205.body.getD .skip) (by kernel_rfl) fun vs bs r hq hv hb => ?_
  unfold Ent.F tviG at hq
  dsimp only at hq
  split at hq
  · rename_i s a
    obtain ⟨hc, hx⟩ := need_some hq
    refine ⟨tvi_ok, Eq.trans ?_ hx⟩
    obtain ⟨h0, h1, h2⟩ := of_decide_eq_true hc
    obtain ⟨a, rfl⟩ := Int.eq_ofNat_of_zero_le h0
    have e : funK Try.prog (look []) (look [(3, tviE)]) Try.f205 [.s s, .i .i64 (a : Int)] [] = ((ifT (decide ((0 : Int) ≤ (↑a : Int) ∧ (0 : Int) ≤ (0 : Int) ∧ (0 : Int) ≤ (0 : Int) ∧ (0 : Int) ≤ (5 : Int) ∧ (0 : Nat) < (2 : Nat) ^ (0 : Nat) ∧ s.length ≤ (4000000000 :
 Nat) ∧ (↑a : Int) ≤ (4000000000 : Int))) (ifB (tv (5 : Nat) (List.drop ((↑a : Int).toNat + (0 : Nat)) s) (0 : Nat) (0 : Nat)).isSome (some (V.tup [V.i .i64 (tvI1 (tv (5 :
 Nat) (List.drop ((↑a : Int).toNat + (0 : Nat)) s) (0 : Nat) (0 : Nat))), V.i .i64 (tvI2 (↑a : Int).toNat (tv (5 : Nat) (List.drop ((↑a : Int).toNat + (0 : Nat)) s) (0 :
 Nat) (0 : Nat))), V.b (tvI3 (tv (5 : Nat) (List.drop ((↑a : Int).toNat + (0 : Nat)) s) (0 : Nat) (0 : Nat)))], [])) (some (V.tup [V.i .i64 0, V.i .i64 0, V.b false],
 [])))) : _) := by kernel_rfl
    rw [e]
    clear e
    rw [ifT_true (decide_eq_true ⟨by omega, by omega, by omega, by omega, by decide, h1, h2⟩)]
    simp only [Int.toNat_natCast, Nat.add_zero, Int.toNat_zero, Nat.sub_zero]
    show ifB (tvAt s a).isSome (some (V.tup [.i .i64 (tvI1 (tvAt s a)), .i .i64 (tvI2 a (tvAt s a)), .b (tvI3 (tvAt s a))], [])) _ = _
    cases tvAt s a <;> rfl
  · cases hq
theorem tvs_round (s : List UInt8) (a n i : Int) : roundK Try.prog (look []) (look [(3, tvsE)]) 0 (body Try.f209 0) tvsE ([.s s, .i .i64 a, .i .i64 n, .i .i64 i], []) =
  ((ifB (decide (i < (5 : Int))) (ifB (decide (IntKind.i64.wrap (a + i) < (↑s.length : Int))) (ifT (decide ((0 : Int) ≤ IntKind.i64.wrap (a + i))) (ifSome s[(IntKind.i64.wrap
 (a + i)).toNat]? fun z => ifT (decide ((0 : Int) ≤ IntKind.u64.wrap (IntKind.i64.wrap ((7 : Int) * i)))) (ifB (decide (IntKind.i64.wrap (↑z.toNat : Int) < (128 : Int)))
 (ifB (decide (i > (0 : Int))) (ifB (IntKind.i64.wrap (↑z.toNat : Int) == (0 : Int)) (some (Ex.ret, [V.i .i64 0, V.i .i64 0, V.b false], [])) (ifB (decide
 (IntKind.i64.wrap (↑(BitVec.ofInt IntKind.i64.bits n ||| BitVec.ofInt IntKind.i64.bits (IntKind.i64.wrap (IntKind.i64.wrap (↑(BitVec.ofInt IntKind.i64.bits
 (IntKind.i64.wrap (↑z.toNat : Int)) &&& BitVec.ofInt IntKind.i64.bits (127 : Int)).toNat : Int) * (2 : Int) ^ min (IntKind.u64.wrap (IntKind.i64.wrap ((7 : Int) *
 i))).toNat IntKind.i64.bits))).toNat : Int) > (2000000001 : Int))) (some (Ex.ret, [V.i .i64 0, V.i .i64 0, V.b false], [])) (some (Ex.ret, [V.i .i64 (IntKind.i64.wrap
 (↑(BitVec.ofInt IntKind.i64.bits n ||| BitVec.ofInt IntKind.i64.bits (IntKind.i64.wrap (IntKind.i64.wrap (↑(BitVec.ofInt IntKind.i64.bits (IntKind.i64.wrap (↑z.toNat :
 Int)) &&& BitVec.ofInt IntKind.i64.bits (127 : Int)).toNat : Int) * (2 : Int) ^ min (IntKind.u64.wrap (IntKind.i64.wrap ((7 : Int) * i))).toNat IntKind.i64.bits))).toNat
 : Int)), V.i .i64 (IntKind.i64.wrap (IntKind.i64.wrap (a + i) + (1 : Int))), V.b true], [])))) (ifB (decide (IntKind.i64.wrap (↑(BitVec.ofInt IntKind.i64.bits n |||
 BitVec.ofInt IntKind.i64.bits (IntKind.i64.wrap (IntKind.i64.wrap (↑(BitVec.ofInt IntKind.i64.bits (IntKind.i64.wrap (↑z.toNat : Int)) &&& BitVec.ofInt IntKind.i64.bits
 (127 : Int)).toNat : Int) * (2 : Int) ^ min (IntKind.u64.wrap (IntKind.i64.wrap ((7 : Int) * i))).toNat IntKind.i64.bits))).toNat : Int) > (2000000001 : Int))) (some
 (Ex.ret, [V.i .i64 0, V.i .i64 0, V.b false], [])) (some (Ex.ret, [V.i .i64 (IntKind.i64.wrap (↑(BitVec.ofInt IntKind.i64.bits n ||| BitVec.ofInt IntKind.i64.bits
 (IntKind.i64.wrap (IntKind.i64.wrap (↑(BitVec.ofInt IntKind.i64.bits (IntKind.i64.wrap (↑z.toNat : Int)) &&& BitVec.ofInt IntKind.i64.bits (127 : Int)).toNat : Int) * (2
 : Int) ^ min (IntKind.u64.wrap (IntKind.i64.wrap ((7 : Int) * i))).toNat IntKind.i64.bits))).toNat : Int)), V.i .i64 (IntKind.i64.wrap (IntKind.i64.wrap (a + i) + (1 :
 Int))), V.b true], [])))) (some (Ex.normal, [V.s s, V.i .i64 a, V.i .i64 (IntKind.i64.wrap (↑(BitVec.ofInt IntKind.i64.bits n ||| BitVec.ofInt IntKind.i64.bits
 (IntKind.i64.wrap (IntKind.i64.wrap (↑(BitVec.ofInt IntKind.i64.bits (IntKind.i64.wrap (↑z.toNat : Int)) &&& BitVec.ofInt IntKind.i64.bits (127 : Int)).toNat : Int) * (2
 : Int) ^ min (IntKind.u64.wrap (IntKind.i64.wrap ((7 : Int) * i))).toNat IntKind.i64.bits))).toNat : Int)), V.i .i64 (IntKind.i64.wrap (i + (1 : Int)))], []))))) (some
 (Ex.exit 0, [], []))) (some (Ex.exit 0, [], []))) : _) := by kernel_rfl
theorem tvs_loop (s : List UInt8) (a : Nat) (hs : s.length ≤ 4000000000) (ha : a ≤ 4000000000) : ∀ (j i n : Nat), i + j = 5 → n < 2 ^ (7 * i) → ∀ ex d, (Br.br (tv (5 - i) (s.drop (a + i)) i n).isSome (.leaf (.ret, ([.i .i64 (tvS1 (tv (5 - i) (s.drop (a + i)) i n)), .i .i64 (tvS2 a (tv (5 - i) (s.drop (a + i)) i n)), .b (tvI3 (tv (5 - i) (s.drop (a + i)) i n))], []))) (.leaf (.exit 0, ([], []))) : Br (Ex × Dt)).run = some (ex, d) →
    Runs Try.prog (look []) (look [(3, tvsE)]) 0 (body Try.f209 0) tvsE ([.s s, .i .i64 (a : Int), .i .i64 (n : Int), .i .i64 (i : Int)], []) ex d
  | 0, i, n, hi, hn, ex, d, h => by
    have hr := tvs_round s a n i
    rw [ifB_false (decide_eq_false (by omega))] at hr
    rw [show 5 - i = 0 by omega, tv] at h
    have h8 := leaf_some h
    obtain ⟨rfl, rfl⟩ := Prod.mk.inj h8
    exact .stop _ _ _ hr (by simp)
  | j + 1, i, n, hi, hn, ex, d, h => by
    have hr := tvs_round s a n i
    have hw : IntKind.i64.wrap ((a : Int) + (i : Int)) = ((a + i : Nat) : Int) := by rw [wrap_id (by omega) (by omega)]; omega
    rw [ifB_true (decide_eq_true (by omega)), hw] at hr
    rw [show 5 - i = (5 - (i + 1)) + 1 by omega] at h
    by_cases hl : a + i < s.length
    · rw [ifB_true (decide_eq_true (by omega)), ifT_true (decide_eq_true (by omega))] at hr
      have hz := s[a + i].toNat_lt
      have hx : s[a + i].toNat % 128 < 128 := Nat.mod_lt _ (by decide)
      have hp := pow7_le (i := i) (by omega)
      have hm : s[a + i].toNat % 128 * 2 ^ (7 * i) ≤ 127 * 268435456 := Nat.mul_le_mul (by omega) hp
      have hw7 : IntKind.i64.wrap ((7 : Int) * (i : Int)) = 7 * (i : Int) := wrap_id (by omega) (by omega)
      have hwc : IntKind.i64.wrap (s[a + i].toNat : Int) = (s[a + i].toNat : Int) := wrap_id (by omega) (by omega)
      have hu7 : IntKind.u64.wrap (7 * (i : Int)) = 7 * (i : Int) := wrapu_id (by omega) (by omega)
      have hwx : IntKind.i64.wrap ((s[a + i].toNat % 128 : Nat) : Int) = ((s[a + i].toNat % 128 : Nat) : Int) := wrap_id (by omega) (by omega)
      simp only [Int.toNat_natCast, List.getElem?_eq_getElem hl, ifSome_s, hw7, hu7, hwc, low7' _ hz, hwx, shl7 _ i hx (by omega), or7 n _ i hn hx (by omega)] at hr
      rw [ifT_true (decide_eq_true (by omega))] at hr
      rw [List.drop_eq_getElem_cons hl, tv] at h
      have hm2 : n + s[a + i].toNat % 128 * 2 ^ (7 * i) < 2 ^ (7 * (i + 1)) := by
        have h4 : s[a + i].toNat % 128 * 2 ^ (7 * i) ≤ 127 * 2 ^ (7 * i) := Nat.mul_le_mul_right _ (by omega)
        have h5 : 2 ^ (7 * (i + 1)) = 2 ^ (7 * i) * 128 := by rw [show 7 * (i + 1) = 7 * i + 7 by omega, Nat.pow_add]
        omega
      have hwi : IntKind.i64.wrap (((a + i : Nat) : Int) + 1) = ((a + (i + 1) : Nat) : Int) := by rw [wrap_id (by omega) (by omega)]; omega
      rw [wrap_succ (n := i) (by unfold maxI; omega)] at hr
      try rw [hwi] at hr
      generalize s[a + i].toNat % 128 * 2 ^ (7 * i) = y at *
      have hi0 : ((i : Int) == 0) = decide (i = 0) := by
        by_cases h : i = 0
        · subst h; rfl
        · rw [decide_eq_false h]; exact beq_false_of_ne (by omega)
      have hle : decide (((n + y : Nat) : Int) ≤ 2000000001) = decide (n + y ≤ 2000000001) := decide_eq_decide.2 (by omega)
      have hgt : decide (((n + y : Nat) : Int) > 2000000001) = !decide (n + y ≤ 2000000001) := by rw [← decide_not]; exact decide_eq_decide.2 (by omega)
      have hb0 : decide ((s[a + i].toNat : Int) > 0) = decide (0 < s[a + i].toNat) := decide_eq_decide.2 (by omega)
      have hbz : ((s[a + i].toNat : Int) == 0) = !decide (0 < s[a + i].toNat) := by
        by_cases h : s[a + i].toNat = 0
        · rw [h]; rfl
        · rw [decide_eq_true (by omega)]; exact beq_false_of_ne (by omega)
      have hig : decide ((i : Int) > 0) = !decide (i = 0) := by rw [← decide_not]; exact decide_eq_decide.2 (by omega)
      simp only [hi0, hle, hgt, hb0, hbz, hig] at hr
      by_cases hb : s[a + i].toNat < 128
      · rw [if_pos hb] at h
        rw [ifB_true (decide_eq_true (by omega))] at hr
        have h8 := leaf_some h
        obtain ⟨rfl, rfl⟩ := Prod.mk.inj h8
        refine .stop _ _ _ (hr.trans ?_) (by simp)
        cases decide (n + y ≤ 2000000001) <;> cases decide (0 < s[a + i].toNat) <;> cases decide (i = 0) <;> rfl
      · rw [if_neg hb] at h
        rw [ifB_false (decide_eq_false (by omega))] at hr
        exact .step _ _ _ _ hr (tvs_loop s a hs ha j (i + 1) (n + y) (by omega) hm2 ex d h)
    · rw [ifB_false (decide_eq_false (by omega))] at hr
      rw [List.drop_eq_nil_of_le (by omega), tv] at h
      have h8 := leaf_some h
      obtain ⟨rfl, rfl⟩ := Prod.mk.inj h8
      exact .stop _ _ _ hr (by simp)
theorem tvs_ok : LoopsOk Try.prog (look []) (look [(3, tvsE)]) 0 (Try.f209.body.getD .skip) := by
  refine loopsOk_one (a := body Try.f209 0) (by kernel_rfl) fun d ex d' h => ?_
  unfold tvsE at h
  dsimp only at h
  split at h
  · rename_i s a n i
    obtain ⟨hc, hx⟩ := need_some h
    clear h
    obtain ⟨h0, h1, h2, h3, h4, h5, h6⟩ := of_decide_eq_true hc
    obtain ⟨a, rfl⟩ := Int.eq_ofNat_of_zero_le h0
    obtain ⟨n, rfl⟩ := Int.eq_ofNat_of_zero_le h1
    obtain ⟨i, rfl⟩ := Int.eq_ofNat_of_zero_le h2
    simp only [Int.toNat_natCast] at h4 hx
    exact tvs_loop s a h5 (by omega) (5 - i) i n (by omega) h4 ex d' hx
  · cases h
theorem tvs : Contract Try.prog 209 (Ent.rd1 tvsG).F := by
  refine fun_contract' KnowsL.nil.knows (Λ := (look [(3, tvsE)])) Try.func209 (c := Try.f209.body.getD .skip) (by kernel_rfl) fun vs bs r hq hv hb => ?_
  unfold Ent.F tvsG at hq
  dsimp only at hq
  split at hq
  · rename_i s a
    obtain ⟨hc, hx⟩ := need_some hq
    refine ⟨tvs_ok, Eq.trans ?_ hx⟩
    obtain ⟨h0, h1, h2⟩ := of_decide_eq_true hc
    obtain ⟨a, rfl⟩ := Int.eq_ofNat_of_zero_le h0
    have e : funK Try.prog (look []) (look [(3, tvsE)]) Try.f209 [.s s, .i .i64 (a : Int)] [] = ((ifT (decide ((0 : Int) ≤ (↑a : Int) ∧ (0 : Int) ≤ (0 : Int) ∧ (0 : Int) ≤ (0 : Int) ∧ (0 : Int) ≤ (5 : Int) ∧ (0 : Nat) < (2 : Nat) ^ (0 : Nat) ∧ s.length ≤ (4000000000 :
 Nat) ∧ (↑a : Int) ≤ (4000000000 : Int))) (ifB (tv (5 : Nat) (List.drop ((↑a : Int).toNat + (0 : Nat)) s) (0 : Nat) (0 : Nat)).isSome (some (V.tup [V.i .i64 (tvS1 (tv (5 :
 Nat) (List.drop ((↑a : Int).toNat + (0 : Nat)) s) (0 : Nat) (0 : Nat))), V.i .i64 (tvS2 (↑a : Int).toNat (tv (5 : Nat) (List.drop ((↑a : Int).toNat + (0 : Nat)) s) (0 :
 Nat) (0 : Nat))), V.b (tvI3 (tv (5 : Nat) (List.drop ((↑a : Int).toNat + (0 : Nat)) s) (0 : Nat) (0 : Nat)))], [])) (some (V.tup [V.i .i64 0, V.i .i64 0, V.b false],
 [])))) : _) := by kernel_rfl
    rw [e]
    clear e
    rw [ifT_true (decide_eq_true ⟨by omega, by omega, by omega, by omega, by decide, h1, h2⟩)]
    simp only [Int.toNat_natCast, Nat.add_zero, Int.toNat_zero, Nat.sub_zero]
    show ifB (tvAt s a).isSome (some (V.tup [.i .i64 (tvS1 (tvAt s a)), .i .i64 (tvS2 a (tvAt s a)), .b (tvI3 (tvAt s a))], [])) _ = _
    cases tvAt s a <;> rfl
  · cases hq

end Go.Proofs.Ytfkoljiioikdfaa.Den
