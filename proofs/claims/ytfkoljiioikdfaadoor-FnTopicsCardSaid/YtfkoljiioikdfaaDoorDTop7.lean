/- What functions of the program do, by the machine: Top7. -/
import Derived.Test.YtfkoljiioikdfaaDoorDTop6
import Derived.KernelRfl
import Derived.Test.YtfkoljiioikdfaaDoorRows
namespace Go.Proofs.YtfkoljiioikdfaaDoor.Den
open Go.Proofs
set_option maxRecDepth 100000
/-- Levels of a pattern, as they are read. -/
def pt : List (List UInt8) → Bool
  | [] => true
  | x :: l => (lev x || (x == [43] || (x == [35] && l.isEmpty))) && pt l
def sgtopE : LoopEnt := ⟨21, [3,8,9,10], [3], [2], fun
  | ([.ref 0 0 k, .ref 0 0 k2, .i .i64 m, .i .i64 i], [some (.row false none .str l)]) => .need (decide (0 ≤ i ∧ k = l.length ∧ k2 = l.length ∧ m = l.length ∧ i.toNat ≤ l.length ∧ l.length ≤ 5000000000 ∧ ∀ z ∈ l, z.length ≤ 4000000000)) (.br ((l.drop i.toNat).all lev) (.leaf (.exit 0, ([.ref 0 0 l.length], [some (.row false none .str l)]))) (.leaf (.ret, ([.b false], []))))
  | _ => .no⟩
def sgpatE : LoopEnt := ⟨37, [3,8,9,10], [3], [2], fun
  | ([.ref 0 0 k, .ref 0 0 k2, .i .i64 m, .i .i64 i], [some (.row false none .str l)]) => .need (decide (0 ≤ i ∧ k = l.length ∧ k2 = l.length ∧ m = l.length ∧ i.toNat ≤ l.length ∧ l.length ≤ 5000000000 ∧ ∀ z ∈ l, z.length ≤ 4000000000)) (.br (pt (l.drop i.toNat)) (.leaf (.exit 0, ([.ref 0 0 l.length], [some (.row false none .str l)]))) (.leaf (.ret, ([.b false], []))))
  | _ => .no⟩
theorem lev35 : lev [35] = false := by decide
theorem pt_eq : ∀ l : List (List UInt8), pt l = (!(l.any fun z => !lvOK z) && !decide ([35] ∈ l.take (l.length - 1)))
  | [] => by simp [pt]
  | [x] => by
    simp only [pt, lvOK, List.any_cons, List.any_nil, List.isEmpty_nil, Bool.and_true, Bool.or_false, Bool.not_not, List.length_singleton, Nat.sub_self, List.take_zero, List.not_mem_nil, decide_false, Bool.not_false]
    cases lev x <;> cases x == [43] <;> cases x == [35] <;> rfl
  | x :: y :: l => by
    have ih := pt_eq (y :: l)
    rw [pt, ih]
    have e1 : (x :: y :: l).length - 1 = ((y :: l).length - 1) + 1 := by simp
    have e3 : ((x :: y :: l).any fun z => !lvOK z) = (!lvOK x || (y :: l).any fun z => !lvOK z) := rfl
    rw [e1, List.take_succ_cons, e3]
    generalize hA : ((y :: l).any fun z => !lvOK z) = A
    clear hA ih e3 e1
    simp only [lvOK, List.isEmpty_cons, Bool.and_false, Bool.or_false]
    by_cases hx : x = [35]
    · subst hx
      rw [lev35]
      simp
    · have hne : ([35] : List UInt8) ≠ x := fun h => hx h.symm
      have e2 : decide (([35] : List UInt8) ∈ x :: (y :: l).take ((y :: l).length - 1)) = decide ([35] ∈ (y :: l).take ((y :: l).length - 1)) := decide_eq_decide.2 (by simp [hne])
      rw [e2, beq_false_of_ne hx]
      generalize decide ([35] ∈ (y :: l).take ((y :: l).length - 1)) = d
      cases lev x <;> cases x == [43] <;> cases A <;> cases d <;> rfl
theorem lvB_eq (l : List (List UInt8)) : lvB l = (pt l && decide (l.length ≤ 6)) := by
  unfold lvB
  rw [← pt_eq, Bool.and_comm]
theorem tp_pt : ∀ l : List (List UInt8), l.all lev = true → pt l = true
  | [], _ => rfl
  | x :: l, h => by
    rw [List.all_cons, Bool.and_eq_true] at h
    rw [pt, h.1, tp_pt l h.2]; rfl
theorem tpB_eq (l : List (List UInt8)) : tpB l = (l.all lev && decide (l.length ≤ 6)) := by
  unfold tpB
  rw [lvB_eq]
  have e : (l.any fun z => !lev z) = !(l.all lev) := by
    induction l with
    | nil => rfl
    | cons z l ih => rw [List.any_cons, List.all_cons, ih, Bool.not_and]
  rw [e, Bool.not_not]
  cases h : l.all lev with
  | true => rw [tp_pt l h]; simp
  | false => simp
theorem sgtop_round (k k2 : Nat) (m i : Int) (l : List (List UInt8)) : roundK Tryd.prog (look [(35, .rd1 lsplG), (39, .rd1 levG)]) (look [(3, sgtopE)]) 0 (body Tryd.f9 0) sgtopE ([.ref 0 0 k, .ref 0 0 k2, .i .i64 m, .i .i64 i], [some (.row false none .str l)]) =
  ((ifB (decide (i < m))
  (ifT (decide ((0 : Int) ≤ i) && decide (i < (↑k2 : Int)))
  (ifSome l[(0 : Nat) + i.toNat]? fun z =>
  ifT (decide (List.length z ≤ maxI))
  (ifB (!lev z) (some (Ex.ret, [V.b false], []))
  (some
  (Ex.normal,
  [V.ref (0 : Nat) (0 : Nat) k, V.ref (0 : Nat) (0 : Nat) k2, V.i IntKind.i64 m,
  V.i IntKind.i64 (IntKind.i64.wrap (i + (1 : Int)))],
  [some (Blk.row false none Cd.str l)])))))
  (some (Ex.exit (0 : Nat), [V.ref (0 : Nat) (0 : Nat) k], [some (Blk.row false none Cd.str l)]))) : _) := by kernel_rfl
theorem sgtop_loop (l : List (List UInt8)) (hl : l.length ≤ 5000000000) (ha : ∀ z ∈ l, z.length ≤ 4000000000) : ∀ (j i : Nat), i + j = l.length → ∀ e d', (Br.br ((l.drop i).all lev) (.leaf (.exit 0, ([.ref 0 0 l.length], [some (.row false none .str l)]))) (.leaf (.ret, ([.b false], []))) : Br (Ex × Dt)).run = some (e, d') → Runs Tryd.prog (look [(35, .rd1 lsplG), (39, .rd1 levG)]) (look [(3, sgtopE)]) 0 (body Tryd.f9 0) sgtopE ([.ref 0 0 l.length, .ref 0 0 l.length, .i .i64 (↑l.length : Int), .i .i64 (i : Int)], [some (.row false none .str l)]) e d'
  | 0, i, hi, e, d', hx => by
    have hr := sgtop_round l.length l.length l.length i l
    rw [ifB_false (decide_eq_false (by omega))] at hr
    rw [List.drop_eq_nil_of_le (by omega)] at hx
    cases hx
    exact .stop _ _ _ hr (by simp)
  | j + 1, i, hi, e, d', hx => by
    have hM : maxI = 9223372036854775807 := rfl
    have hil : i < l.length := by omega
    have hr := sgtop_round l.length l.length l.length i l
    rw [ifB_true (decide_eq_true (by omega)), ifT_true (by simp only [Bool.and_eq_true, decide_eq_true_eq]; omega)] at hr
    simp only [Int.toNat_natCast, Nat.zero_add, List.getElem?_eq_getElem hil, ifSome_s, wrap_succ (n := i) (by omega)] at hr
    have hlen := ha l[i] (List.getElem_mem hil)
    rw [ifT_true (decide_eq_true (by omega))] at hr
    rw [List.drop_eq_getElem_cons hil] at hx
    rw [List.all_cons] at hx
    cases hz : lev l[i] with
    | true =>
      rw [hz, Bool.true_and] at hx
      rw [hz, ifB_false (by rfl : (!true) = false)] at hr
      exact .step _ _ _ _ hr (sgtop_loop l hl ha j (i + 1) (by omega) e d' hx)
    | false =>
      rw [hz, Bool.false_and] at hx
      cases hx
      rw [hz, ifB_true (by rfl : (!false) = true)] at hr
      exact .stop _ _ _ hr (by simp)
theorem sgtop_ok : LoopsOk Tryd.prog (look [(35, .rd1 lsplG), (39, .rd1 levG)]) (look [(3, sgtopE)]) 0 (Tryd.f9.body.getD .skip) := by
  refine loopsOk_one (a := body Tryd.f9 0) (by kernel_rfl) fun x e y h => ?_
  unfold sgtopE at h
  dsimp only at h
  split at h
  · rename_i k k2 m i l
    obtain ⟨hc, hx⟩ := need_some h
    clear h
    obtain ⟨h0, rfl, rfl, rfl, h1, h2, h3⟩ := of_decide_eq_true hc
    obtain ⟨i, rfl⟩ := Int.eq_ofNat_of_zero_le h0
    rw [Int.toNat_natCast] at h1 hx
    exact sgtop_loop l h2 h3 (l.length - i) i (by omega) e y hx
  · cases h
theorem sgtop_fun (s : List UInt8) (hc : s.length ≤ 4000000000) : funN Tryd.prog (look [(35, .rd1 lsplG), (39, .rd1 levG)]) (look [(3, sgtopE)]) Tryd.f9 [.s s] [] = some (.b (tpB (cut 47 s)), []) := by
  have e : funN Tryd.prog (look [(35, .rd1 lsplG), (39, .rd1 levG)]) (look [(3, sgtopE)]) Tryd.f9 [.s s] [] = ((ifT (decide ((47 : Int) = (47 : Int) ∧ s.length ≤ (4000000000 : Nat)))
  (ifT
  (decide
  ((0 : Int) ≤ (0 : Int) ∧
  (cut (47 : UInt8) s).length = (cut (47 : UInt8) s).length ∧
  (cut (47 : UInt8) s).length = (cut (47 : UInt8) s).length ∧
  (↑(cut (47 : UInt8) s).length : Int) = (↑(cut (47 : UInt8) s).length : Int) ∧
  (0 : Nat) ≤ (cut (47 : UInt8) s).length ∧
  (cut (47 : UInt8) s).length ≤ (5000000000 : Nat) ∧
  ∀ (z : Cd.str.den), z ∈ cut (47 : UInt8) s → List.length z ≤ (4000000000 : Nat)))
  (ifB ((List.drop (0 : Nat) (cut (47 : UInt8) s)).all lev)
  (some (V.b (decide ((↑(cut (47 : UInt8) s).length : Int) ≤ (6 : Int))), [])) (some (V.b false, []))))) : _) := by kernel_rfl
  rw [e]
  clear e
  obtain ⟨hz, hpos, hle⟩ := cut_facts hc
  rw [tpB_eq]
  rw [ifT_true (decide_eq_true ⟨by trivial, hc⟩), ifT_true (decide_eq_true ⟨by omega, by trivial, by trivial, by trivial, by omega, by omega, hz⟩)]
  simp only [List.drop_zero]
  generalize cut 47 s = l at *
  by_cases q : l.length ≤ 6
  · have q2 : ((l.length : Int) ≤ 6) := by omega
    rw [decide_eq_true q, decide_eq_true q2]
    cases (l.all lev) <;> rfl
  · have q2 : ¬ ((l.length : Int) ≤ 6) := by omega
    rw [decide_eq_false q, decide_eq_false q2]
    cases (l.all lev) <;> rfl
theorem sgtop : Contract Tryd.prog 9 (Ent.rd1 gtopG).F := by
  refine fun_contractN' (KnowsL.cons (enters_fn Tryd.func35 (by kernel_rfl) (by kernel_rfl)) lspl (KnowsL.cons (enters_fn Tryd.func39 (by kernel_rfl) (by kernel_rfl)) slev KnowsL.nil)).knows (Λ := (look [(3, sgtopE)])) Tryd.func9 (c := Tryd.f9.body.getD .skip) (by kernel_rfl) fun vs bs r hq hv hb => ?_
  unfold Ent.F gtopG at hq
  dsimp only at hq
  split at hq
  · rename_i s
    obtain ⟨hc, hq⟩ := need_some hq
    exact ⟨sgtop_ok, (sgtop_fun s (of_decide_eq_true hc)).trans hq⟩
  · cases hq
theorem sgpat_round (k k2 : Nat) (m i : Int) (l : List (List UInt8)) : roundK Tryd.prog (look [(35, .rd1 lsplG), (39, .rd1 levG)]) (look [(3, sgpatE)]) 0 (body Tryd.f11 0) sgpatE ([.ref 0 0 k, .ref 0 0 k2, .i .i64 m, .i .i64 i], [some (.row false none .str l)]) =
  ((ifB (decide (i < m))
  (ifT (decide ((0 : Int) ≤ i) && decide (i < (↑k2 : Int)))
  (ifSome l[(0 : Nat) + i.toNat]? fun z =>
  ifT (decide (List.length z ≤ maxI))
  (ifB (!lev z)
  (ifB (!z == [(43 : UInt8)])
  (ifB (!z == [(35 : UInt8)]) (some (Ex.ret, [V.b false], []))
  (ifB (decide (i < IntKind.i64.wrap ((↑k : Int) - (1 : Int)))) (some (Ex.ret, [V.b false], []))
  (some
  (Ex.normal,
  [V.ref (0 : Nat) (0 : Nat) k, V.ref (0 : Nat) (0 : Nat) k2, V.i IntKind.i64 m,
  V.i IntKind.i64 (IntKind.i64.wrap (i + (1 : Int)))],
  [some (Blk.row false none Cd.str l)]))))
  (some
  (Ex.normal,
  [V.ref (0 : Nat) (0 : Nat) k, V.ref (0 : Nat) (0 : Nat) k2, V.i IntKind.i64 m,
  V.i IntKind.i64 (IntKind.i64.wrap (i + (1 : Int)))],
  [some (Blk.row false none Cd.str l)])))
  (some
  (Ex.normal,
  [V.ref (0 : Nat) (0 : Nat) k, V.ref (0 : Nat) (0 : Nat) k2, V.i IntKind.i64 m,
  V.i IntKind.i64 (IntKind.i64.wrap (i + (1 : Int)))],
  [some (Blk.row false none Cd.str l)])))))
  (some (Ex.exit (0 : Nat), [V.ref (0 : Nat) (0 : Nat) k], [some (Blk.row false none Cd.str l)]))) : _) := by kernel_rfl
theorem sgpat_loop (l : List (List UInt8)) (hl : l.length ≤ 5000000000) (ha : ∀ z ∈ l, z.length ≤ 4000000000) : ∀ (j i : Nat), i + j = l.length → ∀ e d', (Br.br (pt (l.drop i)) (.leaf (.exit 0, ([.ref 0 0 l.length], [some (.row false none .str l)]))) (.leaf (.ret, ([.b false], []))) : Br (Ex × Dt)).run = some (e, d') → Runs Tryd.prog (look [(35, .rd1 lsplG), (39, .rd1 levG)]) (look [(3, sgpatE)]) 0 (body Tryd.f11 0) sgpatE ([.ref 0 0 l.length, .ref 0 0 l.length, .i .i64 (↑l.length : Int), .i .i64 (i : Int)], [some (.row false none .str l)]) e d'
  | 0, i, hi, e, d', hx => by
    have hr := sgpat_round l.length l.length l.length i l
    rw [ifB_false (decide_eq_false (by omega))] at hr
    rw [List.drop_eq_nil_of_le (by omega)] at hx
    cases hx
    exact .stop _ _ _ hr (by simp)
  | j + 1, i, hi, e, d', hx => by
    have hM : maxI = 9223372036854775807 := rfl
    have hil : i < l.length := by omega
    have hr := sgpat_round l.length l.length l.length i l
    rw [ifB_true (decide_eq_true (by omega)), ifT_true (by simp only [Bool.and_eq_true, decide_eq_true_eq]; omega)] at hr
    simp only [Int.toNat_natCast, Nat.zero_add, List.getElem?_eq_getElem hil, ifSome_s, wrap_succ (n := i) (by omega)] at hr
    have hlen := ha l[i] (List.getElem_mem hil)
    rw [ifT_true (decide_eq_true (by omega))] at hr
    rw [List.drop_eq_getElem_cons hil] at hx
    rw [pt] at hx
    have e0 : (l.drop (i + 1)).isEmpty = decide (¬ ((i : Int) < (l.length : Int) - 1)) := by
      by_cases h : i + 1 < l.length
      · rw [decide_eq_false (by omega), List.drop_eq_getElem_cons h]; rfl
      · rw [decide_eq_true (by omega), List.drop_eq_nil_of_le (by omega)]; rfl
    have w : IntKind.i64.wrap ((l.length : Int) - 1) = (l.length : Int) - 1 := wrap_id (by omega) (by omega)
    rw [e0] at hx
    simp only [w, decide_not] at hr hx
    have key : (lev l[i] || (l[i] == [43] || (l[i] == [35] && !decide ((i : Int) < (l.length : Int) - 1)))) = true ∨ (lev l[i] || (l[i] == [43] || (l[i] == [35] && !decide ((i : Int) < (l.length : Int) - 1)))) = false := by cases (lev l[i] || (l[i] == [43] || (l[i] == [35] && !decide ((i : Int) < (l.length : Int) - 1)))) <;> simp
    rcases key with hz | hz
    · rw [hz, Bool.true_and] at hx
      refine .step _ _ _ _ (hr.trans ?_) (sgpat_loop l hl ha j (i + 1) (by omega) e d' hx)
      revert hz
      generalize lev l[i] = a
      generalize (l[i] == [43]) = b
      generalize (l[i] == [35]) = c
      generalize decide ((i : Int) < (l.length : Int) - 1) = d
      cases a <;> cases b <;> cases c <;> cases d <;> intro hz <;> first | rfl | cases hz
    · rw [hz, Bool.false_and] at hx
      cases hx
      refine .stop _ _ _ (hr.trans ?_) (by simp)
      revert hz
      generalize lev l[i] = a
      generalize (l[i] == [43]) = b
      generalize (l[i] == [35]) = c
      generalize decide ((i : Int) < (l.length : Int) - 1) = d
      cases a <;> cases b <;> cases c <;> cases d <;> intro hz <;> first | rfl | cases hz
theorem sgpat_ok : LoopsOk Tryd.prog (look [(35, .rd1 lsplG), (39, .rd1 levG)]) (look [(3, sgpatE)]) 0 (Tryd.f11.body.getD .skip) := by
  refine loopsOk_one (a := body Tryd.f11 0) (by kernel_rfl) fun x e y h => ?_
  unfold sgpatE at h
  dsimp only at h
  split at h
  · rename_i k k2 m i l
    obtain ⟨hc, hx⟩ := need_some h
    clear h
    obtain ⟨h0, rfl, rfl, rfl, h1, h2, h3⟩ := of_decide_eq_true hc
    obtain ⟨i, rfl⟩ := Int.eq_ofNat_of_zero_le h0
    rw [Int.toNat_natCast] at h1 hx
    exact sgpat_loop l h2 h3 (l.length - i) i (by omega) e y hx
  · cases h
theorem sgpat_fun (s : List UInt8) (hc : s.length ≤ 4000000000) : funN Tryd.prog (look [(35, .rd1 lsplG), (39, .rd1 levG)]) (look [(3, sgpatE)]) Tryd.f11 [.s s] [] = some (.b (lvB (cut 47 s)), []) := by
  have e : funN Tryd.prog (look [(35, .rd1 lsplG), (39, .rd1 levG)]) (look [(3, sgpatE)]) Tryd.f11 [.s s] [] = ((ifT (decide ((47 : Int) = (47 : Int) ∧ s.length ≤ (4000000000 : Nat)))
  (ifT
  (decide
  ((0 : Int) ≤ (0 : Int) ∧
  (cut (47 : UInt8) s).length = (cut (47 : UInt8) s).length ∧
  (cut (47 : UInt8) s).length = (cut (47 : UInt8) s).length ∧
  (↑(cut (47 : UInt8) s).length : Int) = (↑(cut (47 : UInt8) s).length : Int) ∧
  (0 : Nat) ≤ (cut (47 : UInt8) s).length ∧
  (cut (47 : UInt8) s).length ≤ (5000000000 : Nat) ∧
  ∀ (z : Cd.str.den), z ∈ cut (47 : UInt8) s → List.length z ≤ (4000000000 : Nat)))
  (ifB (pt (List.drop (0 : Nat) (cut (47 : UInt8) s)))
  (some (V.b (decide ((↑(cut (47 : UInt8) s).length : Int) ≤ (6 : Int))), [])) (some (V.b false, []))))) : _) := by kernel_rfl
  rw [e]
  clear e
  obtain ⟨hz, hpos, hle⟩ := cut_facts hc
  rw [lvB_eq]
  rw [ifT_true (decide_eq_true ⟨by trivial, hc⟩), ifT_true (decide_eq_true ⟨by omega, by trivial, by trivial, by trivial, by omega, by omega, hz⟩)]
  simp only [List.drop_zero]
  generalize cut 47 s = l at *
  by_cases q : l.length ≤ 6
  · have q2 : ((l.length : Int) ≤ 6) := by omega
    rw [decide_eq_true q, decide_eq_true q2]
    cases (pt l) <;> rfl
  · have q2 : ¬ ((l.length : Int) ≤ 6) := by omega
    rw [decide_eq_false q, decide_eq_false q2]
    cases (pt l) <;> rfl
theorem sgpat : Contract Tryd.prog 11 (Ent.rd1 gpatG).F := by
  refine fun_contractN' (KnowsL.cons (enters_fn Tryd.func35 (by kernel_rfl) (by kernel_rfl)) lspl (KnowsL.cons (enters_fn Tryd.func39 (by kernel_rfl) (by kernel_rfl)) slev KnowsL.nil)).knows (Λ := (look [(3, sgpatE)])) Tryd.func11 (c := Tryd.f11.body.getD .skip) (by kernel_rfl) fun vs bs r hq hv hb => ?_
  unfold Ent.F gpatG at hq
  dsimp only at hq
  split at hq
  · rename_i s
    obtain ⟨hc, hq⟩ := need_some hq
    exact ⟨sgpat_ok, (sgpat_fun s (of_decide_eq_true hc)).trans hq⟩
  · cases hq
end Go.Proofs.YtfkoljiioikdfaaDoor.Den
