/- What functions of the program do, by the machine: Top1. -/
import Derived.Test.YtfkoljiioikdfaaDoorDSpl2
import Derived.KernelRfl
import Derived.Test.YtfkoljiioikdfaaDoorRows
namespace Go.Proofs.YtfkoljiioikdfaaDoor.Den
open Go.Proofs
set_option maxRecDepth 100000
/-- A level's letter; a level. -/
def levB (b : UInt8) : Bool := (decide (97 ≤ b.toNat) && decide (b.toNat ≤ 122)) || (decide (48 ≤ b.toNat) && decide (b.toNat ≤ 57))
def lev (s : List UInt8) : Bool := s.all levB && (decide (1 ≤ s.length) && decide (s.length ≤ 6))
def levG : List V → List Blk → Br (V × List (Option Blk))
  | [.s s], [] => .need (decide (s.length ≤ maxI)) (.leaf (.b (lev s), []))
  | _, _ => .no
def withinG : List V → List Blk → Br (V × List (Option Blk))
  | [.i .i64 a, .i .i64 b, .i .i64 c], [] => .leaf (.b (decide (b ≤ a ∧ a ≤ c)), [])
  | _, _ => .no
def plevE : LoopEnt := ⟨35, [0,5,6], [0], [2], fun
  | ([.s s, .i .i64 m, .i .i64 i], []) => .need (decide (0 ≤ i ∧ i.toNat ≤ s.length ∧ s.length ≤ maxI ∧ m = s.length)) (.br ((s.drop i.toNat).all levB) (.leaf (.exit 0, ([.s s], []))) (.leaf (.ret, ([.b false], []))))
  | _ => .no⟩
def slevE : LoopEnt := ⟨36, [0,3], [0], [2], fun
  | ([.s s, .i .i64 i], []) => .need (decide (0 ≤ i ∧ i.toNat ≤ s.length ∧ s.length ≤ maxI)) (.br ((s.drop i.toNat).all levB) (.leaf (.exit 0, ([.s s], []))) (.leaf (.ret, ([.b false], []))))
  | _ => .no⟩
theorem within_fun (a b c : Int) : funK Tryd.prog (look []) (look []) Tryd.f65 [.i .i64 a, .i .i64 b, .i .i64 c] [] = (.leaf (.b (decide (b ≤ a ∧ a ≤ c)), []) : Br (V × List (Option Blk))).run := by
  have e : funK Tryd.prog (look []) (look []) Tryd.f65 [.i .i64 a, .i .i64 b, .i .i64 c] [] = ((ifB (decide (a ≥ b)) (some (V.b (decide (a ≤ c)), [])) (some (V.b false, []))) : _) := by kernel_rfl
  rw [e]
  clear e
  by_cases q1 : a ≥ b <;> by_cases q2 : a ≤ c <;> simp [q1, q2, Br.run] <;> omega
theorem within : Contract Tryd.prog 65 (Ent.rd1 withinG).F := by
  refine fun_contract' KnowsL.nil.knows (Λ := look []) Tryd.func65 (c := Tryd.f65.body.getD .skip) (by kernel_rfl) fun vs bs r' hq hv hb => ?_
  unfold Ent.F withinG at hq
  dsimp only at hq
  split at hq
  · rename_i a b c
    exact ⟨loopsOk_nil _, (within_fun a b c).trans hq⟩
  · cases hq
theorem l1In_fun (a b c : Int) : funK Tryd.prog (look []) (look []) Tryd.f55 [.i .i64 a, .i .i64 b, .i .i64 c] [] = (.leaf (.b (decide (b ≤ a ∧ a ≤ c)), []) : Br (V × List (Option Blk))).run := by
  have e : funK Tryd.prog (look []) (look []) Tryd.f55 [.i .i64 a, .i .i64 b, .i .i64 c] [] = ((ifB (decide (a ≥ b)) (some (V.b (decide (a ≤ c)), [])) (some (V.b false, []))) : _) := by kernel_rfl
  rw [e]
  clear e
  by_cases q1 : a ≥ b <;> by_cases q2 : a ≤ c <;> simp [q1, q2, Br.run] <;> omega
theorem l1In : Contract Tryd.prog 55 (Ent.rd1 withinG).F := by
  refine fun_contract' KnowsL.nil.knows (Λ := look []) Tryd.func55 (c := Tryd.f55.body.getD .skip) (by kernel_rfl) fun vs bs r' hq hv hb => ?_
  unfold Ent.F withinG at hq
  dsimp only at hq
  split at hq
  · rename_i a b c
    exact ⟨loopsOk_nil _, (l1In_fun a b c).trans hq⟩
  · cases hq
theorem plev_round (s : List UInt8) (m i : Int) : roundK Tryd.prog (look [(65, .rd1 withinG)]) (look [(2, plevE)]) 0 (body Tryd.f38 0) plevE ([.s s, .i .i64 m, .i .i64 i], []) =
  ((ifB (decide (i < m))
  (ifT (decide ((0 : Int) ≤ i))
  (ifSome s[i.toNat]? fun z =>
  ifB (decide ((↑z.toNat : Int) < (97 : Int)))
  (ifT (decide ((0 : Int) ≤ i))
  (ifSome s[i.toNat]? fun z =>
  ifB (decide ((↑z.toNat : Int) < (48 : Int))) (some (Ex.ret, [V.b false], []))
  (ifT (decide ((0 : Int) ≤ i))
  (ifSome s[i.toNat]? fun z =>
  ifB (decide ((↑z.toNat : Int) > (57 : Int))) (some (Ex.ret, [V.b false], []))
  (some
  (Ex.normal, [V.s s, V.i IntKind.i64 m, V.i IntKind.i64 (IntKind.i64.wrap (i + (1 : Int)))],
  []))))))
  (ifT (decide ((0 : Int) ≤ i))
  (ifSome s[i.toNat]? fun z =>
  ifB (decide ((↑z.toNat : Int) > (122 : Int)))
  (ifT (decide ((0 : Int) ≤ i))
  (ifSome s[i.toNat]? fun z =>
  ifB (decide ((↑z.toNat : Int) < (48 : Int))) (some (Ex.ret, [V.b false], []))
  (ifT (decide ((0 : Int) ≤ i))
  (ifSome s[i.toNat]? fun z =>
  ifB (decide ((↑z.toNat : Int) > (57 : Int))) (some (Ex.ret, [V.b false], []))
  (some
  (Ex.normal, [V.s s, V.i IntKind.i64 m, V.i IntKind.i64 (IntKind.i64.wrap (i + (1 : Int)))],
  []))))))
  (some (Ex.normal, [V.s s, V.i IntKind.i64 m, V.i IntKind.i64 (IntKind.i64.wrap (i + (1 : Int)))], []))))))
  (some (Ex.exit (0 : Nat), [V.s s], []))) : _) := by kernel_rfl
theorem plev_ok : LoopsOk Tryd.prog (look [(65, .rd1 withinG)]) (look [(2, plevE)]) 0 (Tryd.f38.body.getD .skip) := by
  refine loopsOk_one (a := body Tryd.f38 0) (by kernel_rfl) fun d e d' h => ?_
  unfold plevE at h
  dsimp only at h
  split at h
  · rename_i s m i
    obtain ⟨hc, hx⟩ := need_some h
    clear h
    obtain ⟨h0, h1, h2, rfl⟩ := of_decide_eq_true hc
    obtain ⟨i, rfl⟩ := Int.eq_ofNat_of_zero_le h0
    rw [Int.toNat_natCast] at h1 hx
    refine runs_all (l := s) levB (fun i => ([.s s, .i .i64 (↑s.length : Int), .i .i64 (i : Int)], [])) (ex := (.exit 0, ([.s s], []))) (rt := (.ret, ([.b false], []))) (by simp) (by simp) (fun i hi => ?_) ?_ (s.length - i) i (by omega) e d' hx
    · have hr := plev_round s s.length i
      rw [ifB_true (decide_eq_true (by omega))] at hr
      simp only [Int.toNat_natCast, List.getElem?_eq_getElem hi, ifSome_s, wrap_succ (n := i) (by omega)] at hr
      refine hr.trans ?_
      have hb := s[i].toNat_lt
      have hz : (0 : Int) ≤ (i : Int) := by omega
      simp only [hz, decide_true, ifT_t]
      unfold levB
      generalize s[i].toNat = b at *
      have c1 : decide ((b : Int) < 97) = !decide (97 ≤ b) := by rw [← decide_not]; exact decide_eq_decide.2 (by omega)
      have c2 : decide ((b : Int) > 122) = !decide (b ≤ 122) := by rw [← decide_not]; exact decide_eq_decide.2 (by omega)
      have c3 : decide ((b : Int) < 48) = !decide (48 ≤ b) := by rw [← decide_not]; exact decide_eq_decide.2 (by omega)
      have c4 : decide ((b : Int) > 57) = !decide (b ≤ 57) := by rw [← decide_not]; exact decide_eq_decide.2 (by omega)
      have d1 : decide ((b : Int) ≥ 97) = decide (97 ≤ b) := decide_eq_decide.2 (by omega)
      have d2 : decide ((b : Int) ≤ 122) = decide (b ≤ 122) := decide_eq_decide.2 (by omega)
      have d3 : decide ((b : Int) ≥ 48) = decide (48 ≤ b) := decide_eq_decide.2 (by omega)
      have d4 : decide ((b : Int) ≤ 57) = decide (b ≤ 57) := decide_eq_decide.2 (by omega)
      simp only [c1, c2, c3, c4, d1, d2, d3, d4]
      clear c1 c2 c3 c4 d1 d2 d3 d4
      generalize decide (97 ≤ b) = x1
      generalize decide (b ≤ 122) = x2
      generalize decide (48 ≤ b) = x3
      generalize decide (b ≤ 57) = x4
      cases x1 <;> cases x2 <;> cases x3 <;> cases x4 <;> rfl
    · have hr := plev_round s s.length s.length
      rw [ifB_false (decide_eq_false (by omega))] at hr
      exact hr
  · cases h
theorem plev_fun (s : List UInt8) (hm : s.length ≤ maxI) : funK Tryd.prog (look [(65, .rd1 withinG)]) (look [(2, plevE)]) Tryd.f38 [.s s] [] = some (.b (lev s), []) := by
  have e : funK Tryd.prog (look [(65, .rd1 withinG)]) (look [(2, plevE)]) Tryd.f38 [.s s] [] = ((ifT (decide ((0 : Int) ≤ (0 : Int) ∧ (0 : Nat) ≤ s.length ∧ s.length ≤ maxI ∧ (↑s.length : Int) = (↑s.length : Int)))
  (ifB ((List.drop (0 : Nat) s).all levB)
  (some (V.b (decide ((1 : Int) ≤ (↑s.length : Int) ∧ (↑s.length : Int) ≤ (6 : Int))), [])) (some (V.b false, [])))) : _) := by kernel_rfl
  rw [e]
  clear e
  rw [ifT_true (decide_eq_true ⟨by omega, by omega, hm, by trivial⟩)]
  unfold lev
  simp only [List.drop_zero]
  cases s.all levB with
  | true =>
    rw [ifB_t]
    by_cases q1 : 1 ≤ s.length <;> by_cases q2 : s.length ≤ 6 <;> simp [q1, q2] <;> omega
  | false => rfl
theorem plev : Contract Tryd.prog 38 (Ent.rd1 levG).F := by
  refine fun_contract' (KnowsL.cons (enters_fn Tryd.func65 (by kernel_rfl) (by kernel_rfl)) within KnowsL.nil).knows (Λ := (look [(2, plevE)])) Tryd.func38 (c := Tryd.f38.body.getD .skip) (by kernel_rfl) fun vs bs r' hq hv hb => ?_
  unfold Ent.F levG at hq
  dsimp only at hq
  split at hq
  · rename_i s
    obtain ⟨hc, hx⟩ := need_some hq
    exact ⟨plev_ok, (plev_fun s (of_decide_eq_true hc)).trans hx⟩
  · cases hq
theorem slev_round (s : List UInt8) (i : Int) : roundK Tryd.prog (look [(55, .rd1 withinG)]) (look [(2, slevE)]) 0 (body Tryd.f39 0) slevE ([.s s, .i .i64 i], []) =
  ((ifB (decide (i < (↑s.length : Int)))
  (ifT (decide ((0 : Int) ≤ i))
  (ifSome s[i.toNat]? fun z =>
  ifB (decide ((↑z.toNat : Int) ≥ (97 : Int)))
  (ifT (decide ((0 : Int) ≤ i))
  (ifSome s[i.toNat]? fun z =>
  ifB (decide ((↑z.toNat : Int) ≤ (122 : Int)))
  (some (Ex.normal, [V.s s, V.i IntKind.i64 (IntKind.i64.wrap (i + (1 : Int)))], []))
  (ifT (decide ((0 : Int) ≤ i))
  (ifSome s[i.toNat]? fun z =>
  ifB (decide ((↑z.toNat : Int) ≥ (48 : Int)))
  (ifT (decide ((0 : Int) ≤ i))
  (ifSome s[i.toNat]? fun z =>
  ifB (!decide ((↑z.toNat : Int) ≤ (57 : Int))) (some (Ex.ret, [V.b false], []))
  (some (Ex.normal, [V.s s, V.i IntKind.i64 (IntKind.i64.wrap (i + (1 : Int)))], []))))
  (some (Ex.ret, [V.b false], []))))))
  (ifT (decide ((0 : Int) ≤ i))
  (ifSome s[i.toNat]? fun z =>
  ifB (decide ((↑z.toNat : Int) ≥ (48 : Int)))
  (ifT (decide ((0 : Int) ≤ i))
  (ifSome s[i.toNat]? fun z =>
  ifB (!decide ((↑z.toNat : Int) ≤ (57 : Int))) (some (Ex.ret, [V.b false], []))
  (some (Ex.normal, [V.s s, V.i IntKind.i64 (IntKind.i64.wrap (i + (1 : Int)))], []))))
  (some (Ex.ret, [V.b false], []))))))
  (some (Ex.exit (0 : Nat), [V.s s], []))) : _) := by kernel_rfl
theorem slev_ok : LoopsOk Tryd.prog (look [(55, .rd1 withinG)]) (look [(2, slevE)]) 0 (Tryd.f39.body.getD .skip) := by
  refine loopsOk_one (a := body Tryd.f39 0) (by kernel_rfl) fun d e d' h => ?_
  unfold slevE at h
  dsimp only at h
  split at h
  · rename_i s i
    obtain ⟨hc, hx⟩ := need_some h
    clear h
    obtain ⟨h0, h1, h2⟩ := of_decide_eq_true hc
    obtain ⟨i, rfl⟩ := Int.eq_ofNat_of_zero_le h0
    rw [Int.toNat_natCast] at h1 hx
    refine runs_all (l := s) levB (fun i => ([.s s, .i .i64 (i : Int)], [])) (ex := (.exit 0, ([.s s], []))) (rt := (.ret, ([.b false], []))) (by simp) (by simp) (fun i hi => ?_) ?_ (s.length - i) i (by omega) e d' hx
    · have hr := slev_round s i
      rw [ifB_true (decide_eq_true (by omega))] at hr
      simp only [Int.toNat_natCast, List.getElem?_eq_getElem hi, ifSome_s, wrap_succ (n := i) (by omega)] at hr
      refine hr.trans ?_
      have hb := s[i].toNat_lt
      have hz : (0 : Int) ≤ (i : Int) := by omega
      simp only [hz, decide_true, ifT_t]
      unfold levB
      generalize s[i].toNat = b at *
      have c1 : decide ((b : Int) < 97) = !decide (97 ≤ b) := by rw [← decide_not]; exact decide_eq_decide.2 (by omega)
      have c2 : decide ((b : Int) > 122) = !decide (b ≤ 122) := by rw [← decide_not]; exact decide_eq_decide.2 (by omega)
      have c3 : decide ((b : Int) < 48) = !decide (48 ≤ b) := by rw [← decide_not]; exact decide_eq_decide.2 (by omega)
      have c4 : decide ((b : Int) > 57) = !decide (b ≤ 57) := by rw [← decide_not]; exact decide_eq_decide.2 (by omega)
      have d1 : decide ((b : Int) ≥ 97) = decide (97 ≤ b) := decide_eq_decide.2 (by omega)
      have d2 : decide ((b : Int) ≤ 122) = decide (b ≤ 122) := decide_eq_decide.2 (by omega)
      have d3 : decide ((b : Int) ≥ 48) = decide (48 ≤ b) := decide_eq_decide.2 (by omega)
      have d4 : decide ((b : Int) ≤ 57) = decide (b ≤ 57) := decide_eq_decide.2 (by omega)
      simp only [c1, c2, c3, c4, d1, d2, d3, d4]
      clear c1 c2 c3 c4 d1 d2 d3 d4
      generalize decide (97 ≤ b) = x1
      generalize decide (b ≤ 122) = x2
      generalize decide (48 ≤ b) = x3
      generalize decide (b ≤ 57) = x4
      cases x1 <;> cases x2 <;> cases x3 <;> cases x4 <;> rfl
    · have hr := slev_round s s.length
      rw [ifB_false (decide_eq_false (by omega))] at hr
      exact hr
  · cases h
theorem slev_fun (s : List UInt8) (hm : s.length ≤ maxI) : funK Tryd.prog (look [(55, .rd1 withinG)]) (look [(2, slevE)]) Tryd.f39 [.s s] [] = some (.b (lev s), []) := by
  have e : funK Tryd.prog (look [(55, .rd1 withinG)]) (look [(2, slevE)]) Tryd.f39 [.s s] [] = ((ifT (decide ((0 : Int) ≤ (0 : Int) ∧ (0 : Nat) ≤ s.length ∧ s.length ≤ maxI))
  (ifB ((List.drop (0 : Nat) s).all levB)
  (some (V.b (decide ((1 : Int) ≤ (↑s.length : Int) ∧ (↑s.length : Int) ≤ (6 : Int))), [])) (some (V.b false, [])))) : _) := by kernel_rfl
  rw [e]
  clear e
  rw [ifT_true (decide_eq_true ⟨by omega, by omega, hm⟩)]
  unfold lev
  simp only [List.drop_zero]
  cases s.all levB with
  | true =>
    rw [ifB_t]
    by_cases q1 : 1 ≤ s.length <;> by_cases q2 : s.length ≤ 6 <;> simp [q1, q2] <;> omega
  | false => rfl
theorem slev : Contract Tryd.prog 39 (Ent.rd1 levG).F := by
  refine fun_contract' (KnowsL.cons (enters_fn Tryd.func55 (by kernel_rfl) (by kernel_rfl)) l1In KnowsL.nil).knows (Λ := (look [(2, slevE)])) Tryd.func39 (c := Tryd.f39.body.getD .skip) (by kernel_rfl) fun vs bs r' hq hv hb => ?_
  unfold Ent.F levG at hq
  dsimp only at hq
  split at hq
  · rename_i s
    obtain ⟨hc, hx⟩ := need_some hq
    exact ⟨slev_ok, (slev_fun s (of_decide_eq_true hc)).trans hx⟩
  · cases hq
end Go.Proofs.YtfkoljiioikdfaaDoor.Den
