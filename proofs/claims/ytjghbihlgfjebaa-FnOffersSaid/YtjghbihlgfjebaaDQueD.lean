/- What functions of the program do, by the machine: QueD. -/
import Derived.Test.YtjghbihlgfjebaaDSame
import Derived.KernelRfl
import Derived.Test.YtjghbihlgfjebaaRows
namespace Go.Proofs.Ytjghbihlgfjebaa.Den
open Go.Proofs
set_option maxRecDepth 100000
/-- Where a number is. -/
def Que.whereO (q : Que) (x : Int) : Int × Bool := if q.good = true ∧ 0 ≤ x ∧ x < q.n then (if x ∈ q.w then 1 else if x ∈ q.h then 2 else 3, true) else (0, false)
def Que.gapsO (q : Que) : Int × Bool := if q.good = true then (if q.h.length = 0 then 0 else q.h.getD (q.h.length - 1) 0 + 1 - q.h.length, true) else (0, false)
def lawHasE : LoopEnt := ⟨17, [1,7,8,9], [], [4], fun
  | ([.i .i64 x, .sl (.int .i64) l, .i .i64 m, .i .i64 i], []) => .need (decide (0 ≤ i ∧ m = l.length ∧ i.toNat ≤ l.length ∧ l.length ≤ maxI)) (.br ((l.drop i.toNat).all fun z => !(z == x)) (.leaf (.exit 0, ([], []))) (.leaf (.ret, ([.b true], []))))
  | _ => .no⟩
def l1HasE : LoopEnt := ⟨17, [1,7,8,9], [], [4], fun
  | ([.i .i64 x, .sl (.int .i64) l, .i .i64 m, .i .i64 i], []) => .need (decide (0 ≤ i ∧ m = l.length ∧ i.toNat ≤ l.length ∧ l.length ≤ maxI)) (.br ((l.drop i.toNat).all fun z => !(z == x)) (.leaf (.exit 0, ([], []))) (.leaf (.ret, ([.b true], []))))
  | _ => .no⟩
def whereG : List V → List Blk → Br (V × List (Option Blk))
  | [.agg [.i .i64 c, .i .i64 r, .i .i64 n, .sl (.int .i64) w, .sl (.int .i64) h, .sl (.int .i64) d], .i .i64 x], [] => .leaf (.tup [.i .i64 ((Que.mk c r n w h d).whereO x).1, .b ((Que.mk c r n w h d).whereO x).2], [])
  | _, _ => .no
def gapsG : List V → List Blk → Br (V × List (Option Blk))
  | [.agg [.i .i64 c, .i .i64 r, .i .i64 n, .sl (.int .i64) w, .sl (.int .i64) h, .sl (.int .i64) d]], [] => .leaf (.tup [.i .i64 ((Que.mk c r n w h d).gapsO).1, .b ((Que.mk c r n w h d).gapsO).2], [])
  | _, _ => .no
def sameQG : List V → List Blk → Br (V × List (Option Blk))
  | [.agg [.i .i64 a0, .i .i64 a1, .i .i64 a2, .sl (.int .i64) a3, .sl (.int .i64) a4, .sl (.int .i64) a5], .agg [.i .i64 b0, .i .i64 b1, .i .i64 b2, .sl (.int .i64) b3, .sl (.int .i64) b4, .sl (.int .i64) b5]], [] => .leaf (.b (decide (a0 = b0 ∧ a1 = b1 ∧ a2 = b2 ∧ a3 = b3 ∧ a4 = b4 ∧ a5 = b5)), [])
  | _, _ => .no
theorem lawHas_round (x : Int) (l : List Int) (m i : Int) : roundK Try.prog (look []) (look [(2, lawHasE)]) 0 (body Try.f38 0) lawHasE ([.i .i64 x, .sl (.int .i64) l, .i .i64 m, .i .i64 i], []) =
  ((ifB (decide (i < m))
  (ifT (decide ((0 : Int) ≤ i) && decide (i < (↑l.length : Int)))
  (ifSome l[i.toNat]? fun z =>
  ifB (z == x) (some (Ex.ret, [V.b true], []))
  (some
  (Ex.normal,
  [V.i IntKind.i64 x, V.sl (Cd.int IntKind.i64) l, V.i IntKind.i64 m,
  V.i IntKind.i64 (IntKind.i64.wrap (i + (1 : Int)))],
  []))))
  (some (Ex.exit (0 : Nat), [], []))) : _) := by kernel_rfl
theorem lawHas_ok : LoopsOk Try.prog (look []) (look [(2, lawHasE)]) 0 (Try.f38.body.getD .skip) := by
  refine loopsOk_one (a := body Try.f38 0) (by kernel_rfl) fun d e d' h => ?_
  unfold lawHasE at h
  dsimp only at h
  split at h
  · rename_i x l m i
    obtain ⟨hc, hx⟩ := need_some h
    clear h
    obtain ⟨h0, rfl, h2, h3⟩ := of_decide_eq_true hc
    obtain ⟨i, rfl⟩ := Int.eq_ofNat_of_zero_le h0
    rw [Int.toNat_natCast] at h2 hx
    refine runs_all (l := l) (fun z => !(z == x)) (fun i => ([.i .i64 x, .sl (.int .i64) l, .i .i64 (↑l.length : Int), .i .i64 (i : Int)], [])) (ex := (.exit 0, ([], []))) (rt := (.ret, ([.b true], []))) (by simp) (by simp) (fun i hi => ?_) ?_ (l.length - i) i (by omega) e d' hx
    · have hr := lawHas_round x l l.length i
      rw [ifB_true (decide_eq_true (by omega)), ifT_true (by simp only [Bool.and_eq_true, decide_eq_true_eq]; omega), Int.toNat_natCast, List.getElem?_eq_getElem hi, ifSome_s] at hr
      refine hr.trans ?_
      by_cases hz : l[i] = x
      · rw [ifB_true (by simpa using hz)]; simp [hz]
      · rw [ifB_false (by simpa using hz), wrap_succ (by omega)]; simp only [beq_false_of_ne hz, Bool.not_false, cond_true]
    · have hr := lawHas_round x l l.length l.length
      rw [ifB_false (decide_eq_false (by omega))] at hr
      exact hr
  · cases h
theorem lawHas_fun (l : List Int) (x : Int) (hm : l.length ≤ maxI) : funK Try.prog (look []) (look [(2, lawHasE)]) Try.f38 [.sl (.int .i64) l, .i .i64 x] [] = some (.b (decide (x ∈ l)), []) := by
  have e : funK Try.prog (look []) (look [(2, lawHasE)]) Try.f38 [.sl (.int .i64) l, .i .i64 x] [] = ((ifT (decide ((0 : Int) ≤ (0 : Int) ∧ (↑l.length : Int) = (↑l.length : Int) ∧ (0 : Nat) ≤ l.length ∧ l.length ≤ maxI))
  (ifB ((List.drop (0 : Nat) l).all fun z => !z == x) (some (V.b false, [])) (some (V.b true, [])))) : _) := by kernel_rfl
  rw [e]
  clear e
  rw [ifT_true (decide_eq_true ⟨by omega, by trivial, by omega, hm⟩)]
  simp only [List.drop_zero]
  by_cases h : x ∈ l
  · rw [ifB_false (by rw [List.all_eq_false]; exact ⟨x, h, by simp⟩), decide_eq_true h]
  · rw [ifB_true (by rw [List.all_eq_true]; intro z hz; simp; intro e; exact h (e ▸ hz)), decide_eq_false h]
theorem lawHas : Contract Try.prog 38 (Ent.rd1 contIntG).F := by
  refine fun_contract' KnowsL.nil.knows (Λ := look [(2, lawHasE)]) Try.func38 (c := Try.f38.body.getD .skip) (by kernel_rfl) fun vs bs r' hq hv hb => ?_
  unfold Ent.F contIntG at hq
  dsimp only at hq
  split at hq
  · rename_i l x
    exact ⟨lawHas_ok, (lawHas_fun l x (hv (.sl (.int .i64) l) (by simp)).1).trans (by cases hq; rfl)⟩
  · cases hq
theorem l1Has_round (x : Int) (l : List Int) (m i : Int) : roundK Try.prog (look []) (look [(2, l1HasE)]) 0 (body Try.f123 0) l1HasE ([.i .i64 x, .sl (.int .i64) l, .i .i64 m, .i .i64 i], []) =
  ((ifB (decide (i < m))
  (ifT (decide ((0 : Int) ≤ i) && decide (i < (↑l.length : Int)))
  (ifSome l[i.toNat]? fun z =>
  ifB (z == x) (some (Ex.ret, [V.b true], []))
  (some
  (Ex.normal,
  [V.i IntKind.i64 x, V.sl (Cd.int IntKind.i64) l, V.i IntKind.i64 m,
  V.i IntKind.i64 (IntKind.i64.wrap (i + (1 : Int)))],
  []))))
  (some (Ex.exit (0 : Nat), [], []))) : _) := by kernel_rfl
theorem l1Has_ok : LoopsOk Try.prog (look []) (look [(2, l1HasE)]) 0 (Try.f123.body.getD .skip) := by
  refine loopsOk_one (a := body Try.f123 0) (by kernel_rfl) fun d e d' h => ?_
  unfold l1HasE at h
  dsimp only at h
  split at h
  · rename_i x l m i
    obtain ⟨hc, hx⟩ := need_some h
    clear h
    obtain ⟨h0, rfl, h2, h3⟩ := of_decide_eq_true hc
    obtain ⟨i, rfl⟩ := Int.eq_ofNat_of_zero_le h0
    rw [Int.toNat_natCast] at h2 hx
    refine runs_all (l := l) (fun z => !(z == x)) (fun i => ([.i .i64 x, .sl (.int .i64) l, .i .i64 (↑l.length : Int), .i .i64 (i : Int)], [])) (ex := (.exit 0, ([], []))) (rt := (.ret, ([.b true], []))) (by simp) (by simp) (fun i hi => ?_) ?_ (l.length - i) i (by omega) e d' hx
    · have hr := l1Has_round x l l.length i
      rw [ifB_true (decide_eq_true (by omega)), ifT_true (by simp only [Bool.and_eq_true, decide_eq_true_eq]; omega), Int.toNat_natCast, List.getElem?_eq_getElem hi, ifSome_s] at hr
      refine hr.trans ?_
      by_cases hz : l[i] = x
      · rw [ifB_true (by simpa using hz)]; simp [hz]
      · rw [ifB_false (by simpa using hz), wrap_succ (by omega)]; simp only [beq_false_of_ne hz, Bool.not_false, cond_true]
    · have hr := l1Has_round x l l.length l.length
      rw [ifB_false (decide_eq_false (by omega))] at hr
      exact hr
  · cases h
theorem l1Has_fun (l : List Int) (x : Int) (hm : l.length ≤ maxI) : funK Try.prog (look []) (look [(2, l1HasE)]) Try.f123 [.sl (.int .i64) l, .i .i64 x] [] = some (.b (decide (x ∈ l)), []) := by
  have e : funK Try.prog (look []) (look [(2, l1HasE)]) Try.f123 [.sl (.int .i64) l, .i .i64 x] [] = ((ifT (decide ((0 : Int) ≤ (0 : Int) ∧ (↑l.length : Int) = (↑l.length : Int) ∧ (0 : Nat) ≤ l.length ∧ l.length ≤ maxI))
  (ifB ((List.drop (0 : Nat) l).all fun z => !z == x) (some (V.b false, [])) (some (V.b true, [])))) : _) := by kernel_rfl
  rw [e]
  clear e
  rw [ifT_true (decide_eq_true ⟨by omega, by trivial, by omega, hm⟩)]
  simp only [List.drop_zero]
  by_cases h : x ∈ l
  · rw [ifB_false (by rw [List.all_eq_false]; exact ⟨x, h, by simp⟩), decide_eq_true h]
  · rw [ifB_true (by rw [List.all_eq_true]; intro z hz; simp; intro e; exact h (e ▸ hz)), decide_eq_false h]
theorem l1Has : Contract Try.prog 123 (Ent.rd1 contIntG).F := by
  refine fun_contract' KnowsL.nil.knows (Λ := look [(2, l1HasE)]) Try.func123 (c := Try.f123.body.getD .skip) (by kernel_rfl) fun vs bs r' hq hv hb => ?_
  unfold Ent.F contIntG at hq
  dsimp only at hq
  split at hq
  · rename_i l x
    exact ⟨l1Has_ok, (l1Has_fun l x (hv (.sl (.int .i64) l) (by simp)).1).trans (by cases hq; rfl)⟩
  · cases hq
theorem implWhere_fun (c r n : Int) (w h d : List Int) (x : Int) : funK Try.prog (look [(37, .rd1 goodQG), (94, .rd1 withinG), (114, .rd1 contIntG)]) (look []) Try.f39 [.agg [.i .i64 c, .i .i64 r, .i .i64 n, .sl (.int .i64) w, .sl (.int .i64) h, .sl (.int .i64) d], .i .i64 x] [] = (.leaf (.tup [.i .i64 ((Que.mk c r n w h d).whereO x).1, .b ((Que.mk c r n w h d).whereO x).2], []) : Br (V × List (Option Blk))).run := by
  have e : funK Try.prog (look [(37, .rd1 goodQG), (94, .rd1 withinG), (114, .rd1 contIntG)]) (look []) Try.f39 [.agg [.i .i64 c, .i .i64 r, .i .i64 n, .sl (.int .i64) w, .sl (.int .i64) h, .sl (.int .i64) d], .i .i64 x] [] = ((ifB (!goodQ c r n w h d) (some (V.tup [V.i IntKind.i64 (0 : Int), V.b false], []))
  (ifB (!decide ((0 : Int) ≤ x ∧ x ≤ IntKind.i64.wrap (n - (1 : Int))))
  (some (V.tup [V.i IntKind.i64 (0 : Int), V.b false], []))
  (ifB (decide (x ∈ w)) (some (V.tup [V.i IntKind.i64 (1 : Int), V.b true], []))
  (ifB (decide (x ∈ h)) (some (V.tup [V.i IntKind.i64 (2 : Int), V.b true], []))
  (some (V.tup [V.i IntKind.i64 (3 : Int), V.b true], [])))))) : _) := by kernel_rfl
  rw [e]
  clear e
  unfold Que.whereO
  cases hg : goodQ c r n w h d with
  | false =>
    have hn : ¬ ((Que.mk c r n w h d).good = true ∧ 0 ≤ x ∧ x < (Que.mk c r n w h d).n) := fun hh => by have := hh.1; unfold Que.good at this; rw [hg] at this; cases this
    simp only [if_neg hn]
    rfl
  | true =>
    have f : (Que.mk c r n w h d).Fine := Que.fine hg
    have f3 := f.n
    dsimp only at f3
    have w1 : IntKind.i64.wrap (n - 1) = n - 1 := wrap_id (by omega) (by omega)
    rw [w1]
    by_cases q1 : 0 ≤ x ∧ x < n
    rotate_left
    · have hn : ¬ ((Que.mk c r n w h d).good = true ∧ 0 ≤ x ∧ x < (Que.mk c r n w h d).n) := fun hh => q1 hh.2
      simp only [if_neg hn]
      rw [ifB_false (by rfl), ifB_true (by simp; omega)]; rfl
    have hy : (Que.mk c r n w h d).good = true ∧ 0 ≤ x ∧ x < (Que.mk c r n w h d).n := ⟨hg, q1⟩
    simp only [if_pos hy]
    rw [ifB_false (by rfl), ifB_false (by simp; omega)]
    by_cases q2 : x ∈ w
    · simp [q2, Br.run]
    · by_cases q3 : x ∈ h <;> simp [q2, q3, Br.run]

theorem implWhere : Contract Try.prog 39 (Ent.rd1 whereG).F := by
  refine fun_contract' (KnowsL.cons (enters_fn Try.func37 (by kernel_rfl) (by kernel_rfl)) implGQ (KnowsL.cons (enters_fn Try.func94 (by kernel_rfl) (by kernel_rfl)) within (KnowsL.cons (enters_fn Try.func114 (by kernel_rfl) (by kernel_rfl)) contInt KnowsL.nil))).knows (Λ := look []) Try.func39 (c := Try.f39.body.getD .skip) (by kernel_rfl) fun vs bs r' hq hv hb => ?_
  unfold Ent.F whereG at hq
  dsimp only at hq
  split at hq
  · rename_i c r n w h d x
    exact ⟨loopsOk_nil _, (implWhere_fun c r n w h d x).trans hq⟩
  · cases hq
theorem specWhere_fun (c r n : Int) (w h d : List Int) (x : Int) : funK Try.prog (look [(51, .rd1 goodQG), (123, .rd1 contIntG)]) (look []) Try.f58 [.agg [.i .i64 c, .i .i64 r, .i .i64 n, .sl (.int .i64) w, .sl (.int .i64) h, .sl (.int .i64) d], .i .i64 x] [] = (.leaf (.tup [.i .i64 ((Que.mk c r n w h d).whereO x).1, .b ((Que.mk c r n w h d).whereO x).2], []) : Br (V × List (Option Blk))).run := by
  have e : funK Try.prog (look [(51, .rd1 goodQG), (123, .rd1 contIntG)]) (look []) Try.f58 [.agg [.i .i64 c, .i .i64 r, .i .i64 n, .sl (.int .i64) w, .sl (.int .i64) h, .sl (.int .i64) d], .i .i64 x] [] = ((ifB (!goodQ c r n w h d) (some (V.tup [V.i IntKind.i64 (0 : Int), V.b false], []))
  (ifB (decide (x < (0 : Int))) (some (V.tup [V.i IntKind.i64 (0 : Int), V.b false], []))
  (ifB (decide (x ≥ n)) (some (V.tup [V.i IntKind.i64 (0 : Int), V.b false], []))
  (ifB (decide (x ∈ w)) (some (V.tup [V.i IntKind.i64 (1 : Int), V.b true], []))
  (ifB (decide (x ∈ h)) (some (V.tup [V.i IntKind.i64 (2 : Int), V.b true], []))
  (some (V.tup [V.i IntKind.i64 (3 : Int), V.b true], []))))))) : _) := by kernel_rfl
  rw [e]
  clear e
  unfold Que.whereO
  cases hg : goodQ c r n w h d with
  | false =>
    have hn : ¬ ((Que.mk c r n w h d).good = true ∧ 0 ≤ x ∧ x < (Que.mk c r n w h d).n) := fun hh => by have := hh.1; unfold Que.good at this; rw [hg] at this; cases this
    simp only [if_neg hn]
    rfl
  | true =>
    have f : (Que.mk c r n w h d).Fine := Que.fine hg
    have f3 := f.n
    dsimp only at f3
    by_cases q1 : 0 ≤ x ∧ x < n
    rotate_left
    · have hn : ¬ ((Que.mk c r n w h d).good = true ∧ 0 ≤ x ∧ x < (Que.mk c r n w h d).n) := fun hh => q1 hh.2
      simp only [if_neg hn]
      rw [ifB_false (by rfl)]; by_cases q0 : x < 0
      · rw [ifB_true (decide_eq_true q0)]; rfl
      · rw [ifB_false (decide_eq_false q0), ifB_true (decide_eq_true (by omega))]; rfl
    have hy : (Que.mk c r n w h d).good = true ∧ 0 ≤ x ∧ x < (Que.mk c r n w h d).n := ⟨hg, q1⟩
    simp only [if_pos hy]
    rw [ifB_false (by rfl), ifB_false (decide_eq_false (by omega)), ifB_false (decide_eq_false (by omega))]
    by_cases q2 : x ∈ w
    · simp [q2, Br.run]
    · by_cases q3 : x ∈ h <;> simp [q2, q3, Br.run]

theorem specWhere : Contract Try.prog 58 (Ent.rd1 whereG).F := by
  refine fun_contract' (KnowsL.cons (enters_fn Try.func51 (by kernel_rfl) (by kernel_rfl)) specGQ (KnowsL.cons (enters_fn Try.func123 (by kernel_rfl) (by kernel_rfl)) l1Has KnowsL.nil)).knows (Λ := look []) Try.func58 (c := Try.f58.body.getD .skip) (by kernel_rfl) fun vs bs r' hq hv hb => ?_
  unfold Ent.F whereG at hq
  dsimp only at hq
  split at hq
  · rename_i c r n w h d x
    exact ⟨loopsOk_nil _, (specWhere_fun c r n w h d x).trans hq⟩
  · cases hq
theorem implGaps_fun (c r n : Int) (w h d : List Int) : funK Try.prog (look [(37, .rd1 goodQG)]) (look []) Try.f55 [.agg [.i .i64 c, .i .i64 r, .i .i64 n, .sl (.int .i64) w, .sl (.int .i64) h, .sl (.int .i64) d]] [] = (.leaf (.tup [.i .i64 ((Que.mk c r n w h d).gapsO).1, .b ((Que.mk c r n w h d).gapsO).2], []) : Br (V × List (Option Blk))).run := by
  have e : funK Try.prog (look [(37, .rd1 goodQG)]) (look []) Try.f55 [.agg [.i .i64 c, .i .i64 r, .i .i64 n, .sl (.int .i64) w, .sl (.int .i64) h, .sl (.int .i64) d]] [] = ((ifB (!goodQ c r n w h d) (some (V.tup [V.i IntKind.i64 (0 : Int), V.b false], []))
  (ifB ((↑h.length : Int) == (0 : Int)) (some (V.tup [V.i IntKind.i64 (0 : Int), V.b true], []))
  (ifT
  (decide ((0 : Int) ≤ IntKind.i64.wrap ((↑h.length : Int) - (1 : Int))) &&
  decide (IntKind.i64.wrap ((↑h.length : Int) - (1 : Int)) < (↑h.length : Int)))
  (ifSome h[(IntKind.i64.wrap ((↑h.length : Int) - (1 : Int))).toNat]? fun z =>
  some
  (V.tup [V.i IntKind.i64 (IntKind.i64.wrap (IntKind.i64.wrap (z + (1 : Int)) - (↑h.length : Int))), V.b true],
  []))))) : _) := by kernel_rfl
  rw [e]
  clear e
  unfold Que.gapsO
  cases hg : goodQ c r n w h d with
  | false =>
    have hn : ¬ ((Que.mk c r n w h d).good = true) := fun hh => by unfold Que.good at hh; rw [hg] at hh; cases hh
    simp only [if_neg hn]
    rfl
  | true =>
    have f : (Que.mk c r n w h d).Fine := Que.fine hg
    have f3 := f.n; have f5 := f.sum; have f6 := f.lo
    dsimp only at f3 f5 f6
    have hy : (Que.mk c r n w h d).good = true := hg
    simp only [if_pos hy]
    rw [ifB_false (by rfl)]
    by_cases q1 : h.length = 0
    · rw [ifB_true (by simp [q1]), if_pos q1]; rfl
    have w1 : IntKind.i64.wrap ((h.length : Int) - 1) = ((h.length - 1 : Nat) : Int) := by rw [wrap_id (by omega) (by omega)]; omega
    have h1 : h.length - 1 < h.length := by omega
    have hz := f6 h[h.length - 1] (by simp)
    have e1 : h.getD (h.length - 1) 0 = h[h.length - 1] := by simp [List.getD, h1]
    rw [ifB_false (beq_false_of_ne (by omega)), if_neg q1, e1]
    simp only [w1, Int.toNat_natCast, List.getElem?_eq_getElem h1, ifSome_s]
    rw [ifT_true (by simp only [Bool.and_eq_true, decide_eq_true_eq]; omega)]
    rw [wrap_id (n := h[h.length - 1] + 1) (by omega) (by omega), wrap_id (by omega) (by omega)]
    rfl

theorem implGaps : Contract Try.prog 55 (Ent.rd1 gapsG).F := by
  refine fun_contract' (KnowsL.cons (enters_fn Try.func37 (by kernel_rfl) (by kernel_rfl)) implGQ KnowsL.nil).knows (Λ := look []) Try.func55 (c := Try.f55.body.getD .skip) (by kernel_rfl) fun vs bs r' hq hv hb => ?_
  unfold Ent.F gapsG at hq
  dsimp only at hq
  split at hq
  · rename_i c r n w h d
    exact ⟨loopsOk_nil _, (implGaps_fun c r n w h d).trans hq⟩
  · cases hq
theorem specGaps_fun (c r n : Int) (w h d : List Int) : funK Try.prog (look [(51, .rd1 goodQG)]) (look []) Try.f56 [.agg [.i .i64 c, .i .i64 r, .i .i64 n, .sl (.int .i64) w, .sl (.int .i64) h, .sl (.int .i64) d]] [] = (.leaf (.tup [.i .i64 ((Que.mk c r n w h d).gapsO).1, .b ((Que.mk c r n w h d).gapsO).2], []) : Br (V × List (Option Blk))).run := by
  have e : funK Try.prog (look [(51, .rd1 goodQG)]) (look []) Try.f56 [.agg [.i .i64 c, .i .i64 r, .i .i64 n, .sl (.int .i64) w, .sl (.int .i64) h, .sl (.int .i64) d]] [] = ((ifB (!goodQ c r n w h d) (some (V.tup [V.i IntKind.i64 (0 : Int), V.b false], []))
  (ifB ((↑h.length : Int) == (0 : Int)) (some (V.tup [V.i IntKind.i64 (0 : Int), V.b true], []))
  (ifT
  (decide ((0 : Int) ≤ IntKind.i64.wrap ((↑h.length : Int) - (1 : Int))) &&
  decide (IntKind.i64.wrap ((↑h.length : Int) - (1 : Int)) < (↑h.length : Int)))
  (ifSome h[(IntKind.i64.wrap ((↑h.length : Int) - (1 : Int))).toNat]? fun z =>
  some
  (V.tup [V.i IntKind.i64 (IntKind.i64.wrap (IntKind.i64.wrap (z + (1 : Int)) - (↑h.length : Int))), V.b true],
  []))))) : _) := by kernel_rfl
  rw [e]
  clear e
  unfold Que.gapsO
  cases hg : goodQ c r n w h d with
  | false =>
    have hn : ¬ ((Que.mk c r n w h d).good = true) := fun hh => by unfold Que.good at hh; rw [hg] at hh; cases hh
    simp only [if_neg hn]
    rfl
  | true =>
    have f : (Que.mk c r n w h d).Fine := Que.fine hg
    have f3 := f.n; have f5 := f.sum; have f6 := f.lo
    dsimp only at f3 f5 f6
    have hy : (Que.mk c r n w h d).good = true := hg
    simp only [if_pos hy]
    rw [ifB_false (by rfl)]
    by_cases q1 : h.length = 0
    · rw [ifB_true (by simp [q1]), if_pos q1]; rfl
    have w1 : IntKind.i64.wrap ((h.length : Int) - 1) = ((h.length - 1 : Nat) : Int) := by rw [wrap_id (by omega) (by omega)]; omega
    have h1 : h.length - 1 < h.length := by omega
    have hz := f6 h[h.length - 1] (by simp)
    have e1 : h.getD (h.length - 1) 0 = h[h.length - 1] := by simp [List.getD, h1]
    rw [ifB_false (beq_false_of_ne (by omega)), if_neg q1, e1]
    simp only [w1, Int.toNat_natCast, List.getElem?_eq_getElem h1, ifSome_s]
    rw [ifT_true (by simp only [Bool.and_eq_true, decide_eq_true_eq]; omega)]
    rw [wrap_id (n := h[h.length - 1] + 1) (by omega) (by omega), wrap_id (by omega) (by omega)]
    rfl

theorem specGaps : Contract Try.prog 56 (Ent.rd1 gapsG).F := by
  refine fun_contract' (KnowsL.cons (enters_fn Try.func51 (by kernel_rfl) (by kernel_rfl)) specGQ KnowsL.nil).knows (Λ := look []) Try.func56 (c := Try.f56.body.getD .skip) (by kernel_rfl) fun vs bs r' hq hv hb => ?_
  unfold Ent.F gapsG at hq
  dsimp only at hq
  split at hq
  · rename_i c r n w h d
    exact ⟨loopsOk_nil _, (specGaps_fun c r n w h d).trans hq⟩
  · cases hq
theorem sameQ_fun (a0 a1 a2 : Int) (a3 a4 a5 : List Int) (b0 b1 b2 : Int) (b3 b4 b5 : List Int) : funK Try.prog (look [(35, .rd1 sameIntsG)]) (look []) Try.f36 [.agg [.i .i64 a0, .i .i64 a1, .i .i64 a2, .sl (.int .i64) a3, .sl (.int .i64) a4, .sl (.int .i64) a5], .agg [.i .i64 b0, .i .i64 b1, .i .i64 b2, .sl (.int .i64) b3, .sl (.int .i64) b4, .sl (.int .i64) b5]] [] = (.leaf (.b (decide (a0 = b0 ∧ a1 = b1 ∧ a2 = b2 ∧ a3 = b3 ∧ a4 = b4 ∧ a5 = b5)), []) : Br (V × List (Option Blk))).run := by
  have e : funK Try.prog (look [(35, .rd1 sameIntsG)]) (look []) Try.f36 [.agg [.i .i64 a0, .i .i64 a1, .i .i64 a2, .sl (.int .i64) a3, .sl (.int .i64) a4, .sl (.int .i64) a5], .agg [.i .i64 b0, .i .i64 b1, .i .i64 b2, .sl (.int .i64) b3, .sl (.int .i64) b4, .sl (.int .i64) b5]] [] = ((ifB (a0 == b0)
  (ifB (a1 == b1)
  (ifB (a2 == b2)
  (ifB (decide (a3 = b3)) (ifB (decide (a4 = b4)) (some (V.b (decide (a5 = b5)), [])) (some (V.b false, [])))
  (some (V.b false, [])))
  (some (V.b false, [])))
  (some (V.b false, [])))
  (some (V.b false, []))) : _) := by kernel_rfl
  rw [e]
  clear e
  simp only [Br.run]
  by_cases h0 : a0 = b0 <;> by_cases h1 : a1 = b1 <;> by_cases h2 : a2 = b2 <;> by_cases h3 : a3 = b3 <;> by_cases h4 : a4 = b4 <;> by_cases h5 : a5 = b5 <;> simp [h0, h1, h2, h3, h4, h5]
theorem sameQ : Contract Try.prog 36 (Ent.rd1 sameQG).F := by
  refine fun_contract' (KnowsL.cons (enters_fn Try.func35 (by kernel_rfl) (by kernel_rfl)) sameInts KnowsL.nil).knows (Λ := look []) Try.func36 (c := Try.f36.body.getD .skip) (by kernel_rfl) fun vs bs r' hq hv hb => ?_
  unfold Ent.F sameQG at hq
  dsimp only at hq
  split at hq
  · rename_i a0 a1 a2 a3 a4 a5 b0 b1 b2 b3 b4 b5
    exact ⟨loopsOk_nil _, (sameQ_fun a0 a1 a2 a3 a4 a5 b0 b1 b2 b3 b4 b5).trans hq⟩
  · cases hq
end Go.Proofs.Ytjghbihlgfjebaa.Den
