/- What functions of the program do, by the machine: SzT. -/
import Derived.Test.YtpoepgnhdhpkjaaDToT
import Derived.KernelRfl
import Derived.Test.YtpoepgnhdhpkjaaRows
namespace Go.Proofs.Ytpoepgnhdhpkjaa.Den
open Go.Proofs
set_option maxRecDepth 100000
def szSesStepG : List V → List Blk → Br (V × List (Option Blk))
  | [.agg [.i .i64 a0, .i .i64 a1, .s a2], .i .i64 k], [] => .need (decide (0 ≤ k ∧ k ≤ lim ∧ a2.length ≤ maxI)) (.br (decide (k - (↑a2.length : Int) < 0)) (.leaf (.i .i64 (-1), [])) (.leaf (.i .i64 (k - (↑a2.length : Int)), [])))
  | _, _ => .no
def szSesStepsW (l : List (Int × Int × List UInt8 × Unit)) : Int := (((l.map fun z => z.2.2.1.length).sum : Nat) : Int)
def szSesStepsE : LoopEnt := ⟨27, [0,1,5], [1], [4], fun
  | ([.sl (.pair (.int .i64) (.pair (.int .i64) (.pair .str .unit))) l, .i .i64 k, .i .i64 n], []) =>
    .need (decide (0 ≤ n ∧ n.toNat ≤ l.length ∧ l.length ≤ maxI ∧ 0 ≤ k ∧ k ≤ lim ∧ ∀ z ∈ l, z.2.2.1.length ≤ maxI)) (.br (decide (k - szSesStepsW (l.drop n.toNat) < 0)) (.leaf (.ret, ([.i .i64 (-1)], []))) (.leaf (.exit 0, ([.i .i64 (k - szSesStepsW (l.drop n.toNat))], []))))
  | _ => .no⟩
def szSesStepsG : List V → List Blk → Br (V × List (Option Blk))
  | [.sl (.pair (.int .i64) (.pair (.int .i64) (.pair .str .unit))) l, .i .i64 k], [] => .need (decide (0 ≤ k ∧ k ≤ lim ∧ ∀ z ∈ l, z.2.2.1.length ≤ maxI)) (.br (decide (k - (↑l.length : Int) - szSesStepsW l < 0)) (.leaf (.i .i64 (-1), [])) (.leaf (.i .i64 (k - (↑l.length : Int) - szSesStepsW l), [])))
  | _, _ => .no
theorem szSesStep_fun (a0 : Int) (a1 : Int) (a2 : List UInt8) (k : Int) (h0 : 0 ≤ k) (h1 : k ≤ lim) (h2 : a2.length ≤ maxI) : funK Try.prog (look []) (look []) Try.f43 [.agg [.i .i64 a0, .i .i64 a1, .s a2], .i .i64 k] [] = (.br (decide (k - (↑a2.length : Int) < 0)) (.leaf (.i .i64 (-1), [])) (.leaf (.i .i64 (k - (↑a2.length : Int)), [])) : Br (V × List (Option Blk))).run := by
  have e : funK Try.prog (look []) (look []) Try.f43 [.agg [.i .i64 a0, .i .i64 a1, .s a2], .i .i64 k] [] =
    ((ifB (decide (IntKind.i64.wrap (k - (↑a2.length : Int)) < (0 : Int))) (some (V.i IntKind.i64 (-1 : Int), []))
  (some (V.i IntKind.i64 (IntKind.i64.wrap (k - (↑a2.length : Int))), []))) : _) := by kernel_rfl
  unfold lim at h1
  unfold maxI at h2
  rw [e, br_run, wrap_id (by omega) (by omega)]
  by_cases q : k - (↑a2.length : Int) < 0 <;> simp [q, Br.run]
theorem szSesStep : Contract Try.prog 43 (Ent.rd1 szSesStepG).F := by
  refine fun_contract' (KnowsL.nil).knows (Λ := look []) Try.func43 (c := Try.f43.body.getD .skip) (by kernel_rfl) fun vs bs r h hv hb => ?_
  unfold Ent.F szSesStepG at h
  dsimp only at h
  split at h
  · obtain ⟨hc, h⟩ := need_some h
    have hc := of_decide_eq_true hc
    exact ⟨loopsOk_nil _, (szSesStep_fun _ _ _ _ hc.1 hc.2.1 hc.2.2).trans h⟩
  · cases h
theorem szSesStepsW_nonneg (l : List (Int × Int × List UInt8 × Unit)) : 0 ≤ szSesStepsW l := by unfold szSesStepsW; exact Int.natCast_nonneg _
theorem szSesStepsW_cons (z : (Int × Int × List UInt8 × Unit)) (l : List (Int × Int × List UInt8 × Unit)) : szSesStepsW (z :: l) = (↑(z.2.2.1.length) : Int) + szSesStepsW l := by simp [szSesStepsW]
theorem szSesSteps_round (l : List (Int × Int × List UInt8 × Unit)) (k : Int) (n : Nat) : roundK Try.prog (look [(43, .rd1 szSesStepG)]) (look [(5, szSesStepsE)]) 0 (body Try.f35 0) szSesStepsE ([.sl (.pair (.int .i64) (.pair (.int .i64) (.pair .str .unit))) l, .i .i64 k, .i .i64 n], []) =
  ((ifB (decide ((↑n : Int) < (↑l.length : Int)))
  (ifT (decide ((0 : Int) ≤ (↑n : Int)) && decide ((↑n : Int) < (↑l.length : Int)))
  (ifSome l[((↑n : Int)).toNat]? fun z =>
  ifT (decide ((0 : Int) ≤ k ∧ k ≤ lim ∧ List.length z.snd.snd.fst ≤ maxI))
  (ifB (decide (k - (↑(List.length z.snd.snd.fst) : Int) < (0 : Int)))
  (some (Ex.ret, [V.i IntKind.i64 (-1 : Int)], []))
  (ifB (decide (k - (↑(List.length z.snd.snd.fst) : Int) < (0 : Int)))
  (some (Ex.ret, [V.i IntKind.i64 (-1 : Int)], []))
  (some
  (Ex.normal,
  [V.sl ((Cd.int IntKind.i64).pair ((Cd.int IntKind.i64).pair (Cd.str.pair Cd.unit))) l,
  V.i IntKind.i64 (k - (↑(List.length z.snd.snd.fst) : Int)),
  V.i IntKind.i64 (IntKind.i64.wrap ((↑n : Int) + (1 : Int)))],
  []))))))
  (some (Ex.exit (0 : Nat), [V.i IntKind.i64 k], []))) : _) := by kernel_rfl
theorem szSesSteps_loop {l : List (Int × Int × List UInt8 × Unit)} (hx : l.length ≤ maxI) (hz : ∀ z ∈ l, z.2.2.1.length ≤ maxI) : ∀ (j n : Nat) (k : Int), n + j = l.length → 0 ≤ k → k ≤ lim → ∀ e d', (.br (decide (k - szSesStepsW (l.drop n) < 0)) (.leaf (.ret, ([.i .i64 (-1)], []))) (.leaf (.exit 0, ([.i .i64 (k - szSesStepsW (l.drop n))], []))) : Br (Ex × Dt)).run = some (e, d') →
    Runs Try.prog (look [(43, .rd1 szSesStepG)]) (look [(5, szSesStepsE)]) 0 (body Try.f35 0) szSesStepsE ([.sl (.pair (.int .i64) (.pair (.int .i64) (.pair .str .unit))) l, .i .i64 k, .i .i64 n], []) e d'
  | 0, n, k, hn, h0, hk, e, d', h => by
    have e1 : l.drop n = [] := List.drop_eq_nil_of_le (by omega)
    rw [e1, br_run, show szSesStepsW [] = 0 from rfl, if_neg (by omega)] at h
    cases h
    refine .stop _ _ _ ((szSesSteps_round l k n).trans ?_) (by simp)
    simp [show ¬ n < l.length by omega]
  | j + 1, n, k, hn, h0, hk, e, d', h => by
    have h1 : n < l.length := by omega
    have hw := hz l[n] (List.getElem_mem h1)
    unfold lim at hk
    unfold maxI at hw
    have hr := szSesSteps_round l k n
    have hp := szSesStepsW_nonneg (l.drop (n + 1))
    simp only [Int.toNat_natCast, List.getElem?_eq_getElem h1, wrap_succ (n := n) (by omega)] at hr
    rw [List.drop_eq_getElem_cons h1, szSesStepsW_cons, br_run] at h
    by_cases he : k - (↑(l[n].2.2.1.length) : Int) < 0
    · rw [if_pos (by omega)] at h
      cases h
      refine .stop _ _ _ (hr.trans ?_) (by simp)
      simp [h1, he, lim, maxI, h0, hk, hw, wrap_id (n := k - (↑(l[n].2.2.1.length) : Int)) (by omega) (by omega)]
    · refine .step _ _ _ (d1 := ([.sl (.pair (.int .i64) (.pair (.int .i64) (.pair .str .unit))) l, .i .i64 (k - (↑(l[n].2.2.1.length) : Int)), .i .i64 ((n + 1 : Nat) : Int)], [])) (hr.trans ?_) (szSesSteps_loop hx hz j (n + 1) _ (by omega) (by omega) (by unfold lim; omega) e d' ?_)
      · simp [h1, he, lim, maxI, h0, hk, hw, wrap_id (n := k - (↑(l[n].2.2.1.length) : Int)) (by omega) (by omega)]
      · rw [br_run, Int.sub_sub]; exact h
theorem szSesSteps_ok : LoopsOk Try.prog (look [(43, .rd1 szSesStepG)]) (look [(5, szSesStepsE)]) 0 (Try.f35.body.getD .skip) := by
  refine loopsOk_one (a := body Try.f35 0) (by kernel_rfl) fun d e d' h => ?_
  unfold szSesStepsE at h
  dsimp only at h
  split at h
  · obtain ⟨hc, h⟩ := need_some h
    have hc := of_decide_eq_true hc
    obtain ⟨n, rfl⟩ := Int.eq_ofNat_of_zero_le hc.1
    exact szSesSteps_loop hc.2.2.1 hc.2.2.2.2.2 _ n _ (Nat.add_sub_of_le hc.2.1) hc.2.2.2.1 hc.2.2.2.2.1 e d' h
  · cases h
theorem szSesSteps_fun (l : List (Int × Int × List UInt8 × Unit)) (k : Int) (hx : l.length ≤ maxI) (h0 : 0 ≤ k) (h1 : k ≤ lim) (h2 : ∀ z ∈ l, z.2.2.1.length ≤ maxI) : funK Try.prog (look [(43, .rd1 szSesStepG)]) (look [(5, szSesStepsE)]) Try.f35 [.sl (.pair (.int .i64) (.pair (.int .i64) (.pair .str .unit))) l, .i .i64 k] [] = (.br (decide (k - (↑l.length : Int) - szSesStepsW l < 0)) (.leaf (.i .i64 (-1), [])) (.leaf (.i .i64 (k - (↑l.length : Int) - szSesStepsW l), [])) : Br (V × List (Option Blk))).run := by
  have e : funK Try.prog (look [(43, .rd1 szSesStepG)]) (look [(5, szSesStepsE)]) Try.f35 [.sl (.pair (.int .i64) (.pair (.int .i64) (.pair .str .unit))) l, .i .i64 k] [] =
    ((ifB (decide (IntKind.i64.wrap (k - (↑l.length : Int)) < (0 : Int))) (some (V.i IntKind.i64 (-1 : Int), []))
  (ifT
  (decide
  ((0 : Int) ≤ (0 : Int) ∧
  (0 : Nat) ≤ l.length ∧
  l.length ≤ maxI ∧
  (0 : Int) ≤ IntKind.i64.wrap (k - (↑l.length : Int)) ∧
  IntKind.i64.wrap (k - (↑l.length : Int)) ≤ lim ∧
  ∀ (z : ((Cd.int IntKind.i64).pair ((Cd.int IntKind.i64).pair (Cd.str.pair Cd.unit))).den),
  z ∈ l → List.length z.snd.snd.fst ≤ maxI))
  (ifB (decide (IntKind.i64.wrap (k - (↑l.length : Int)) - szSesStepsW (List.drop (0 : Nat) l) < (0 : Int)))
  (some (V.i IntKind.i64 (-1 : Int), []))
  (some (V.i IntKind.i64 (IntKind.i64.wrap (k - (↑l.length : Int)) - szSesStepsW (List.drop (0 : Nat) l)), []))))) : _) := by kernel_rfl
  have hp := szSesStepsW_nonneg l
  have h1' := h1
  unfold lim at h1'
  have hx' := hx
  unfold maxI at hx'
  rw [e, br_run, wrap_id (n := k - (↑l.length : Int)) (by omega) (by omega)]
  by_cases q : k - (↑l.length : Int) < 0
  · rw [ifB_true (decide_eq_true q), if_pos (by omega)]; rfl
  · rw [ifB_false (decide_eq_false q), ifT_true (decide_eq_true ⟨by omega, by omega, hx, by omega, by unfold lim; omega, h2⟩), ifB_dec']
    rfl
theorem szSesSteps : Contract Try.prog 35 (Ent.rd1 szSesStepsG).F := by
  refine fun_contract' (KnowsL.cons (enters_fn Try.func43 (by kernel_rfl) (by kernel_rfl)) szSesStep KnowsL.nil).knows (Λ := (look [(5, szSesStepsE)])) Try.func35 (c := Try.f35.body.getD .skip) (by kernel_rfl) fun vs bs r h hv hb => ?_
  unfold Ent.F szSesStepsG at h
  dsimp only at h
  split at h
  · rename_i l k
    obtain ⟨hc, h⟩ := need_some h
    have hc := of_decide_eq_true hc
    exact ⟨szSesSteps_ok, (szSesSteps_fun l k (hv (.sl (.pair (.int .i64) (.pair (.int .i64) (.pair .str .unit))) l) (by simp)).1 hc.1 hc.2.1 hc.2.2).trans h⟩
  · cases h
end Go.Proofs.Ytpoepgnhdhpkjaa.Den
