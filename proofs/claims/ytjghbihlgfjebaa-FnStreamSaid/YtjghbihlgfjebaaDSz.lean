/- What functions of the program do, by the machine: Sz. -/
import Derived.Test.YtjghbihlgfjebaaDTo
import Derived.KernelRfl
import Derived.Test.YtjghbihlgfjebaaRows
namespace Go.Proofs.Ytjghbihlgfjebaa.Den
open Go.Proofs
set_option maxRecDepth 100000
def szStrsW (l : List (List UInt8)) : Int := (((l.map fun z => z.length).sum : Nat) : Int)
def szStrsE : LoopEnt := ⟨28, [0,1,5], [1], [4], fun
  | ([.sl .str l, .i .i64 k, .i .i64 n], []) =>
    .need (decide (0 ≤ n ∧ n.toNat ≤ l.length ∧ l.length ≤ maxI ∧ 0 ≤ k ∧ k ≤ lim ∧ ∀ z ∈ l, z.length ≤ maxI)) (.br (decide (k - szStrsW (l.drop n.toNat) < 0)) (.leaf (.ret, ([.i .i64 (-1)], []))) (.leaf (.exit 0, ([.i .i64 (k - szStrsW (l.drop n.toNat))], []))))
  | _ => .no⟩
def szStrsG : List V → List Blk → Br (V × List (Option Blk))
  | [.sl .str l, .i .i64 k], [] => .need (decide (0 ≤ k ∧ k ≤ lim ∧ ∀ z ∈ l, z.length ≤ maxI)) (.br (decide (k - (↑l.length : Int) - szStrsW l < 0)) (.leaf (.i .i64 (-1), [])) (.leaf (.i .i64 (k - (↑l.length : Int) - szStrsW l), [])))
  | _, _ => .no
def szPacketG : List V → List Blk → Br (V × List (Option Blk))
  | [.agg [.i .i64 a0, .i .i64 a1, .s a2], .i .i64 k], [] => .need (decide (0 ≤ k ∧ k ≤ lim ∧ a2.length ≤ maxI)) (.br (decide (k - (↑a2.length : Int) < 0)) (.leaf (.i .i64 (-1), [])) (.leaf (.i .i64 (k - (↑a2.length : Int)), [])))
  | _, _ => .no
def szPacketsW (l : List (Int × Int × List UInt8 × Unit)) : Int := (((l.map fun z => z.2.2.1.length).sum : Nat) : Int)
def szPacketsE : LoopEnt := ⟨27, [0,1,5], [1], [4], fun
  | ([.sl (.pair (.int .i64) (.pair (.int .i64) (.pair .str .unit))) l, .i .i64 k, .i .i64 n], []) =>
    .need (decide (0 ≤ n ∧ n.toNat ≤ l.length ∧ l.length ≤ maxI ∧ 0 ≤ k ∧ k ≤ lim ∧ ∀ z ∈ l, z.2.2.1.length ≤ maxI)) (.br (decide (k - szPacketsW (l.drop n.toNat) < 0)) (.leaf (.ret, ([.i .i64 (-1)], []))) (.leaf (.exit 0, ([.i .i64 (k - szPacketsW (l.drop n.toNat))], []))))
  | _ => .no⟩
def szPacketsG : List V → List Blk → Br (V × List (Option Blk))
  | [.sl (.pair (.int .i64) (.pair (.int .i64) (.pair .str .unit))) l, .i .i64 k], [] => .need (decide (0 ≤ k ∧ k ≤ lim ∧ ∀ z ∈ l, z.2.2.1.length ≤ maxI)) (.br (decide (k - (↑l.length : Int) - szPacketsW l < 0)) (.leaf (.i .i64 (-1), [])) (.leaf (.i .i64 (k - (↑l.length : Int) - szPacketsW l), [])))
  | _, _ => .no
def szAcksG : List V → List Blk → Br (V × List (Option Blk))
  | [.sl (.pair (.int .i64) (.pair (.int .i64) .unit)) l, .i .i64 k], [] => .need (decide (0 ≤ k ∧ k ≤ lim)) (.br (decide (k - (↑l.length : Int) < 0)) (.leaf (.i .i64 (-1), [])) (.leaf (.i .i64 (k - (↑l.length : Int)), [])))
  | _, _ => .no
theorem szStrsW_nonneg (l : List (List UInt8)) : 0 ≤ szStrsW l := by unfold szStrsW; exact Int.natCast_nonneg _
theorem szStrsW_cons (z : (List UInt8)) (l : List (List UInt8)) : szStrsW (z :: l) = (↑(z.length) : Int) + szStrsW l := by simp [szStrsW]
theorem szStrs_round (l : List (List UInt8)) (k : Int) (n : Nat) : roundK Try.prog (look []) (look [(5, szStrsE)]) 0 (body Try.f59 0) szStrsE ([.sl .str l, .i .i64 k, .i .i64 n], []) =
  ((ifB (decide ((↑n : Int) < (↑l.length : Int)))
  (ifT (decide ((0 : Int) ≤ (↑n : Int)) && decide ((↑n : Int) < (↑l.length : Int)))
  (ifSome l[((↑n : Int)).toNat]? fun z =>
  ifB (decide (IntKind.i64.wrap (k - (↑(List.length z) : Int)) < (0 : Int)))
  (some (Ex.ret, [V.i IntKind.i64 (-1 : Int)], []))
  (some
  (Ex.normal,
  [V.sl Cd.str l, V.i IntKind.i64 (IntKind.i64.wrap (k - (↑(List.length z) : Int))),
  V.i IntKind.i64 (IntKind.i64.wrap ((↑n : Int) + (1 : Int)))],
  []))))
  (some (Ex.exit (0 : Nat), [V.i IntKind.i64 k], []))) : _) := by kernel_rfl
theorem szStrs_loop {l : List (List UInt8)} (hx : l.length ≤ maxI) (hz : ∀ z ∈ l, z.length ≤ maxI) : ∀ (j n : Nat) (k : Int), n + j = l.length → 0 ≤ k → k ≤ lim → ∀ e d', (.br (decide (k - szStrsW (l.drop n) < 0)) (.leaf (.ret, ([.i .i64 (-1)], []))) (.leaf (.exit 0, ([.i .i64 (k - szStrsW (l.drop n))], []))) : Br (Ex × Dt)).run = some (e, d') →
    Runs Try.prog (look []) (look [(5, szStrsE)]) 0 (body Try.f59 0) szStrsE ([.sl .str l, .i .i64 k, .i .i64 n], []) e d'
  | 0, n, k, hn, h0, hk, e, d', h => by
    have e1 : l.drop n = [] := List.drop_eq_nil_of_le (by omega)
    rw [e1, br_run, show szStrsW [] = 0 from rfl, if_neg (by omega)] at h
    cases h
    refine .stop _ _ _ ((szStrs_round l k n).trans ?_) (by simp)
    simp [show ¬ n < l.length by omega]
  | j + 1, n, k, hn, h0, hk, e, d', h => by
    have h1 : n < l.length := by omega
    have hw := hz l[n] (List.getElem_mem h1)
    unfold lim at hk
    unfold maxI at hw
    have hr := szStrs_round l k n
    have hp := szStrsW_nonneg (l.drop (n + 1))
    simp only [Int.toNat_natCast, List.getElem?_eq_getElem h1, wrap_succ (n := n) (by omega)] at hr
    rw [List.drop_eq_getElem_cons h1, szStrsW_cons, br_run] at h
    by_cases he : k - (↑(l[n].length) : Int) < 0
    · rw [if_pos (by omega)] at h
      cases h
      refine .stop _ _ _ (hr.trans ?_) (by simp)
      simp [h1, he, lim, maxI, h0, hk, hw, wrap_id (n := k - (↑(l[n].length) : Int)) (by omega) (by omega)]
    · refine .step _ _ _ (d1 := ([.sl .str l, .i .i64 (k - (↑(l[n].length) : Int)), .i .i64 ((n + 1 : Nat) : Int)], [])) (hr.trans ?_) (szStrs_loop hx hz j (n + 1) _ (by omega) (by omega) (by unfold lim; omega) e d' ?_)
      · simp [h1, he, lim, maxI, h0, hk, hw, wrap_id (n := k - (↑(l[n].length) : Int)) (by omega) (by omega)]
      · rw [br_run, Int.sub_sub]; exact h
theorem szStrs_ok : LoopsOk Try.prog (look []) (look [(5, szStrsE)]) 0 (Try.f59.body.getD .skip) := by
  refine loopsOk_one (a := body Try.f59 0) (by kernel_rfl) fun d e d' h => ?_
  unfold szStrsE at h
  dsimp only at h
  split at h
  · obtain ⟨hc, h⟩ := need_some h
    have hc := of_decide_eq_true hc
    obtain ⟨n, rfl⟩ := Int.eq_ofNat_of_zero_le hc.1
    exact szStrs_loop hc.2.2.1 hc.2.2.2.2.2 _ n _ (Nat.add_sub_of_le hc.2.1) hc.2.2.2.1 hc.2.2.2.2.1 e d' h
  · cases h
theorem szStrs_fun (l : List (List UInt8)) (k : Int) (hx : l.length ≤ maxI) (h0 : 0 ≤ k) (h1 : k ≤ lim) (h2 : ∀ z ∈ l, z.length ≤ maxI) : funK Try.prog (look []) (look [(5, szStrsE)]) Try.f59 [.sl .str l, .i .i64 k] [] = (.br (decide (k - (↑l.length : Int) - szStrsW l < 0)) (.leaf (.i .i64 (-1), [])) (.leaf (.i .i64 (k - (↑l.length : Int) - szStrsW l), [])) : Br (V × List (Option Blk))).run := by
  have e : funK Try.prog (look []) (look [(5, szStrsE)]) Try.f59 [.sl .str l, .i .i64 k] [] =
    ((ifB (decide (IntKind.i64.wrap (k - (↑l.length : Int)) < (0 : Int))) (some (V.i IntKind.i64 (-1 : Int), []))
  (ifT
  (decide
  ((0 : Int) ≤ (0 : Int) ∧
  (0 : Nat) ≤ l.length ∧
  l.length ≤ maxI ∧
  (0 : Int) ≤ IntKind.i64.wrap (k - (↑l.length : Int)) ∧
  IntKind.i64.wrap (k - (↑l.length : Int)) ≤ lim ∧ ∀ (z : Cd.str.den), z ∈ l → List.length z ≤ maxI))
  (ifB (decide (IntKind.i64.wrap (k - (↑l.length : Int)) - szStrsW (List.drop (0 : Nat) l) < (0 : Int)))
  (some (V.i IntKind.i64 (-1 : Int), []))
  (some (V.i IntKind.i64 (IntKind.i64.wrap (k - (↑l.length : Int)) - szStrsW (List.drop (0 : Nat) l)), []))))) : _) := by kernel_rfl
  have hp := szStrsW_nonneg l
  have h1' := h1
  unfold lim at h1'
  have hx' := hx
  unfold maxI at hx'
  rw [e, br_run, wrap_id (n := k - (↑l.length : Int)) (by omega) (by omega)]
  by_cases q : k - (↑l.length : Int) < 0
  · rw [ifB_true (decide_eq_true q), if_pos (by omega)]; rfl
  · rw [ifB_false (decide_eq_false q), ifT_true (decide_eq_true ⟨by omega, by omega, hx, by omega, by unfold lim; omega, h2⟩), ifB_dec']
    rfl
theorem szStrs : Contract Try.prog 59 (Ent.rd1 szStrsG).F := by
  refine fun_contract' KnowsL.nil.knows (Λ := (look [(5, szStrsE)])) Try.func59 (c := Try.f59.body.getD .skip) (by kernel_rfl) fun vs bs r h hv hb => ?_
  unfold Ent.F szStrsG at h
  dsimp only at h
  split at h
  · rename_i l k
    obtain ⟨hc, h⟩ := need_some h
    have hc := of_decide_eq_true hc
    exact ⟨szStrs_ok, (szStrs_fun l k (hv (.sl .str l) (by simp)).1 hc.1 hc.2.1 hc.2.2).trans h⟩
  · cases h
theorem szPacket_fun (a0 : Int) (a1 : Int) (a2 : List UInt8) (k : Int) (h0 : 0 ≤ k) (h1 : k ≤ lim) (h2 : a2.length ≤ maxI) : funK Try.prog (look []) (look []) Try.f124 [.agg [.i .i64 a0, .i .i64 a1, .s a2], .i .i64 k] [] = (.br (decide (k - (↑a2.length : Int) < 0)) (.leaf (.i .i64 (-1), [])) (.leaf (.i .i64 (k - (↑a2.length : Int)), [])) : Br (V × List (Option Blk))).run := by
  have e : funK Try.prog (look []) (look []) Try.f124 [.agg [.i .i64 a0, .i .i64 a1, .s a2], .i .i64 k] [] =
    ((ifB (decide (IntKind.i64.wrap (k - (↑a2.length : Int)) < (0 : Int))) (some (V.i IntKind.i64 (-1 : Int), []))
  (some (V.i IntKind.i64 (IntKind.i64.wrap (k - (↑a2.length : Int))), []))) : _) := by kernel_rfl
  unfold lim at h1
  unfold maxI at h2
  rw [e, br_run, wrap_id (by omega) (by omega)]
  by_cases q : k - (↑a2.length : Int) < 0 <;> simp [q, Br.run]
theorem szPacket : Contract Try.prog 124 (Ent.rd1 szPacketG).F := by
  refine fun_contract' (KnowsL.nil).knows (Λ := look []) Try.func124 (c := Try.f124.body.getD .skip) (by kernel_rfl) fun vs bs r h hv hb => ?_
  unfold Ent.F szPacketG at h
  dsimp only at h
  split at h
  · obtain ⟨hc, h⟩ := need_some h
    have hc := of_decide_eq_true hc
    exact ⟨loopsOk_nil _, (szPacket_fun _ _ _ _ hc.1 hc.2.1 hc.2.2).trans h⟩
  · cases h
theorem szPacketsW_nonneg (l : List (Int × Int × List UInt8 × Unit)) : 0 ≤ szPacketsW l := by unfold szPacketsW; exact Int.natCast_nonneg _
theorem szPacketsW_cons (z : (Int × Int × List UInt8 × Unit)) (l : List (Int × Int × List UInt8 × Unit)) : szPacketsW (z :: l) = (↑(z.2.2.1.length) : Int) + szPacketsW l := by simp [szPacketsW]
theorem szPackets_round (l : List (Int × Int × List UInt8 × Unit)) (k : Int) (n : Nat) : roundK Try.prog (look [(124, .rd1 szPacketG)]) (look [(5, szPacketsE)]) 0 (body Try.f60 0) szPacketsE ([.sl (.pair (.int .i64) (.pair (.int .i64) (.pair .str .unit))) l, .i .i64 k, .i .i64 n], []) =
  ((ifB (decide ((↑n : Int) < (↑l.length : Int)))
  (ifT (decide ((0 : Int) ≤ (↑n : Int)) && decide ((↑n : Int) < (↑l.length : Int)))
  (ifSome l[((↑n : Int)).toNat]? fun z =>
  ifT (decide ((0 : Int) ≤ k ∧ k ≤ lim ∧ List.length z.snd.snd.fst ≤ maxI))
  (ifB (decide (k - (↑(List.length z.snd.snd.fst) : Int) < (0 : Int)))
  (some (Ex.ret, [V.i IntKind.i64 (-1 : Int)], []))
  (ifB (decide (k - (↑(List.length z.snd.snd.fst) : Int) < (0 : Int)))
  (some (Ex.ret, [V.i IntKind.i64 (-1 : Int)], []))
  (some
  (Ex.normal,
  [V.sl ((Cd.int IntKind.i64).pair ((Cd.int IntKind.i64).pair (Cd.str.pair Cd.unit))) l,
  V.i IntKind.i64 (k - (↑(List.length z.snd.snd.fst) : Int)),
  V.i IntKind.i64 (IntKind.i64.wrap ((↑n : Int) + (1 : Int)))],
  []))))))
  (some (Ex.exit (0 : Nat), [V.i IntKind.i64 k], []))) : _) := by kernel_rfl
theorem szPackets_loop {l : List (Int × Int × List UInt8 × Unit)} (hx : l.length ≤ maxI) (hz : ∀ z ∈ l, z.2.2.1.length ≤ maxI) : ∀ (j n : Nat) (k : Int), n + j = l.length → 0 ≤ k → k ≤ lim → ∀ e d', (.br (decide (k - szPacketsW (l.drop n) < 0)) (.leaf (.ret, ([.i .i64 (-1)], []))) (.leaf (.exit 0, ([.i .i64 (k - szPacketsW (l.drop n))], []))) : Br (Ex × Dt)).run = some (e, d') →
    Runs Try.prog (look [(124, .rd1 szPacketG)]) (look [(5, szPacketsE)]) 0 (body Try.f60 0) szPacketsE ([.sl (.pair (.int .i64) (.pair (.int .i64) (.pair .str .unit))) l, .i .i64 k, .i .i64 n], []) e d'
  | 0, n, k, hn, h0, hk, e, d', h => by
    have e1 : l.drop n = [] := List.drop_eq_nil_of_le (by omega)
    rw [e1, br_run, show szPacketsW [] = 0 from rfl, if_neg (by omega)] at h
    cases h
    refine .stop _ _ _ ((szPackets_round l k n).trans ?_) (by simp)
    simp [show ¬ n < l.length by omega]
  | j + 1, n, k, hn, h0, hk, e, d', h => by
    have h1 : n < l.length := by omega
    have hw := hz l[n] (List.getElem_mem h1)
    unfold lim at hk
    unfold maxI at hw
    have hr := szPackets_round l k n
    have hp := szPacketsW_nonneg (l.drop (n + 1))
    simp only [Int.toNat_natCast, List.getElem?_eq_getElem h1, wrap_succ (n := n) (by omega)] at hr
    rw [List.drop_eq_getElem_cons h1, szPacketsW_cons, br_run] at h
    by_cases he : k - (↑(l[n].2.2.1.length) : Int) < 0
    · rw [if_pos (by omega)] at h
      cases h
      refine .stop _ _ _ (hr.trans ?_) (by simp)
      simp [h1, he, lim, maxI, h0, hk, hw, wrap_id (n := k - (↑(l[n].2.2.1.length) : Int)) (by omega) (by omega)]
    · refine .step _ _ _ (d1 := ([.sl (.pair (.int .i64) (.pair (.int .i64) (.pair .str .unit))) l, .i .i64 (k - (↑(l[n].2.2.1.length) : Int)), .i .i64 ((n + 1 : Nat) : Int)], [])) (hr.trans ?_) (szPackets_loop hx hz j (n + 1) _ (by omega) (by omega) (by unfold lim; omega) e d' ?_)
      · simp [h1, he, lim, maxI, h0, hk, hw, wrap_id (n := k - (↑(l[n].2.2.1.length) : Int)) (by omega) (by omega)]
      · rw [br_run, Int.sub_sub]; exact h
theorem szPackets_ok : LoopsOk Try.prog (look [(124, .rd1 szPacketG)]) (look [(5, szPacketsE)]) 0 (Try.f60.body.getD .skip) := by
  refine loopsOk_one (a := body Try.f60 0) (by kernel_rfl) fun d e d' h => ?_
  unfold szPacketsE at h
  dsimp only at h
  split at h
  · obtain ⟨hc, h⟩ := need_some h
    have hc := of_decide_eq_true hc
    obtain ⟨n, rfl⟩ := Int.eq_ofNat_of_zero_le hc.1
    exact szPackets_loop hc.2.2.1 hc.2.2.2.2.2 _ n _ (Nat.add_sub_of_le hc.2.1) hc.2.2.2.1 hc.2.2.2.2.1 e d' h
  · cases h
theorem szPackets_fun (l : List (Int × Int × List UInt8 × Unit)) (k : Int) (hx : l.length ≤ maxI) (h0 : 0 ≤ k) (h1 : k ≤ lim) (h2 : ∀ z ∈ l, z.2.2.1.length ≤ maxI) : funK Try.prog (look [(124, .rd1 szPacketG)]) (look [(5, szPacketsE)]) Try.f60 [.sl (.pair (.int .i64) (.pair (.int .i64) (.pair .str .unit))) l, .i .i64 k] [] = (.br (decide (k - (↑l.length : Int) - szPacketsW l < 0)) (.leaf (.i .i64 (-1), [])) (.leaf (.i .i64 (k - (↑l.length : Int) - szPacketsW l), [])) : Br (V × List (Option Blk))).run := by
  have e : funK Try.prog (look [(124, .rd1 szPacketG)]) (look [(5, szPacketsE)]) Try.f60 [.sl (.pair (.int .i64) (.pair (.int .i64) (.pair .str .unit))) l, .i .i64 k] [] =
    ((ifB (decide (IntKind.i64.wrap (k - (↑l.length : Int)) < (0 : Int))) (some (V.i IntKind.i64 (-1 : Int), []))
  (ifT
  (decide
  ((0 : Int) ≤ (0 : Int) ∧
  (0 : Nat) ≤ l.length ∧
  l.length ≤ maxI ∧
  (0 : Int) ≤ IntKind.i64.wrap (k - (↑l.length : Int)) ∧
  IntKind.i64.wrap (k - (↑l.length : Int)) ≤ lim ∧
  ∀ (z : ((Cd.int IntKind.i64).pair ((Cd.int IntKind.i64).pair (Cd.str.pair Cd.unit))).den),
  z ∈ l → List.length z.snd.snd.fst ≤ maxI))
  (ifB (decide (IntKind.i64.wrap (k - (↑l.length : Int)) - szPacketsW (List.drop (0 : Nat) l) < (0 : Int)))
  (some (V.i IntKind.i64 (-1 : Int), []))
  (some (V.i IntKind.i64 (IntKind.i64.wrap (k - (↑l.length : Int)) - szPacketsW (List.drop (0 : Nat) l)), []))))) : _) := by kernel_rfl
  have hp := szPacketsW_nonneg l
  have h1' := h1
  unfold lim at h1'
  have hx' := hx
  unfold maxI at hx'
  rw [e, br_run, wrap_id (n := k - (↑l.length : Int)) (by omega) (by omega)]
  by_cases q : k - (↑l.length : Int) < 0
  · rw [ifB_true (decide_eq_true q), if_pos (by omega)]; rfl
  · rw [ifB_false (decide_eq_false q), ifT_true (decide_eq_true ⟨by omega, by omega, hx, by omega, by unfold lim; omega, h2⟩), ifB_dec']
    rfl
theorem szPackets : Contract Try.prog 60 (Ent.rd1 szPacketsG).F := by
  refine fun_contract' (KnowsL.cons (enters_fn Try.func124 (by kernel_rfl) (by kernel_rfl)) szPacket KnowsL.nil).knows (Λ := (look [(5, szPacketsE)])) Try.func60 (c := Try.f60.body.getD .skip) (by kernel_rfl) fun vs bs r h hv hb => ?_
  unfold Ent.F szPacketsG at h
  dsimp only at h
  split at h
  · rename_i l k
    obtain ⟨hc, h⟩ := need_some h
    have hc := of_decide_eq_true hc
    exact ⟨szPackets_ok, (szPackets_fun l k (hv (.sl (.pair (.int .i64) (.pair (.int .i64) (.pair .str .unit))) l) (by simp)).1 hc.1 hc.2.1 hc.2.2).trans h⟩
  · cases h
theorem szAcks_fun (l : List (Int × Int × Unit)) (k : Int) (hx : l.length ≤ maxI) (h0 : 0 ≤ k) (h1 : k ≤ lim) : funK Try.prog (look []) (look []) Try.f61 [.sl (.pair (.int .i64) (.pair (.int .i64) .unit)) l, .i .i64 k] [] = (.br (decide (k - (↑l.length : Int) < 0)) (.leaf (.i .i64 (-1), [])) (.leaf (.i .i64 (k - (↑l.length : Int)), [])) : Br (V × List (Option Blk))).run := by
  have e : funK Try.prog (look []) (look []) Try.f61 [.sl (.pair (.int .i64) (.pair (.int .i64) .unit)) l, .i .i64 k] [] =
    ((ifB (decide (IntKind.i64.wrap (k - (↑l.length : Int)) < (0 : Int))) (some (V.i IntKind.i64 (-1 : Int), []))
  (some (V.i IntKind.i64 (IntKind.i64.wrap (k - (↑l.length : Int))), []))) : _) := by kernel_rfl
  unfold lim at h1
  unfold maxI at hx
  rw [e, br_run, wrap_id (by omega) (by omega), ifB_dec']
  rfl
theorem szAcks : Contract Try.prog 61 (Ent.rd1 szAcksG).F := by
  refine fun_contract' KnowsL.nil.knows (Λ := look []) Try.func61 (c := Try.f61.body.getD .skip) (by kernel_rfl) fun vs bs r h hv hb => ?_
  unfold Ent.F szAcksG at h
  dsimp only at h
  split at h
  · rename_i l k
    obtain ⟨hc, h⟩ := need_some h
    have hc := of_decide_eq_true hc
    exact ⟨loopsOk_nil _, (szAcks_fun l k (hv (.sl (.pair (.int .i64) (.pair (.int .i64) .unit)) l) (by simp)).1 hc.1 hc.2).trans h⟩
  · cases h
end Go.Proofs.Ytjghbihlgfjebaa.Den
