/- What functions of the program do, by the machine: Held. -/
import Derived.Test.YtjghbihlgfjebaaDMark
import Derived.KernelRfl
import Derived.Test.YtjghbihlgfjebaaRows
namespace Go.Proofs.Ytjghbihlgfjebaa.Den
open Go.Proofs
set_option maxRecDepth 100000
def heldStrE : LoopEnt := ⟨22, [0,1,4,5], [1,4], [4], fun
  | ([.sl .str l, .i .i64 k, .i .i64 r, .i .i64 n], []) =>
    .need (decide (0 ≤ n ∧ n.toNat ≤ l.length ∧ l.length ≤ maxI ∧ 0 ≤ k ∧ k + 1 * (↑(l.length - n.toNat) : Int) ≤ lim))
      (.br (decide (l.drop n.toNat = marks markStr1 1 k (l.length - n.toNat))) (.leaf (.exit 0, ([.i .i64 (k + 1 * (↑(l.length - n.toNat) : Int)), .i .i64 r], []))) (.leaf (.ret, ([.i .i64 (-1)], []))))
  | _ => .no⟩
def heldStrG : List V → List Blk → Br (V × List (Option Blk))
  | [.sl .str l, .i .i64 k], [] =>
    .need (decide (0 ≤ k ∧ k + 1 * (↑l.length : Int) ≤ lim)) (.br (decide (l = marks markStr1 1 k l.length)) (.leaf (.i .i64 (k + 1 * (↑l.length : Int)), [])) (.leaf (.i .i64 (-1), [])))
  | _, _ => .no
def heldPacketE : LoopEnt := ⟨41, [0,1,4,5], [1,4], [4], fun
  | ([.sl (.pair (.int .i64) (.pair (.int .i64) (.pair .str .unit))) l, .i .i64 k, .i .i64 r, .i .i64 n], []) =>
    .need (decide (0 ≤ n ∧ n.toNat ≤ l.length ∧ l.length ≤ maxI ∧ 0 ≤ k ∧ k + 3 * (↑(l.length - n.toNat) : Int) ≤ lim))
      (.br (decide (l.drop n.toNat = marks markPacket1 3 k (l.length - n.toNat))) (.leaf (.exit 0, ([.i .i64 (k + 3 * (↑(l.length - n.toNat) : Int)), .i .i64 r], []))) (.leaf (.ret, ([.i .i64 (-1)], []))))
  | _ => .no⟩
def heldPacketG : List V → List Blk → Br (V × List (Option Blk))
  | [.sl (.pair (.int .i64) (.pair (.int .i64) (.pair .str .unit))) l, .i .i64 k], [] =>
    .need (decide (0 ≤ k ∧ k + 3 * (↑l.length : Int) ≤ lim)) (.br (decide (l = marks markPacket1 3 k l.length)) (.leaf (.i .i64 (k + 3 * (↑l.length : Int)), [])) (.leaf (.i .i64 (-1), [])))
  | _, _ => .no
def heldAckE : LoopEnt := ⟨31, [0,1,4,5], [1,4], [4], fun
  | ([.sl (.pair (.int .i64) (.pair (.int .i64) .unit)) l, .i .i64 k, .i .i64 r, .i .i64 n], []) =>
    .need (decide (0 ≤ n ∧ n.toNat ≤ l.length ∧ l.length ≤ maxI ∧ 0 ≤ k ∧ k + 2 * (↑(l.length - n.toNat) : Int) ≤ lim))
      (.br (decide (l.drop n.toNat = marks markAck1 2 k (l.length - n.toNat))) (.leaf (.exit 0, ([.i .i64 (k + 2 * (↑(l.length - n.toNat) : Int)), .i .i64 r], []))) (.leaf (.ret, ([.i .i64 (-1)], []))))
  | _ => .no⟩
def heldAckG : List V → List Blk → Br (V × List (Option Blk))
  | [.sl (.pair (.int .i64) (.pair (.int .i64) .unit)) l, .i .i64 k], [] =>
    .need (decide (0 ≤ k ∧ k + 2 * (↑l.length : Int) ≤ lim)) (.br (decide (l = marks markAck1 2 k l.length)) (.leaf (.i .i64 (k + 2 * (↑l.length : Int)), [])) (.leaf (.i .i64 (-1), [])))
  | _, _ => .no
theorem heldStr_round (k : Int) (r : Int) (l : List (List UInt8)) (n : Nat) : roundK Try.prog (look [(136, .rd1 markTextG)]) (look [(2, heldStrE)]) 0 (body Try.f77 0) heldStrE ([.sl .str l, .i .i64 k, .i .i64 r, .i .i64 n], []) =
  ((ifB (decide ((↑n : Int) < (↑l.length : Int)))
  (ifT (decide ((0 : Int) ≤ (↑n : Int)) && decide ((↑n : Int) < (↑l.length : Int)))
  (ifSome l[((↑n : Int)).toNat]? fun z =>
  ifT (decide (k ≤ lim))
  (ifB (!z == mtext k) (some (Ex.ret, [V.i IntKind.i64 (-1 : Int)], []))
  (some
  (Ex.normal,
  [V.sl Cd.str l, V.i IntKind.i64 (IntKind.i64.wrap (k + (1 : Int))), V.i IntKind.i64 r,
  V.i IntKind.i64 (IntKind.i64.wrap ((↑n : Int) + (1 : Int)))],
  [])))))
  (some (Ex.exit (0 : Nat), [V.i IntKind.i64 k, V.i IntKind.i64 r], []))) : _) := by kernel_rfl
theorem heldStr_loop {r : Int} {l : List (List UInt8)} (hm : l.length ≤ maxI) : ∀ (j n : Nat) (k : Int), n + j = l.length → 0 ≤ k → k + 1 * (j : Int) ≤ lim →
    Runs Try.prog (look [(136, .rd1 markTextG)]) (look [(2, heldStrE)]) 0 (body Try.f77 0) heldStrE ([.sl .str l, .i .i64 k, .i .i64 r, .i .i64 n], []) (if l.drop n = marks markStr1 1 k j then .exit 0 else .ret) (if l.drop n = marks markStr1 1 k j then [.i .i64 (k + 1 * (j : Int)), .i .i64 r] else [.i .i64 (-1)], [])
  | 0, n, k, hn, h0, hk => by
    have e1 : l.drop n = [] := List.drop_eq_nil_of_le (by omega)
    refine .stop _ _ _ ((heldStr_round k r l n).trans ?_) (by simp [e1, marks])
    simp [e1, marks, show ¬ n < l.length by omega]
  | j + 1, n, k, hn, h0, hk => by
    have h1 : n < l.length := by omega
    unfold lim at hk
    have hr := heldStr_round k r l n
    have hw : ∀ i : Int, 0 ≤ i → i ≤ 1 → IntKind.i64.wrap (k + i) = k + i := fun i hi hi' => wrap_id (by omega) (by omega)
    simp only [Int.toNat_natCast, List.getElem?_eq_getElem h1, wrap_succ (n := n) (by omega)] at hr
    have hd : (l.drop n = marks markStr1 1 k (j + 1)) = (l[n] = markStr1 k ∧ l.drop (n+1) = marks markStr1 1 (k + 1) j) := by rw [List.drop_eq_getElem_cons h1, marks, List.cons.injEq]
    have hs : (IntKind.i64.wrap (k + 1) = k + 1) := hw 1 (by omega) (by omega)
    by_cases he : l[n] = markStr1 k
    · refine .step _ _ _ (d1 := ([.sl .str l, .i .i64 (k + 1), .i .i64 r, .i .i64 ((n + 1 : Nat) : Int)], [])) (hr.trans ?_) ?_
      · simp [h1, he, markStr1, lim, hw 1 (by omega) (by omega), Int.add_assoc, show k ≤ 1000000000000 by omega]
      · have := heldStr_loop (r := r) hm j (n + 1) (k + 1) (by omega) (by omega) (by unfold lim; push_cast at hk; omega)
        have e : k + 1 + 1 * (j : Int) = k + 1 * ((j + 1 : Nat) : Int) := by push_cast; omega
        rw [e] at this
        simp only [hd, he, true_and]
        exact this
    · refine .stop _ _ _ (hr.trans ?_) (by simp [hd, he])
      simp only [hd, he, false_and, if_false]
      simp [markStr1] at he
      simp [h1, he, lim, show k ≤ 1000000000000 by omega]
theorem heldStr_ok : LoopsOk Try.prog (look [(136, .rd1 markTextG)]) (look [(2, heldStrE)]) 0 (Try.f77.body.getD .skip) := by
  refine loopsOk_one (a := body Try.f77 0) (by kernel_rfl) fun d e d' h => ?_
  unfold heldStrE at h
  dsimp only at h
  split at h
  · rename_i l k r n
    obtain ⟨hc, h⟩ := need_some h
    have hc := of_decide_eq_true hc
    obtain ⟨n, rfl⟩ := Int.eq_ofNat_of_zero_le hc.1
    have := heldStr_loop (r := r) hc.2.2.1 _ n k (Nat.add_sub_of_le hc.2.1) hc.2.2.2.1 hc.2.2.2.2
    rcases br_some h with ⟨h1, h⟩ | ⟨h1, h⟩
    · have h1 := of_decide_eq_true h1
      simp only [Int.toNat_natCast] at h1 h
      cases h
      rw [if_pos h1, if_pos h1] at this; exact this
    · have h1 := of_decide_eq_false h1
      simp only [Int.toNat_natCast] at h1 h
      cases h
      rw [if_neg h1, if_neg h1] at this; exact this
  · cases h
theorem heldStr_fun (l : List (List UInt8)) (k : Int) (hm : l.length ≤ maxI) (h0 : 0 ≤ k) (hk : k + 1 * (l.length : Int) ≤ lim) : funK Try.prog (look [(136, .rd1 markTextG)]) (look [(2, heldStrE)]) Try.f77 [.sl .str l, .i .i64 k] [] =
    if l = marks markStr1 1 k l.length then some (.i .i64 (k + 1 * (l.length : Int)), []) else some (.i .i64 (-1), []) := by
  have e : funK Try.prog (look [(136, .rd1 markTextG)]) (look [(2, heldStrE)]) Try.f77 [.sl .str l, .i .i64 k] [] =
    ((ifT
  (decide
  ((0 : Int) ≤ (0 : Int) ∧
  (0 : Nat) ≤ l.length ∧ l.length ≤ maxI ∧ (0 : Int) ≤ k ∧ k + (1 : Int) * (↑(l.length - (0 : Nat)) : Int) ≤ lim))
  (ifB (decide (List.drop (0 : Nat) l = marks markStr1 (1 : Int) k (l.length - (0 : Nat))))
  (some (V.i IntKind.i64 (k + (1 : Int) * (↑(l.length - (0 : Nat)) : Int)), []))
  (some (V.i IntKind.i64 (-1 : Int), [])))) : _) := by kernel_rfl
  rw [e, ifT_true (decide_eq_true ⟨by omega, by omega, hm, h0, hk⟩), ifB_dec']
  rfl
theorem heldStr : Contract Try.prog 77 (Ent.rd1 heldStrG).F := by
  refine fun_contract' (KnowsL.cons (enters_fn Try.func136 (by kernel_rfl) (by kernel_rfl)) markText (KnowsL.nil)).knows (Λ := (look [(2, heldStrE)])) Try.func77 (c := Try.f77.body.getD .skip) (by kernel_rfl) fun vs bs r h hv hb => ?_
  unfold Ent.F heldStrG at h
  dsimp only at h
  split at h
  · rename_i l k
    obtain ⟨hc, h⟩ := need_some h
    have hc := of_decide_eq_true hc
    refine ⟨heldStr_ok, (heldStr_fun l k (hv (.sl .str l) (by simp)).1 hc.1 hc.2).trans ?_⟩
    rcases br_some h with ⟨h1, h⟩ | ⟨h1, h⟩
    · rw [if_pos (of_decide_eq_true h1)]; exact h
    · rw [if_neg (of_decide_eq_false h1)]; exact h
  · cases h
theorem heldPacket_round (k : Int) (r : Int) (l : List (Int × Int × List UInt8 × Unit)) (n : Nat) : roundK Try.prog (look [(136, .rd1 markTextG)]) (look [(2, heldPacketE)]) 0 (body Try.f78 0) heldPacketE ([.sl (.pair (.int .i64) (.pair (.int .i64) (.pair .str .unit))) l, .i .i64 k, .i .i64 r, .i .i64 n], []) =
  ((ifB (decide ((↑n : Int) < (↑l.length : Int)))
  (ifT (decide ((0 : Int) ≤ (↑n : Int)) && decide ((↑n : Int) < (↑l.length : Int)))
  (ifSome l[((↑n : Int)).toNat]? fun z =>
  ifB (z.fst != k) (some (Ex.ret, [V.i IntKind.i64 (-1 : Int)], []))
  (ifT (decide ((0 : Int) ≤ (↑n : Int)) && decide ((↑n : Int) < (↑l.length : Int)))
  (ifSome l[((↑n : Int)).toNat]? fun z =>
  ifB (z.snd.fst != IntKind.i64.wrap (k + (1 : Int))) (some (Ex.ret, [V.i IntKind.i64 (-1 : Int)], []))
  (ifT (decide ((0 : Int) ≤ (↑n : Int)) && decide ((↑n : Int) < (↑l.length : Int)))
  (ifSome l[((↑n : Int)).toNat]? fun z =>
  ifT (decide (IntKind.i64.wrap (IntKind.i64.wrap (k + (1 : Int)) + (1 : Int)) ≤ lim))
  (ifB (!z.snd.snd.fst == mtext (IntKind.i64.wrap (IntKind.i64.wrap (k + (1 : Int)) + (1 : Int))))
  (some (Ex.ret, [V.i IntKind.i64 (-1 : Int)], []))
  (some
  (Ex.normal,
  [V.sl ((Cd.int IntKind.i64).pair ((Cd.int IntKind.i64).pair (Cd.str.pair Cd.unit))) l,
  V.i IntKind.i64
  (IntKind.i64.wrap
  (IntKind.i64.wrap (IntKind.i64.wrap (k + (1 : Int)) + (1 : Int)) + (1 : Int))),
  V.i IntKind.i64 r, V.i IntKind.i64 (IntKind.i64.wrap ((↑n : Int) + (1 : Int)))],
  [])))))))))
  (some (Ex.exit (0 : Nat), [V.i IntKind.i64 k, V.i IntKind.i64 r], []))) : _) := by kernel_rfl
theorem heldPacket_loop {r : Int} {l : List (Int × Int × List UInt8 × Unit)} (hm : l.length ≤ maxI) : ∀ (j n : Nat) (k : Int), n + j = l.length → 0 ≤ k → k + 3 * (j : Int) ≤ lim →
    Runs Try.prog (look [(136, .rd1 markTextG)]) (look [(2, heldPacketE)]) 0 (body Try.f78 0) heldPacketE ([.sl (.pair (.int .i64) (.pair (.int .i64) (.pair .str .unit))) l, .i .i64 k, .i .i64 r, .i .i64 n], []) (if l.drop n = marks markPacket1 3 k j then .exit 0 else .ret) (if l.drop n = marks markPacket1 3 k j then [.i .i64 (k + 3 * (j : Int)), .i .i64 r] else [.i .i64 (-1)], [])
  | 0, n, k, hn, h0, hk => by
    have e1 : l.drop n = [] := List.drop_eq_nil_of_le (by omega)
    refine .stop _ _ _ ((heldPacket_round k r l n).trans ?_) (by simp [e1, marks])
    simp [e1, marks, show ¬ n < l.length by omega]
  | j + 1, n, k, hn, h0, hk => by
    have h1 : n < l.length := by omega
    unfold lim at hk
    have hr := heldPacket_round k r l n
    have hw : ∀ i : Int, 0 ≤ i → i ≤ 3 → IntKind.i64.wrap (k + i) = k + i := fun i hi hi' => wrap_id (by omega) (by omega)
    simp only [Int.toNat_natCast, List.getElem?_eq_getElem h1, wrap_succ (n := n) (by omega)] at hr
    have hd : (l.drop n = marks markPacket1 3 k (j + 1)) = (l[n] = markPacket1 k ∧ l.drop (n+1) = marks markPacket1 3 (k + 3) j) := by rw [List.drop_eq_getElem_cons h1, marks, List.cons.injEq]
    have hs : (IntKind.i64.wrap (k + 1) = k + 1) := hw 1 (by omega) (by omega)
    by_cases he : l[n] = markPacket1 k
    · refine .step _ _ _ (d1 := ([.sl (.pair (.int .i64) (.pair (.int .i64) (.pair .str .unit))) l, .i .i64 (k + 3), .i .i64 r, .i .i64 ((n + 1 : Nat) : Int)], [])) (hr.trans ?_) ?_
      · simp [h1, he, markPacket1, lim, hw 1 (by omega) (by omega), hw 2 (by omega) (by omega), hw 3 (by omega) (by omega), Int.add_assoc, show k ≤ 1000000000000 by omega, show k + 1 ≤ 1000000000000 by omega, show k + 2 ≤ 1000000000000 by omega]
      · have := heldPacket_loop (r := r) hm j (n + 1) (k + 3) (by omega) (by omega) (by unfold lim; push_cast at hk; omega)
        have e : k + 3 + 3 * (j : Int) = k + 3 * ((j + 1 : Nat) : Int) := by push_cast; omega
        rw [e] at this
        simp only [hd, he, true_and]
        exact this
    · refine .stop _ _ _ (hr.trans ?_) (by simp [hd, he])
      simp only [hd, he, false_and, if_false]
      by_cases q0 : l[n].1 = k <;> by_cases q1 : l[n].2.1 = k + 1 <;> by_cases q2 : l[n].2.2.1 = mtext (k + 2) <;> first | exact (he (Prod.ext q0 (Prod.ext q1 (Prod.ext q2 rfl)))).elim | simp [h1, q0, q1, q2, lim, hw 1 (by omega) (by omega), hw 2 (by omega) (by omega), hw 3 (by omega) (by omega), Int.add_assoc, show k ≤ 1000000000000 by omega, show k + 1 ≤ 1000000000000 by omega, show k + 2 ≤ 1000000000000 by omega]
theorem heldPacket_ok : LoopsOk Try.prog (look [(136, .rd1 markTextG)]) (look [(2, heldPacketE)]) 0 (Try.f78.body.getD .skip) := by
  refine loopsOk_one (a := body Try.f78 0) (by kernel_rfl) fun d e d' h => ?_
  unfold heldPacketE at h
  dsimp only at h
  split at h
  · rename_i l k r n
    obtain ⟨hc, h⟩ := need_some h
    have hc := of_decide_eq_true hc
    obtain ⟨n, rfl⟩ := Int.eq_ofNat_of_zero_le hc.1
    have := heldPacket_loop (r := r) hc.2.2.1 _ n k (Nat.add_sub_of_le hc.2.1) hc.2.2.2.1 hc.2.2.2.2
    rcases br_some h with ⟨h1, h⟩ | ⟨h1, h⟩
    · have h1 := of_decide_eq_true h1
      simp only [Int.toNat_natCast] at h1 h
      cases h
      rw [if_pos h1, if_pos h1] at this; exact this
    · have h1 := of_decide_eq_false h1
      simp only [Int.toNat_natCast] at h1 h
      cases h
      rw [if_neg h1, if_neg h1] at this; exact this
  · cases h
theorem heldPacket_fun (l : List (Int × Int × List UInt8 × Unit)) (k : Int) (hm : l.length ≤ maxI) (h0 : 0 ≤ k) (hk : k + 3 * (l.length : Int) ≤ lim) : funK Try.prog (look [(136, .rd1 markTextG)]) (look [(2, heldPacketE)]) Try.f78 [.sl (.pair (.int .i64) (.pair (.int .i64) (.pair .str .unit))) l, .i .i64 k] [] =
    if l = marks markPacket1 3 k l.length then some (.i .i64 (k + 3 * (l.length : Int)), []) else some (.i .i64 (-1), []) := by
  have e : funK Try.prog (look [(136, .rd1 markTextG)]) (look [(2, heldPacketE)]) Try.f78 [.sl (.pair (.int .i64) (.pair (.int .i64) (.pair .str .unit))) l, .i .i64 k] [] =
    ((ifT
  (decide
  ((0 : Int) ≤ (0 : Int) ∧
  (0 : Nat) ≤ l.length ∧ l.length ≤ maxI ∧ (0 : Int) ≤ k ∧ k + (3 : Int) * (↑(l.length - (0 : Nat)) : Int) ≤ lim))
  (ifB (decide (List.drop (0 : Nat) l = marks markPacket1 (3 : Int) k (l.length - (0 : Nat))))
  (some (V.i IntKind.i64 (k + (3 : Int) * (↑(l.length - (0 : Nat)) : Int)), []))
  (some (V.i IntKind.i64 (-1 : Int), [])))) : _) := by kernel_rfl
  rw [e, ifT_true (decide_eq_true ⟨by omega, by omega, hm, h0, hk⟩), ifB_dec']
  rfl
theorem heldPacket : Contract Try.prog 78 (Ent.rd1 heldPacketG).F := by
  refine fun_contract' (KnowsL.cons (enters_fn Try.func136 (by kernel_rfl) (by kernel_rfl)) markText (KnowsL.nil)).knows (Λ := (look [(2, heldPacketE)])) Try.func78 (c := Try.f78.body.getD .skip) (by kernel_rfl) fun vs bs r h hv hb => ?_
  unfold Ent.F heldPacketG at h
  dsimp only at h
  split at h
  · rename_i l k
    obtain ⟨hc, h⟩ := need_some h
    have hc := of_decide_eq_true hc
    refine ⟨heldPacket_ok, (heldPacket_fun l k (hv (.sl (.pair (.int .i64) (.pair (.int .i64) (.pair .str .unit))) l) (by simp)).1 hc.1 hc.2).trans ?_⟩
    rcases br_some h with ⟨h1, h⟩ | ⟨h1, h⟩
    · rw [if_pos (of_decide_eq_true h1)]; exact h
    · rw [if_neg (of_decide_eq_false h1)]; exact h
  · cases h
theorem heldAck_round (k : Int) (r : Int) (l : List (Int × Int × Unit)) (n : Nat) : roundK Try.prog (look []) (look [(2, heldAckE)]) 0 (body Try.f79 0) heldAckE ([.sl (.pair (.int .i64) (.pair (.int .i64) .unit)) l, .i .i64 k, .i .i64 r, .i .i64 n], []) =
  ((ifB (decide ((↑n : Int) < (↑l.length : Int)))
  (ifT (decide ((0 : Int) ≤ (↑n : Int)) && decide ((↑n : Int) < (↑l.length : Int)))
  (ifSome l[((↑n : Int)).toNat]? fun z =>
  ifB (z.fst != k) (some (Ex.ret, [V.i IntKind.i64 (-1 : Int)], []))
  (ifT (decide ((0 : Int) ≤ (↑n : Int)) && decide ((↑n : Int) < (↑l.length : Int)))
  (ifSome l[((↑n : Int)).toNat]? fun z =>
  ifB (z.snd.fst != IntKind.i64.wrap (k + (1 : Int))) (some (Ex.ret, [V.i IntKind.i64 (-1 : Int)], []))
  (some
  (Ex.normal,
  [V.sl ((Cd.int IntKind.i64).pair ((Cd.int IntKind.i64).pair Cd.unit)) l,
  V.i IntKind.i64 (IntKind.i64.wrap (IntKind.i64.wrap (k + (1 : Int)) + (1 : Int))),
  V.i IntKind.i64 r, V.i IntKind.i64 (IntKind.i64.wrap ((↑n : Int) + (1 : Int)))],
  []))))))
  (some (Ex.exit (0 : Nat), [V.i IntKind.i64 k, V.i IntKind.i64 r], []))) : _) := by kernel_rfl
theorem heldAck_loop {r : Int} {l : List (Int × Int × Unit)} (hm : l.length ≤ maxI) : ∀ (j n : Nat) (k : Int), n + j = l.length → 0 ≤ k → k + 2 * (j : Int) ≤ lim →
    Runs Try.prog (look []) (look [(2, heldAckE)]) 0 (body Try.f79 0) heldAckE ([.sl (.pair (.int .i64) (.pair (.int .i64) .unit)) l, .i .i64 k, .i .i64 r, .i .i64 n], []) (if l.drop n = marks markAck1 2 k j then .exit 0 else .ret) (if l.drop n = marks markAck1 2 k j then [.i .i64 (k + 2 * (j : Int)), .i .i64 r] else [.i .i64 (-1)], [])
  | 0, n, k, hn, h0, hk => by
    have e1 : l.drop n = [] := List.drop_eq_nil_of_le (by omega)
    refine .stop _ _ _ ((heldAck_round k r l n).trans ?_) (by simp [e1, marks])
    simp [e1, marks, show ¬ n < l.length by omega]
  | j + 1, n, k, hn, h0, hk => by
    have h1 : n < l.length := by omega
    unfold lim at hk
    have hr := heldAck_round k r l n
    have hw : ∀ i : Int, 0 ≤ i → i ≤ 2 → IntKind.i64.wrap (k + i) = k + i := fun i hi hi' => wrap_id (by omega) (by omega)
    simp only [Int.toNat_natCast, List.getElem?_eq_getElem h1, wrap_succ (n := n) (by omega)] at hr
    have hd : (l.drop n = marks markAck1 2 k (j + 1)) = (l[n] = markAck1 k ∧ l.drop (n+1) = marks markAck1 2 (k + 2) j) := by rw [List.drop_eq_getElem_cons h1, marks, List.cons.injEq]
    have hs : (IntKind.i64.wrap (k + 1) = k + 1) := hw 1 (by omega) (by omega)
    by_cases he : l[n] = markAck1 k
    · refine .step _ _ _ (d1 := ([.sl (.pair (.int .i64) (.pair (.int .i64) .unit)) l, .i .i64 (k + 2), .i .i64 r, .i .i64 ((n + 1 : Nat) : Int)], [])) (hr.trans ?_) ?_
      · simp [h1, he, markAck1, lim, hw 1 (by omega) (by omega), hw 2 (by omega) (by omega), Int.add_assoc, show k ≤ 1000000000000 by omega, show k + 1 ≤ 1000000000000 by omega]
      · have := heldAck_loop (r := r) hm j (n + 1) (k + 2) (by omega) (by omega) (by unfold lim; push_cast at hk; omega)
        have e : k + 2 + 2 * (j : Int) = k + 2 * ((j + 1 : Nat) : Int) := by push_cast; omega
        rw [e] at this
        simp only [hd, he, true_and]
        exact this
    · refine .stop _ _ _ (hr.trans ?_) (by simp [hd, he])
      simp only [hd, he, false_and, if_false]
      by_cases q0 : l[n].1 = k <;> by_cases q1 : l[n].2.1 = k + 1 <;> first | exact (he (Prod.ext q0 (Prod.ext q1 rfl))).elim | simp [h1, q0, q1, lim, hw 1 (by omega) (by omega), hw 2 (by omega) (by omega), Int.add_assoc, show k ≤ 1000000000000 by omega, show k + 1 ≤ 1000000000000 by omega]
theorem heldAck_ok : LoopsOk Try.prog (look []) (look [(2, heldAckE)]) 0 (Try.f79.body.getD .skip) := by
  refine loopsOk_one (a := body Try.f79 0) (by kernel_rfl) fun d e d' h => ?_
  unfold heldAckE at h
  dsimp only at h
  split at h
  · rename_i l k r n
    obtain ⟨hc, h⟩ := need_some h
    have hc := of_decide_eq_true hc
    obtain ⟨n, rfl⟩ := Int.eq_ofNat_of_zero_le hc.1
    have := heldAck_loop (r := r) hc.2.2.1 _ n k (Nat.add_sub_of_le hc.2.1) hc.2.2.2.1 hc.2.2.2.2
    rcases br_some h with ⟨h1, h⟩ | ⟨h1, h⟩
    · have h1 := of_decide_eq_true h1
      simp only [Int.toNat_natCast] at h1 h
      cases h
      rw [if_pos h1, if_pos h1] at this; exact this
    · have h1 := of_decide_eq_false h1
      simp only [Int.toNat_natCast] at h1 h
      cases h
      rw [if_neg h1, if_neg h1] at this; exact this
  · cases h
theorem heldAck_fun (l : List (Int × Int × Unit)) (k : Int) (hm : l.length ≤ maxI) (h0 : 0 ≤ k) (hk : k + 2 * (l.length : Int) ≤ lim) : funK Try.prog (look []) (look [(2, heldAckE)]) Try.f79 [.sl (.pair (.int .i64) (.pair (.int .i64) .unit)) l, .i .i64 k] [] =
    if l = marks markAck1 2 k l.length then some (.i .i64 (k + 2 * (l.length : Int)), []) else some (.i .i64 (-1), []) := by
  have e : funK Try.prog (look []) (look [(2, heldAckE)]) Try.f79 [.sl (.pair (.int .i64) (.pair (.int .i64) .unit)) l, .i .i64 k] [] =
    ((ifT
  (decide
  ((0 : Int) ≤ (0 : Int) ∧
  (0 : Nat) ≤ l.length ∧ l.length ≤ maxI ∧ (0 : Int) ≤ k ∧ k + (2 : Int) * (↑(l.length - (0 : Nat)) : Int) ≤ lim))
  (ifB (decide (List.drop (0 : Nat) l = marks markAck1 (2 : Int) k (l.length - (0 : Nat))))
  (some (V.i IntKind.i64 (k + (2 : Int) * (↑(l.length - (0 : Nat)) : Int)), []))
  (some (V.i IntKind.i64 (-1 : Int), [])))) : _) := by kernel_rfl
  rw [e, ifT_true (decide_eq_true ⟨by omega, by omega, hm, h0, hk⟩), ifB_dec']
  rfl
theorem heldAck : Contract Try.prog 79 (Ent.rd1 heldAckG).F := by
  refine fun_contract' (KnowsL.nil).knows (Λ := (look [(2, heldAckE)])) Try.func79 (c := Try.f79.body.getD .skip) (by kernel_rfl) fun vs bs r h hv hb => ?_
  unfold Ent.F heldAckG at h
  dsimp only at h
  split at h
  · rename_i l k
    obtain ⟨hc, h⟩ := need_some h
    have hc := of_decide_eq_true hc
    refine ⟨heldAck_ok, (heldAck_fun l k (hv (.sl (.pair (.int .i64) (.pair (.int .i64) .unit)) l) (by simp)).1 hc.1 hc.2).trans ?_⟩
    rcases br_some h with ⟨h1, h⟩ | ⟨h1, h⟩
    · rw [if_pos (of_decide_eq_true h1)]; exact h
    · rw [if_neg (of_decide_eq_false h1)]; exact h
  · cases h
end Go.Proofs.Ytjghbihlgfjebaa.Den
