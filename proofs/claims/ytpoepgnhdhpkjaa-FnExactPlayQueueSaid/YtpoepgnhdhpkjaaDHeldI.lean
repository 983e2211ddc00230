/- What functions of the program do, by the machine: HeldI. -/
import Derived.Test.YtpoepgnhdhpkjaaDMarkI
import Derived.KernelRfl
import Derived.Test.YtpoepgnhdhpkjaaRows
namespace Go.Proofs.Ytpoepgnhdhpkjaa.Den
open Go.Proofs
set_option maxRecDepth 100000
def heldIntE : LoopEnt := ⟨21, [0,1,4,5], [1,4], [4], fun
  | ([.sl (.int .i64) l, .i .i64 k, .i .i64 r, .i .i64 n], []) =>
    .need (decide (0 ≤ n ∧ n.toNat ≤ l.length ∧ l.length ≤ maxI ∧ 0 ≤ k ∧ k + 1 * (↑(l.length - n.toNat) : Int) ≤ lim))
      (.br (decide (l.drop n.toNat = marks markInt1 1 k (l.length - n.toNat))) (.leaf (.exit 0, ([.i .i64 (k + 1 * (↑(l.length - n.toNat) : Int)), .i .i64 r], []))) (.leaf (.ret, ([.i .i64 (-1)], []))))
  | _ => .no⟩
def heldIntG : List V → List Blk → Br (V × List (Option Blk))
  | [.sl (.int .i64) l, .i .i64 k], [] =>
    .need (decide (0 ≤ k ∧ k + 1 * (↑l.length : Int) ≤ lim)) (.br (decide (l = marks markInt1 1 k l.length)) (.leaf (.i .i64 (k + 1 * (↑l.length : Int)), [])) (.leaf (.i .i64 (-1), [])))
  | _, _ => .no
theorem heldInt_round (k : Int) (r : Int) (l : List Int) (n : Nat) : roundK Try.prog (look []) (look [(2, heldIntE)]) 0 (body Try.f34 0) heldIntE ([.sl (.int .i64) l, .i .i64 k, .i .i64 r, .i .i64 n], []) =
  ((ifB (decide ((↑n : Int) < (↑l.length : Int)))
  (ifT (decide ((0 : Int) ≤ (↑n : Int)) && decide ((↑n : Int) < (↑l.length : Int)))
  (ifSome l[((↑n : Int)).toNat]? fun z =>
  ifB (z != k) (some (Ex.ret, [V.i IntKind.i64 (-1 : Int)], []))
  (some
  (Ex.normal,
  [V.sl (Cd.int IntKind.i64) l, V.i IntKind.i64 (IntKind.i64.wrap (k + (1 : Int))), V.i IntKind.i64 r,
  V.i IntKind.i64 (IntKind.i64.wrap ((↑n : Int) + (1 : Int)))],
  []))))
  (some (Ex.exit (0 : Nat), [V.i IntKind.i64 k, V.i IntKind.i64 r], []))) : _) := by kernel_rfl
theorem heldInt_loop {r : Int} {l : List Int} (hm : l.length ≤ maxI) : ∀ (j n : Nat) (k : Int), n + j = l.length → 0 ≤ k → k + 1 * (j : Int) ≤ lim →
    Runs Try.prog (look []) (look [(2, heldIntE)]) 0 (body Try.f34 0) heldIntE ([.sl (.int .i64) l, .i .i64 k, .i .i64 r, .i .i64 n], []) (if l.drop n = marks markInt1 1 k j then .exit 0 else .ret) (if l.drop n = marks markInt1 1 k j then [.i .i64 (k + 1 * (j : Int)), .i .i64 r] else [.i .i64 (-1)], [])
  | 0, n, k, hn, h0, hk => by
    have e1 : l.drop n = [] := List.drop_eq_nil_of_le (by omega)
    refine .stop _ _ _ ((heldInt_round k r l n).trans ?_) (by simp [e1, marks])
    simp [e1, marks, show ¬ n < l.length by omega]
  | j + 1, n, k, hn, h0, hk => by
    have h1 : n < l.length := by omega
    unfold lim at hk
    have hr := heldInt_round k r l n
    have hw : ∀ i : Int, 0 ≤ i → i ≤ 1 → IntKind.i64.wrap (k + i) = k + i := fun i hi hi' => wrap_id (by omega) (by omega)
    simp only [Int.toNat_natCast, List.getElem?_eq_getElem h1, wrap_succ (n := n) (by omega)] at hr
    have hd : (l.drop n = marks markInt1 1 k (j + 1)) = (l[n] = markInt1 k ∧ l.drop (n+1) = marks markInt1 1 (k + 1) j) := by rw [List.drop_eq_getElem_cons h1, marks, List.cons.injEq]
    have hs : (IntKind.i64.wrap (k + 1) = k + 1) := hw 1 (by omega) (by omega)
    by_cases he : l[n] = markInt1 k
    · refine .step _ _ _ (d1 := ([.sl (.int .i64) l, .i .i64 (k + 1), .i .i64 r, .i .i64 ((n + 1 : Nat) : Int)], [])) (hr.trans ?_) ?_
      · simp [h1, he, markInt1, lim, hw 1 (by omega) (by omega), Int.add_assoc, show k ≤ 1000000000000 by omega]
      · have := heldInt_loop (r := r) hm j (n + 1) (k + 1) (by omega) (by omega) (by unfold lim; push_cast at hk; omega)
        have e : k + 1 + 1 * (j : Int) = k + 1 * ((j + 1 : Nat) : Int) := by push_cast; omega
        rw [e] at this
        simp only [hd, he, true_and]
        exact this
    · refine .stop _ _ _ (hr.trans ?_) (by simp [hd, he])
      simp only [hd, he, false_and, if_false]
      simp [markInt1] at he
      simp [h1, he, lim, show k ≤ 1000000000000 by omega]
theorem heldInt_ok : LoopsOk Try.prog (look []) (look [(2, heldIntE)]) 0 (Try.f34.body.getD .skip) := by
  refine loopsOk_one (a := body Try.f34 0) (by kernel_rfl) fun d e d' h => ?_
  unfold heldIntE at h
  dsimp only at h
  split at h
  · rename_i l k r n
    obtain ⟨hc, h⟩ := need_some h
    have hc := of_decide_eq_true hc
    obtain ⟨n, rfl⟩ := Int.eq_ofNat_of_zero_le hc.1
    have := heldInt_loop (r := r) hc.2.2.1 _ n k (Nat.add_sub_of_le hc.2.1) hc.2.2.2.1 hc.2.2.2.2
    rcases br_some h with ⟨h1, h⟩ | ⟨h1, h⟩
    · have h1 := of_decide_eq_true h1
      simp only [Int.toNat_natCast] at h1 h
      cases h
      rw [if_pos h1, if_pos h1] at this; exact this
    · have h1 := of_decide_eq_false h1
      simp only [Int.toNat_natCast] at h1 h
      cases h
      rw [if_neg h1, if_neg h1] at this; exact this
  · cases h
theorem heldInt_fun (l : List Int) (k : Int) (hm : l.length ≤ maxI) (h0 : 0 ≤ k) (hk : k + 1 * (l.length : Int) ≤ lim) : funK Try.prog (look []) (look [(2, heldIntE)]) Try.f34 [.sl (.int .i64) l, .i .i64 k] [] =
    if l = marks markInt1 1 k l.length then some (.i .i64 (k + 1 * (l.length : Int)), []) else some (.i .i64 (-1), []) := by
  have e : funK Try.prog (look []) (look [(2, heldIntE)]) Try.f34 [.sl (.int .i64) l, .i .i64 k] [] =
    ((ifT
  (decide
  ((0 : Int) ≤ (0 : Int) ∧
  (0 : Nat) ≤ l.length ∧ l.length ≤ maxI ∧ (0 : Int) ≤ k ∧ k + (1 : Int) * (↑(l.length - (0 : Nat)) : Int) ≤ lim))
  (ifB (decide (List.drop (0 : Nat) l = marks markInt1 (1 : Int) k (l.length - (0 : Nat))))
  (some (V.i IntKind.i64 (k + (1 : Int) * (↑(l.length - (0 : Nat)) : Int)), []))
  (some (V.i IntKind.i64 (-1 : Int), [])))) : _) := by kernel_rfl
  rw [e, ifT_true (decide_eq_true ⟨by omega, by omega, hm, h0, hk⟩), ifB_dec']
  rfl
theorem heldInt : Contract Try.prog 34 (Ent.rd1 heldIntG).F := by
  refine fun_contract' (KnowsL.nil).knows (Λ := (look [(2, heldIntE)])) Try.func34 (c := Try.f34.body.getD .skip) (by kernel_rfl) fun vs bs r h hv hb => ?_
  unfold Ent.F heldIntG at h
  dsimp only at h
  split at h
  · rename_i l k
    obtain ⟨hc, h⟩ := need_some h
    have hc := of_decide_eq_true hc
    refine ⟨heldInt_ok, (heldInt_fun l k (hv (.sl (.int .i64) l) (by simp)).1 hc.1 hc.2).trans ?_⟩
    rcases br_some h with ⟨h1, h⟩ | ⟨h1, h⟩
    · rw [if_pos (of_decide_eq_true h1)]; exact h
    · rw [if_neg (of_decide_eq_false h1)]; exact h
  · cases h
end Go.Proofs.Ytpoepgnhdhpkjaa.Den
