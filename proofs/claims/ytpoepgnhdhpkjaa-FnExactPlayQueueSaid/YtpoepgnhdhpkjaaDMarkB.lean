/- What functions of the program do, by the machine: MarkB. -/
import Derived.Test.YtpoepgnhdhpkjaaDEqB
import Derived.KernelRfl
import Derived.Test.YtpoepgnhdhpkjaaRows
namespace Go.Proofs.Ytpoepgnhdhpkjaa.Den
open Go.Proofs
set_option maxRecDepth 100000
/-- The elements that laws.markBoolS writes. -/
def markBool1 (k : Int) : Bool := (Int.tmod k 3 == 0)
def markBoolE : LoopEnt := ⟨21, [0,1,5], [1], [], fun
  | ([.ref 0 lo m, .i .i64 k, .i .i64 n], [some (.row false none .bool l)]) =>
    .need (decide (0 ≤ n ∧ n.toNat ≤ m ∧ lo + m ≤ l.length ∧ m ≤ maxI ∧ 0 ≤ k ∧ k + 1 * (↑(m - n.toNat) : Int) ≤ lim))
      (.leaf (.exit 0, ([.i .i64 (k + 1 * (↑(m - n.toNat) : Int))], [some (.row false none .bool (l.take (lo + n.toNat) ++ marks markBool1 1 k (m - n.toNat) ++ l.drop (lo + m)))])))
  | _ => .no⟩
def markBoolG : List V → List Blk → Br (V × List (Option Blk))
  | [.ref 0 lo m, .i .i64 k], [.row false _ .bool l] =>
    .need (decide (lo + m ≤ l.length ∧ 0 ≤ k ∧ k + 1 * (↑m : Int) ≤ lim)) (.leaf (.i .i64 (k + 1 * (↑m : Int)), [some (.row false none .bool (l.take lo ++ marks markBool1 1 k m ++ l.drop (lo + m)))]))
  | _, _ => .no
theorem markBool_round (lo m : Nat) (k : Int) (l : List Bool) (n : Nat) : roundK Try.prog (look []) (look [(2, markBoolE)]) 1 (body Try.f32 0) markBoolE ([.ref 0 lo m, .i .i64 k, .i .i64 n], [some (.row false none .bool l)]) =
  ((ifB (decide ((↑n : Int) < (↑m : Int)))
  (ifT (decide ((0 : Int) ≤ (↑n : Int)) && decide ((↑n : Int) < (↑m : Int)))
  (ifSome l[lo + ((↑n : Int)).toNat]? fun z =>
  some
  (Ex.normal,
  [V.ref (0 : Nat) lo m, V.i IntKind.i64 (IntKind.i64.wrap (k + (1 : Int))),
  V.i IntKind.i64 (IntKind.i64.wrap ((↑n : Int) + (1 : Int)))],
  [some (Blk.row false none Cd.bool (l.set (lo + ((↑n : Int)).toNat) (k.tmod (3 : Int) == (0 : Int))))])))
  (some (Ex.exit (0 : Nat), [V.i IntKind.i64 k], [some (Blk.row false none Cd.bool l)]))) : _) := by kernel_rfl
theorem markBool_loop {lo m : Nat} (hm : m ≤ maxI) : ∀ (j n : Nat) (k : Int) (l : List Bool), n + j = m → lo + m ≤ l.length → 0 ≤ k → k + 1 * (j : Int) ≤ lim →
    Runs Try.prog (look []) (look [(2, markBoolE)]) 1 (body Try.f32 0) markBoolE ([.ref 0 lo m, .i .i64 k, .i .i64 n], [some (.row false none .bool l)]) (.exit 0) ([.i .i64 (k + 1 * (j : Int))], [some (.row false none .bool (l.take (lo + n) ++ marks markBool1 1 k j ++ l.drop (lo + m)))])
  | 0, n, k, l, hn, hl, h0, hk => by
    obtain rfl : n = m := by omega
    refine .stop _ _ _ ((markBool_round lo n k l n).trans ?_) (by simp)
    simp [marks]
  | j + 1, n, k, l, hn, hl, h0, hk => by
    have h1 : n < m := by omega
    have h2 : lo + n < l.length := by omega
    unfold lim at hk
    have hr := markBool_round lo m k l n
    have hw : ∀ i : Int, 0 ≤ i → i ≤ 1 → IntKind.i64.wrap (k + i) = k + i := fun i hi hi' => wrap_id (by omega) (by omega)
    simp only [Int.toNat_natCast, List.getElem?_eq_getElem h2, wrap_succ (n := n) (by omega)] at hr
    refine .step _ _ _ (d1 := ([.ref 0 lo m, .i .i64 (k + 1), .i .i64 ((n + 1 : Nat) : Int)], [some (.row false none .bool (l.set (lo + n) (markBool1 k)))])) (hr.trans ?_) ?_
    · simp [h1, h2, markBool1, lim, hw 1 (by omega) (by omega), Int.add_assoc, show k ≤ 1000000000000 by omega]
    · have := markBool_loop hm j (n + 1) (k + 1) (l.set (lo + n) (markBool1 k)) (by omega) (by simp; omega) (by omega) (by unfold lim; push_cast at hk; omega)
      rw [show lo + (n + 1) = lo + n + 1 from rfl, set_take h2, set_drop (show lo + n < lo + m by omega)] at this
      have e : k + 1 + 1 * (j : Int) = k + 1 * ((j + 1 : Nat) : Int) := by push_cast; omega
      rw [e] at this
      simpa [marks] using this
theorem markBool_ok : LoopsOk Try.prog (look []) (look [(2, markBoolE)]) 1 (Try.f32.body.getD .skip) := by
  refine loopsOk_one (a := body Try.f32 0) (by kernel_rfl) fun d e d' h => ?_
  unfold markBoolE at h
  dsimp only at h
  split at h
  · rename_i lo m k n l
    obtain ⟨hc, h⟩ := need_some h
    have hc := of_decide_eq_true hc
    obtain ⟨n, rfl⟩ := Int.eq_ofNat_of_zero_le hc.1
    cases h
    exact markBool_loop hc.2.2.2.1 _ _ _ _ (Nat.add_sub_of_le hc.2.1) hc.2.2.1 hc.2.2.2.2.1 hc.2.2.2.2.2
  · cases h
theorem markBool_fun (lo m : Nat) (k : Int) (nl : Option Bool) (l : List Bool) (hm : m ≤ maxI) (hl : lo + m ≤ l.length) (h0 : 0 ≤ k) (hk : k + 1 * (m : Int) ≤ lim) : funK Try.prog (look []) (look [(2, markBoolE)]) Try.f32 [.ref 0 lo m, .i .i64 k] [.row false nl .bool l] =
    some (.i .i64 (k + 1 * (m : Int)), [some (.row false none .bool (l.take lo ++ marks markBool1 1 k m ++ l.drop (lo + m)))]) := by
  have e : funK Try.prog (look []) (look [(2, markBoolE)]) Try.f32 [.ref 0 lo m, .i .i64 k] [.row false nl .bool l] =
    ((ifT
  (decide
  ((0 : Int) ≤ (0 : Int) ∧
  (0 : Nat) ≤ m ∧ lo + m ≤ l.length ∧ m ≤ maxI ∧ (0 : Int) ≤ k ∧ k + (1 : Int) * (↑(m - (0 : Nat)) : Int) ≤ lim))
  (some
  (V.i IntKind.i64 (k + (1 : Int) * (↑(m - (0 : Nat)) : Int)),
  [some
  (Blk.row false none Cd.bool
  (List.take (lo + (0 : Nat)) l ++ marks markBool1 (1 : Int) k (m - (0 : Nat)) ++ List.drop (lo + m) l))]))) : _) := by kernel_rfl
  rw [e, ifT_true (decide_eq_true ⟨by omega, by omega, hl, hm, h0, hk⟩)]
  rfl
theorem markBool : Contract Try.prog 32 (Ent.own markBoolG).F := by
  refine fun_contract' (KnowsL.nil).knows (Λ := (look [(2, markBoolE)])) Try.func32 (c := Try.f32.body.getD .skip) (by kernel_rfl) fun vs bs r h hv hb => ?_
  unfold Ent.F markBoolG at h
  dsimp only at h
  split at h
  · rename_i lo m k nl l
    obtain ⟨hc, h⟩ := need_some h
    have hc := of_decide_eq_true hc
    exact ⟨markBool_ok, (markBool_fun lo m k nl l (hv (.ref 0 lo m) (by simp)) hc.1 hc.2.1 hc.2.2).trans (by cases h; rfl)⟩
  · cases h
end Go.Proofs.Ytpoepgnhdhpkjaa.Den
