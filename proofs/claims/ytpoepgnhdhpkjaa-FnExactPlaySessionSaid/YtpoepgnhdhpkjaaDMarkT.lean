/- What functions of the program do, by the machine: MarkT. -/
import Derived.Test.YtpoepgnhdhpkjaaDEqT
import Derived.KernelRfl
import Derived.Test.YtpoepgnhdhpkjaaRows
namespace Go.Proofs.Ytpoepgnhdhpkjaa.Den
open Go.Proofs
set_option maxRecDepth 100000
/-- The elements that laws.markSesStepS writes. -/
def markSesStep1 (k : Int) : (Int × Int × List UInt8 × Unit) := (k, k + 1, mtext (k + 2), ())
def markSesStepE : LoopEnt := ⟨35, [0,1,5], [1], [], fun
  | ([.ref 0 lo m, .i .i64 k, .i .i64 n], [some (.row false none (.pair (.int .i64) (.pair (.int .i64) (.pair .str .unit))) l)]) =>
    .need (decide (0 ≤ n ∧ n.toNat ≤ m ∧ lo + m ≤ l.length ∧ m ≤ maxI ∧ 0 ≤ k ∧ k + 3 * (↑(m - n.toNat) : Int) ≤ lim))
      (.leaf (.exit 0, ([.i .i64 (k + 3 * (↑(m - n.toNat) : Int))], [some (.row false none (.pair (.int .i64) (.pair (.int .i64) (.pair .str .unit))) (l.take (lo + n.toNat) ++ marks markSesStep1 3 k (m - n.toNat) ++ l.drop (lo + m)))])))
  | _ => .no⟩
def markSesStepG : List V → List Blk → Br (V × List (Option Blk))
  | [.ref 0 lo m, .i .i64 k], [.row false _ (.pair (.int .i64) (.pair (.int .i64) (.pair .str .unit))) l] =>
    .need (decide (lo + m ≤ l.length ∧ 0 ≤ k ∧ k + 3 * (↑m : Int) ≤ lim)) (.leaf (.i .i64 (k + 3 * (↑m : Int)), [some (.row false none (.pair (.int .i64) (.pair (.int .i64) (.pair .str .unit))) (l.take lo ++ marks markSesStep1 3 k m ++ l.drop (lo + m)))]))
  | _, _ => .no
theorem markSesStep_round (lo m : Nat) (k : Int) (l : List (Int × Int × List UInt8 × Unit)) (n : Nat) : roundK Try.prog (look [(60, .rd1 markTextG)]) (look [(2, markSesStepE)]) 1 (body Try.f40 0) markSesStepE ([.ref 0 lo m, .i .i64 k, .i .i64 n], [some (.row false none (.pair (.int .i64) (.pair (.int .i64) (.pair .str .unit))) l)]) =
  ((ifB (decide ((↑n : Int) < (↑m : Int)))
  (ifT (decide ((0 : Int) ≤ (↑n : Int)) && decide ((↑n : Int) < (↑m : Int)))
  (ifSome l[lo + ((↑n : Int)).toNat]? fun z =>
  ifT (decide ((0 : Int) ≤ (↑n : Int)) && decide ((↑n : Int) < (↑m : Int)))
  (ifSome (l.set (lo + ((↑n : Int)).toNat) (k, z.snd.fst, z.snd.snd.fst, ()))[lo + ((↑n : Int)).toNat]?
  fun z_1 =>
  ifT (decide (IntKind.i64.wrap (IntKind.i64.wrap (k + (1 : Int)) + (1 : Int)) ≤ lim))
  (ifT (decide ((0 : Int) ≤ (↑n : Int)) && decide ((↑n : Int) < (↑m : Int)))
  (ifSome
  ((l.set (lo + ((↑n : Int)).toNat) (k, z.snd.fst, z.snd.snd.fst, ())).set (lo + ((↑n : Int)).toNat)
  (z_1.fst, IntKind.i64.wrap (k + (1 : Int)), z_1.snd.snd.fst, ()))[lo + ((↑n : Int)).toNat]?
  fun z_2 =>
  some
  (Ex.normal,
  [V.ref (0 : Nat) lo m,
  V.i IntKind.i64
  (IntKind.i64.wrap
  (IntKind.i64.wrap (IntKind.i64.wrap (k + (1 : Int)) + (1 : Int)) + (1 : Int))),
  V.i IntKind.i64 (IntKind.i64.wrap ((↑n : Int) + (1 : Int)))],
  [some
  (Blk.row false none
  ((Cd.int IntKind.i64).pair ((Cd.int IntKind.i64).pair (Cd.str.pair Cd.unit)))
  (((l.set (lo + ((↑n : Int)).toNat) (k, z.snd.fst, z.snd.snd.fst, ())).set
  (lo + ((↑n : Int)).toNat)
  (z_1.fst, IntKind.i64.wrap (k + (1 : Int)), z_1.snd.snd.fst, ())).set
  (lo + ((↑n : Int)).toNat)
  (z_2.fst, z_2.snd.fst,
  mtext (IntKind.i64.wrap (IntKind.i64.wrap (k + (1 : Int)) + (1 : Int))), ())))]))))))
  (some
  (Ex.exit (0 : Nat), [V.i IntKind.i64 k],
  [some (Blk.row false none ((Cd.int IntKind.i64).pair ((Cd.int IntKind.i64).pair (Cd.str.pair Cd.unit))) l)]))) : _) := by kernel_rfl
theorem markSesStep_loop {lo m : Nat} (hm : m ≤ maxI) : ∀ (j n : Nat) (k : Int) (l : List (Int × Int × List UInt8 × Unit)), n + j = m → lo + m ≤ l.length → 0 ≤ k → k + 3 * (j : Int) ≤ lim →
    Runs Try.prog (look [(60, .rd1 markTextG)]) (look [(2, markSesStepE)]) 1 (body Try.f40 0) markSesStepE ([.ref 0 lo m, .i .i64 k, .i .i64 n], [some (.row false none (.pair (.int .i64) (.pair (.int .i64) (.pair .str .unit))) l)]) (.exit 0) ([.i .i64 (k + 3 * (j : Int))], [some (.row false none (.pair (.int .i64) (.pair (.int .i64) (.pair .str .unit))) (l.take (lo + n) ++ marks markSesStep1 3 k j ++ l.drop (lo + m)))])
  | 0, n, k, l, hn, hl, h0, hk => by
    obtain rfl : n = m := by omega
    refine .stop _ _ _ ((markSesStep_round lo n k l n).trans ?_) (by simp)
    simp [marks]
  | j + 1, n, k, l, hn, hl, h0, hk => by
    have h1 : n < m := by omega
    have h2 : lo + n < l.length := by omega
    unfold lim at hk
    have hr := markSesStep_round lo m k l n
    have hw : ∀ i : Int, 0 ≤ i → i ≤ 3 → IntKind.i64.wrap (k + i) = k + i := fun i hi hi' => wrap_id (by omega) (by omega)
    simp only [Int.toNat_natCast, List.getElem?_eq_getElem h2, wrap_succ (n := n) (by omega)] at hr
    refine .step _ _ _ (d1 := ([.ref 0 lo m, .i .i64 (k + 3), .i .i64 ((n + 1 : Nat) : Int)], [some (.row false none (.pair (.int .i64) (.pair (.int .i64) (.pair .str .unit))) (l.set (lo + n) (markSesStep1 k)))])) (hr.trans ?_) ?_
    · simp [h1, h2, markSesStep1, lim, hw 1 (by omega) (by omega), hw 2 (by omega) (by omega), hw 3 (by omega) (by omega), Int.add_assoc, show k ≤ 1000000000000 by omega, show k + 1 ≤ 1000000000000 by omega, show k + 2 ≤ 1000000000000 by omega]
    · have := markSesStep_loop hm j (n + 1) (k + 3) (l.set (lo + n) (markSesStep1 k)) (by omega) (by simp; omega) (by omega) (by unfold lim; push_cast at hk; omega)
      rw [show lo + (n + 1) = lo + n + 1 from rfl, set_take h2, set_drop (show lo + n < lo + m by omega)] at this
      have e : k + 3 + 3 * (j : Int) = k + 3 * ((j + 1 : Nat) : Int) := by push_cast; omega
      rw [e] at this
      simpa [marks] using this
theorem markSesStep_ok : LoopsOk Try.prog (look [(60, .rd1 markTextG)]) (look [(2, markSesStepE)]) 1 (Try.f40.body.getD .skip) := by
  refine loopsOk_one (a := body Try.f40 0) (by kernel_rfl) fun d e d' h => ?_
  unfold markSesStepE at h
  dsimp only at h
  split at h
  · rename_i lo m k n l
    obtain ⟨hc, h⟩ := need_some h
    have hc := of_decide_eq_true hc
    obtain ⟨n, rfl⟩ := Int.eq_ofNat_of_zero_le hc.1
    cases h
    exact markSesStep_loop hc.2.2.2.1 _ _ _ _ (Nat.add_sub_of_le hc.2.1) hc.2.2.1 hc.2.2.2.2.1 hc.2.2.2.2.2
  · cases h
theorem markSesStep_fun (lo m : Nat) (k : Int) (nl : Option Bool) (l : List (Int × Int × List UInt8 × Unit)) (hm : m ≤ maxI) (hl : lo + m ≤ l.length) (h0 : 0 ≤ k) (hk : k + 3 * (m : Int) ≤ lim) : funK Try.prog (look [(60, .rd1 markTextG)]) (look [(2, markSesStepE)]) Try.f40 [.ref 0 lo m, .i .i64 k] [.row false nl (.pair (.int .i64) (.pair (.int .i64) (.pair .str .unit))) l] =
    some (.i .i64 (k + 3 * (m : Int)), [some (.row false none (.pair (.int .i64) (.pair (.int .i64) (.pair .str .unit))) (l.take lo ++ marks markSesStep1 3 k m ++ l.drop (lo + m)))]) := by
  have e : funK Try.prog (look [(60, .rd1 markTextG)]) (look [(2, markSesStepE)]) Try.f40 [.ref 0 lo m, .i .i64 k] [.row false nl (.pair (.int .i64) (.pair (.int .i64) (.pair .str .unit))) l] =
    ((ifT
  (decide
  ((0 : Int) ≤ (0 : Int) ∧
  (0 : Nat) ≤ m ∧ lo + m ≤ l.length ∧ m ≤ maxI ∧ (0 : Int) ≤ k ∧ k + (3 : Int) * (↑(m - (0 : Nat)) : Int) ≤ lim))
  (some
  (V.i IntKind.i64 (k + (3 : Int) * (↑(m - (0 : Nat)) : Int)),
  [some
  (Blk.row false none ((Cd.int IntKind.i64).pair ((Cd.int IntKind.i64).pair (Cd.str.pair Cd.unit)))
  (List.take (lo + (0 : Nat)) l ++ marks markSesStep1 (3 : Int) k (m - (0 : Nat)) ++ List.drop (lo + m) l))]))) : _) := by kernel_rfl
  rw [e, ifT_true (decide_eq_true ⟨by omega, by omega, hl, hm, h0, hk⟩)]
  rfl
theorem markSesStep : Contract Try.prog 40 (Ent.own markSesStepG).F := by
  refine fun_contract' (KnowsL.cons (enters_fn Try.func60 (by kernel_rfl) (by kernel_rfl)) markText (KnowsL.nil)).knows (Λ := (look [(2, markSesStepE)])) Try.func40 (c := Try.f40.body.getD .skip) (by kernel_rfl) fun vs bs r h hv hb => ?_
  unfold Ent.F markSesStepG at h
  dsimp only at h
  split at h
  · rename_i lo m k nl l
    obtain ⟨hc, h⟩ := need_some h
    have hc := of_decide_eq_true hc
    exact ⟨markSesStep_ok, (markSesStep_fun lo m k nl l (hv (.ref 0 lo m) (by simp)) hc.1 hc.2.1 hc.2.2).trans (by cases h; rfl)⟩
  · cases h
end Go.Proofs.Ytpoepgnhdhpkjaa.Den
