/- What functions of the program do, by the machine: Beg. -/
import Derived.Test.YtjghbihlgfjebaaDGoodI
import Derived.KernelRfl
import Derived.Test.YtjghbihlgfjebaaRows
namespace Go.Proofs.Ytjghbihlgfjebaa.Den
open Go.Proofs
set_option maxRecDepth 100000
/-- a begins b. -/
def beg : List (List UInt8) → List (List UInt8) → Bool
  | [], _ => true
  | _ :: _, [] => false
  | x :: a, y :: b => decide (x = y) && beg a b
def begE : LoopEnt := ⟨27, [0,1,4,7,8], [], [4], fun
  | ([.sl .str a, .sl .str b, .b _, .i .i64 m, .i .i64 n], []) =>
    .need (decide (0 ≤ n ∧ m = a.length ∧ n.toNat ≤ a.length ∧ a.length ≤ maxI)) (.br (beg (a.drop n.toNat) (b.drop n.toNat)) (.leaf (.exit 0, ([], []))) (.leaf (.ret, ([.b false], []))))
  | _ => .no⟩
def begG : List V → List Blk → Br (V × List (Option Blk))
  | [.sl .str a, .sl .str b], [] => .leaf (.b (beg a b), [])
  | _, _ => .no
theorem beg_round (a b : List (List UInt8)) (r : Bool) (n : Nat) : roundK Try.prog (look []) (look [(2, begE)]) 0 (body Try.f118 0) begE ([.sl .str a, .sl .str b, .b r, .i .i64 (↑a.length : Int), .i .i64 n], []) =
  ((ifB (decide ((↑n : Int) < (↑a.length : Int)))
  (ifB (decide ((↑n : Int) ≥ (↑b.length : Int))) (some (Ex.ret, [V.b false], []))
  (ifT (decide ((0 : Int) ≤ (↑n : Int)) && decide ((↑n : Int) < (↑a.length : Int)))
  (ifSome a[((↑n : Int)).toNat]? fun z =>
  ifT (decide ((0 : Int) ≤ (↑n : Int)) && decide ((↑n : Int) < (↑b.length : Int)))
  (ifSome b[((↑n : Int)).toNat]? fun z_1 =>
  ifB (!z == z_1) (some (Ex.ret, [V.b false], []))
  (some
  (Ex.normal,
  [V.sl Cd.str a, V.sl Cd.str b, V.b r, V.i IntKind.i64 (↑a.length : Int),
  V.i IntKind.i64 (IntKind.i64.wrap ((↑n : Int) + (1 : Int)))],
  []))))))
  (some (Ex.exit (0 : Nat), [], []))) : _) := by kernel_rfl
theorem beg_fun0 (a b : List (List UInt8)) : funK Try.prog (look []) (look [(2, begE)]) Try.f118 [.sl .str a, .sl .str b] [] =
    ((ifT (decide ((0 : Int) ≤ (0 : Int) ∧ (↑a.length : Int) = (↑a.length : Int) ∧ (0 : Nat) ≤ a.length ∧ a.length ≤ maxI))
  (ifB (beg (List.drop (0 : Nat) a) (List.drop (0 : Nat) b)) (some (V.b true, [])) (some (V.b false, [])))) : _) := by kernel_rfl
theorem beg_loop {a b : List (List UInt8)} {r : Bool} (hm : a.length ≤ maxI) : ∀ (k n : Nat), n + k = a.length → ∀ e d', (.br (beg (a.drop n) (b.drop n)) (.leaf (.exit 0, ([], []))) (.leaf (.ret, ([.b false], []))) : Br (Ex × Dt)).run = some (e, d') →
    Runs Try.prog (look []) (look [(2, begE)]) 0 (body Try.f118 0) begE ([.sl .str a, .sl .str b, .b r, .i .i64 (↑a.length : Int), .i .i64 n], []) e d'
  | 0, n, hn, e, d', h => by
    have e1 : a.drop n = [] := List.drop_eq_nil_of_le (by omega)
    rw [e1] at h
    cases h
    refine .stop _ _ _ ((beg_round a b r n).trans ?_) (by simp)
    simp [show ¬ n < a.length by omega]
  | k + 1, n, hn, e, d', h => by
    have h1 : n < a.length := by omega
    have hr := beg_round a b r n
    rw [List.drop_eq_getElem_cons h1] at h
    by_cases h2 : n < b.length
    · rw [List.drop_eq_getElem_cons h2] at h
      simp only [Int.toNat_natCast, List.getElem?_eq_getElem h1, List.getElem?_eq_getElem h2, wrap_succ (n := n) (by omega)] at hr
      by_cases he : a[n] = b[n]
      · refine .step _ _ _ (d1 := ([.sl .str a, .sl .str b, .b r, .i .i64 (↑a.length : Int), .i .i64 ((n + 1 : Nat) : Int)], [])) (hr.trans (by simp [h1, h2, he])) (beg_loop hm k (n + 1) (by omega) e d' ?_)
        simpa [beg, he] using h
      · simp only [beg, he, decide_false, Bool.false_and] at h
        cases h
        exact .stop _ _ _ (hr.trans (by simp [h1, h2, he])) (by simp)
    · rw [show b.drop n = [] from List.drop_eq_nil_of_le (by omega)] at h
      cases h
      exact .stop _ _ _ (hr.trans (by simp [h1, show b.length ≤ n by omega])) (by simp)
theorem beg_ok : LoopsOk Try.prog (look []) (look [(2, begE)]) 0 (Try.f118.body.getD .skip) := by
  refine loopsOk_one (a := body Try.f118 0) (by kernel_rfl) fun d e d' h => ?_
  unfold begE at h
  dsimp only at h
  split at h
  · obtain ⟨hc, h'⟩ := need_some h
    obtain ⟨h0, rfl, h1, h2⟩ := of_decide_eq_true hc
    obtain ⟨n, rfl⟩ := Int.eq_ofNat_of_zero_le h0
    exact beg_loop h2 _ n (Nat.add_sub_of_le h1) e d' h'
  · cases h
theorem beg_fun (a b : List (List UInt8)) (hm : a.length ≤ maxI) : funK Try.prog (look []) (look [(2, begE)]) Try.f118 [.sl .str a, .sl .str b] [] = some (.b (beg a b), []) := by
  rw [beg_fun0, ifT_true (decide_eq_true ⟨by omega, rfl, by omega, hm⟩), List.drop_zero, List.drop_zero]
  cases beg a b <;> rfl
theorem l15Begins : Contract Try.prog 118 (Ent.rd1 begG).F := by
  refine fun_contract' KnowsL.nil.knows (Λ := (look [(2, begE)])) Try.func118 (c := Try.f118.body.getD .skip) (by kernel_rfl) fun vs bs r h hv hb => ?_
  unfold Ent.F begG at h
  dsimp only at h
  split at h
  · rename_i a b
    exact ⟨beg_ok, (beg_fun a b (hv (.sl .str a) (by simp)).1).trans (by cases h; rfl)⟩
  · cases h
end Go.Proofs.Ytjghbihlgfjebaa.Den
