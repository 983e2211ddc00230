/- What functions of the program do, by the machine: ToB. -/
import Derived.Test.YtpoepgnhdhpkjaaDMarkB
import Derived.KernelRfl
import Derived.Test.YtpoepgnhdhpkjaaRows
namespace Go.Proofs.Ytpoepgnhdhpkjaa.Den
open Go.Proofs
set_option maxRecDepth 100000
def toBoolsE : LoopEnt := ⟨22, [0,3,4], [3], [], fun
  | ([.sl .bool l, .ref 0 0 m, .i .i64 n], [some (.row false none .bool r)]) =>
    .need (decide (0 ≤ n ∧ m = l.length ∧ r.length = l.length ∧ n.toNat ≤ l.length ∧ l.length ≤ maxI)) (.leaf (.exit 0, ([.ref 0 0 m], [some (.row false none .bool (r.take n.toNat ++ l.drop n.toNat))])))
  | _ => .no⟩
def toBoolsG : List V → List Blk → Br (V × List (Option Blk))
  | [.sl .bool l], [] => .need (decide (l.length ≤ 1000000000)) (.leaf (.ref 0 0 l.length, [some (.row false none .bool l)]))
  | _, _ => .no
theorem toBools_round (l r : List Bool) (m n : Nat) : roundK Try.prog (look []) (look [(3, toBoolsE)]) 0 (body Try.f28 0) toBoolsE ([.sl .bool l, .ref 0 0 m, .i .i64 n], [some (.row false none .bool r)]) =
  ((ifB (decide ((↑n : Int) < (↑l.length : Int)))
  (ifT (decide ((0 : Int) ≤ (↑n : Int)) && decide ((↑n : Int) < (↑l.length : Int)))
  (ifSome l[((↑n : Int)).toNat]? fun z =>
  ifT (decide ((0 : Int) ≤ (↑n : Int)) && decide ((↑n : Int) < (↑m : Int)))
  (ifSome r[(0 : Nat) + ((↑n : Int)).toNat]? fun z_1 =>
  some
  (Ex.normal,
  [V.sl Cd.bool l, V.ref (0 : Nat) (0 : Nat) m,
  V.i IntKind.i64 (IntKind.i64.wrap ((↑n : Int) + (1 : Int)))],
  [some (Blk.row false none Cd.bool (r.set ((0 : Nat) + ((↑n : Int)).toNat) z))]))))
  (some (Ex.exit (0 : Nat), [V.ref (0 : Nat) (0 : Nat) m], [some (Blk.row false none Cd.bool r)]))) : _) := by kernel_rfl
theorem toBools_loop {l : List Bool} {m : Nat} (hm : m = l.length) (hx : l.length ≤ maxI) : ∀ (k n : Nat) (r : List Bool), n + k = l.length → r.length = l.length →
    Runs Try.prog (look []) (look [(3, toBoolsE)]) 0 (body Try.f28 0) toBoolsE ([.sl .bool l, .ref 0 0 m, .i .i64 n], [some (.row false none .bool r)]) (.exit 0) ([.ref 0 0 m], [some (.row false none .bool (r.take n ++ l.drop n))])
  | 0, n, r, hn, hr => by
    refine .stop _ _ _ ((toBools_round l r m n).trans ?_) (by simp)
    simp [show ¬ n < l.length by omega, show r.take n = r from List.take_of_length_le (by omega), show l.drop n = [] from List.drop_eq_nil_of_le (by omega)]
  | k + 1, n, r, hn, hr => by
    have h1 : n < l.length := by omega
    have h2 : n < r.length := by omega
    have h3 : n < m := by omega
    have hq := toBools_round l r m n
    simp only [Int.toNat_natCast, List.getElem?_eq_getElem h1, Nat.zero_add, List.getElem?_eq_getElem h2, wrap_succ (n := n) (by omega)] at hq
    refine .step _ _ _ (d1 := ([.sl .bool l, .ref 0 0 m, .i .i64 ((n + 1 : Nat) : Int)], [some (.row false none .bool (r.set n l[n]))])) (hq.trans ?_) ?_
    · simp [h1, h2, h3]
    · have := toBools_loop hm hx k (n + 1) (r.set n l[n]) (by omega) (by simp; omega)
      rw [set_take h2, List.append_assoc, List.singleton_append, ← List.drop_eq_getElem_cons h1] at this
      exact this
theorem toBools_ok : LoopsOk Try.prog (look []) (look [(3, toBoolsE)]) 0 (Try.f28.body.getD .skip) := by
  refine loopsOk_one (a := body Try.f28 0) (by kernel_rfl) fun d e d' h => ?_
  unfold toBoolsE at h
  dsimp only at h
  split at h
  · obtain ⟨hc, h⟩ := need_some h
    have hc := of_decide_eq_true hc
    obtain ⟨n, rfl⟩ := Int.eq_ofNat_of_zero_le hc.1
    cases h
    exact toBools_loop hc.2.1 hc.2.2.2.2 _ n _ (Nat.add_sub_of_le hc.2.2.2.1) hc.2.2.1
  · cases h
theorem toBools_fun (l : List Bool) (hx : l.length ≤ 1000000000) : funK Try.prog (look []) (look [(3, toBoolsE)]) Try.f28 [.sl .bool l] [] = some (.ref 0 0 l.length, [some (.row false none .bool l)]) := by
  have e : funK Try.prog (look []) (look [(3, toBoolsE)]) Try.f28 [.sl .bool l] [] =
    ((ifT
  (decide ((0 : Int) ≤ (↑l.length : Int)) && decide ((↑l.length : Int) ≤ (↑l.length : Int)) &&
  decide ((↑l.length : Int) * (↑(1 : Nat) : Int) ≤ (140737488355328 : Int)) &&
  decide ((↑l.length : Int) ≤ (9223372036854775807 : Int)))
  (ifT
  (decide
  ((0 : Int) ≤ (0 : Int) ∧
  (↑l.length : Int).toNat = l.length ∧
  (List.replicate (↑l.length : Int).toNat false).length = l.length ∧ (0 : Nat) ≤ l.length ∧ l.length ≤ maxI))
  (some
  (V.ref (0 : Nat) (0 : Nat) (↑l.length : Int).toNat,
  [some (Blk.row false none Cd.bool (nilT Cd.bool.den ++ List.drop (0 : Nat) l))])))) : _) := by kernel_rfl
  rw [e]
  have hx' : l.length ≤ maxI := Nat.le_trans hx (by decide)
  simp [hx']
  omega
theorem toBools : Contract Try.prog 28 (Ent.rd1 toBoolsG).F := by
  refine fun_contract' KnowsL.nil.knows (Λ := (look [(3, toBoolsE)])) Try.func28 (c := Try.f28.body.getD .skip) (by kernel_rfl) fun vs bs r h hv hb => ?_
  unfold Ent.F toBoolsG at h
  dsimp only at h
  split at h
  · rename_i l
    obtain ⟨hc, h⟩ := need_some h
    exact ⟨toBools_ok, (toBools_fun l (of_decide_eq_true hc)).trans (by cases h; rfl)⟩
  · cases h
end Go.Proofs.Ytpoepgnhdhpkjaa.Den
