/- What functions of the program do, by the machine: SzI. -/
import Derived.Test.YtpoepgnhdhpkjaaDToI
import Derived.KernelRfl
import Derived.Test.YtpoepgnhdhpkjaaRows
namespace Go.Proofs.Ytpoepgnhdhpkjaa.Den
open Go.Proofs
set_option maxRecDepth 100000
def szIntsG : List V → List Blk → Br (V × List (Option Blk))
  | [.sl (.int .i64) l, .i .i64 k], [] => .need (decide (0 ≤ k ∧ k ≤ lim)) (.br (decide (k - (↑l.length : Int) < 0)) (.leaf (.i .i64 (-1), [])) (.leaf (.i .i64 (k - (↑l.length : Int)), [])))
  | _, _ => .no
theorem szInts_fun (l : List Int) (k : Int) (hx : l.length ≤ maxI) (h0 : 0 ≤ k) (h1 : k ≤ lim) : funK Try.prog (look []) (look []) Try.f61 [.sl (.int .i64) l, .i .i64 k] [] = (.br (decide (k - (↑l.length : Int) < 0)) (.leaf (.i .i64 (-1), [])) (.leaf (.i .i64 (k - (↑l.length : Int)), [])) : Br (V × List (Option Blk))).run := by
  have e : funK Try.prog (look []) (look []) Try.f61 [.sl (.int .i64) l, .i .i64 k] [] =
    ((ifB (decide (IntKind.i64.wrap (k - (↑l.length : Int)) < (0 : Int))) (some (V.i IntKind.i64 (-1 : Int), []))
  (some (V.i IntKind.i64 (IntKind.i64.wrap (k - (↑l.length : Int))), []))) : _) := by kernel_rfl
  unfold lim at h1
  unfold maxI at hx
  rw [e, br_run, wrap_id (by omega) (by omega), ifB_dec']
  rfl
theorem szInts : Contract Try.prog 61 (Ent.rd1 szIntsG).F := by
  refine fun_contract' KnowsL.nil.knows (Λ := look []) Try.func61 (c := Try.f61.body.getD .skip) (by kernel_rfl) fun vs bs r h hv hb => ?_
  unfold Ent.F szIntsG at h
  dsimp only at h
  split at h
  · rename_i l k
    obtain ⟨hc, h⟩ := need_some h
    have hc := of_decide_eq_true hc
    exact ⟨loopsOk_nil _, (szInts_fun l k (hv (.sl (.int .i64) l) (by simp)).1 hc.1 hc.2).trans h⟩
  · cases h
end Go.Proofs.Ytpoepgnhdhpkjaa.Den
