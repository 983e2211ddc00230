/- What functions of the program do, by the machine: Cur5. -/
import Derived.Test.YtjghbihlgfjebaaDCur4
import Derived.KernelRfl
import Derived.Test.YtjghbihlgfjebaaRows
namespace Go.Proofs.Ytjghbihlgfjebaa.Den
open Go.Proofs
set_option maxRecDepth 100000
/-- A drawn play's first text. -/
def dplF (l : List Int) : List UInt8 := (([[102, 105, 114, 115, 116], [], [120]] : List (List UInt8)).getD ((Cur.mk l 0 0).pickV 3).toNat [])
/-- Its steps. -/
def dplL (l : List Int) : List ((Int × Int × List UInt8 × Unit)) := ((Cur.mk l 0 0).pickC 3).steps.1
def drawPlayG : List V → List Blk → Br (V × List (Option Blk))
  | [.sl (.int .u8) l], [] => .need (decide ((Cur.mk l 0 0).good 0)) (.leaf (.tup [.s (dplF l), .ref 0 0 (dplL l).length], [some (.row false none (.pair (.int .i64) (.pair (.int .i64) (.pair .str .unit))) (dplL l))]))
  | _, _ => .no
theorem drawPlay_fun (l : List Int) (hc : (Cur.mk l 0 0).good 0) : funN Try.prog (look [(91, .own cofG), (92, .own cstepsG)]) (look []) Try.f25 [.sl (.int .u8) l] [] = (.leaf (.tup [.s (dplF l), .ref 0 0 (dplL l).length], [some (.row false none (.pair (.int .i64) (.pair (.int .i64) (.pair .str .unit))) (dplL l))]) : Br (V × List (Option Blk))).run := by
  have e : funN Try.prog (look [(91, .own cofG), (92, .own cstepsG)]) (look []) Try.f25 [.sl (.int .u8) l] [] =
    ((ifT (decide ((Cur.mk l (0 : Int) (0 : Int)).good (900000000 : Int) ∧ (1 : Nat) ≤ (3 : Nat) ∧ (3 : Nat) ≤ (3 : Nat)))
  (ifT (decide (((Cur.mk l (0 : Int) (0 : Int)).pickC (↑(3 : Nat) : Int)).good (700000000 : Int)))
  (some
  (V.tup
  [V.s
  (([(102 : UInt8), (105 : UInt8), (114 : UInt8), (115 : UInt8), (116 : UInt8)] ::
  nilT UInt8 :: [(120 : UInt8)] :: nilT Cd.str.den).getD
  ((0 : Nat) + ((Cur.mk l (0 : Int) (0 : Int)).pickV (↑(3 : Nat) : Int)).toNat) (nilT UInt8)),
  V.ref (0 : Nat) (0 : Nat) ((Cur.mk l (0 : Int) (0 : Int)).pickC (↑(3 : Nat) : Int)).steps.fst.length],
  [some
  (Blk.row false none ((Cd.int IntKind.i64).pair ((Cd.int IntKind.i64).pair (Cd.str.pair Cd.unit)))
  ((Cur.mk l (0 : Int) (0 : Int)).pickC (↑(3 : Nat) : Int)).steps.fst)])))) : _) := by kernel_rfl
  rw [e]
  have g1 : ((Cur.mk l 0 0).pickC ((3 : Nat) : Int)).good 700000000 := by (repeat with_reducible apply Cur.pick_le); exact Cur.good_mono hc (by omega)
  rw [ifT_true (decide_eq_true ⟨Cur.good_mono hc (by omega), by omega, by omega⟩), ifT_true (decide_eq_true g1)]
  simp only [Nat.zero_add]
  rfl
theorem drawPlay : Contract Try.prog 25 (Ent.rd1 drawPlayG).F := by
  refine fun_contractN' (KnowsL.cons (enters_fn Try.func91 (by kernel_rfl) (by kernel_rfl)) cof (KnowsL.cons (enters_fn Try.func92 (by kernel_rfl) (by kernel_rfl)) csteps KnowsL.nil)).knows (Λ := look []) Try.func25 (c := Try.f25.body.getD .skip) (by kernel_rfl) fun vs bs r h hv hb => ?_
  unfold Ent.F drawPlayG at h
  dsimp only at h
  split at h
  · rename_i l
    obtain ⟨hc, h⟩ := need_some h
    exact ⟨loopsOk_nil _, (drawPlay_fun l (of_decide_eq_true hc)).trans h⟩
  · cases h
end Go.Proofs.Ytjghbihlgfjebaa.Den
