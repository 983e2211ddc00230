/- What functions of the program do, by the machine: NewSes. -/
import Derived.Test.YtjghbihlgfjebaaDSes
import Derived.KernelRfl
import Derived.Test.YtjghbihlgfjebaaRows
namespace Go.Proofs.Ytjghbihlgfjebaa.Den
open Go.Proofs
set_option maxRecDepth 100000
def l15TextG : List V → List Blk → Br (V × List (Option Blk))
  | [.s l], [] => .leaf (.b (decide (l.length ≤ 20)), [])
  | _, _ => .no
def newSessionG : List V → List Blk → Br (V × List (Option Blk))
  | [.s l], [] => .br (decide (l.length ≤ 20)) (.leaf (V.tup [V.agg [.i .i64 1, .ref 0 0 1, .i .i64 0, .ref 1 0 0, .ref 2 0 0, .ref 3 0 0], .b true],
        [some (Blk.row false (some false) .str [l]), some (Blk.row false (some true) .str []), some (Blk.row false (some true) (.pair (.int .i64) (.pair (.int .i64) (.pair .str .unit))) []), some (Blk.row false (some true) (.pair (.int .i64) (.pair (.int .i64) .unit)) [])])) (.leaf (V.tup [V.agg [.i .i64 0, .ref 0 0 0, .i .i64 0, .ref 1 0 0, .ref 2 0 0, .ref 3 0 0], .b false],
        [some (Blk.row false (some true) .str []), some (Blk.row false (some true) .str []), some (Blk.row false (some true) (.pair (.int .i64) (.pair (.int .i64) (.pair .str .unit))) []), some (Blk.row false (some true) (.pair (.int .i64) (.pair (.int .i64) .unit)) [])]))
  | _, _ => .no
theorem l15Text_fun (l : List UInt8) : funK Try.prog (look []) (look []) Try.f116 [.s l] [] = some (.b (decide (l.length ≤ 20)), []) := by
  have e : funK Try.prog (look []) (look []) Try.f116 [.s l] [] = ((some (V.b (decide ((↑l.length : Int) ≤ (20 : Int))), [])) : _) := by kernel_rfl
  rw [e]
  by_cases h : l.length ≤ 20 <;> simp [h] <;> omega
theorem l15Text : Contract Try.prog 116 (Ent.rd1 l15TextG).F := by
  refine fun_contract' KnowsL.nil.knows (Λ := look []) Try.func116 (c := Try.f116.body.getD .skip) (by kernel_rfl) fun vs bs r h hv hb => ?_
  unfold Ent.F l15TextG at h
  dsimp only at h
  split at h
  · rename_i l
    exact ⟨loopsOk_nil _, (l15Text_fun l).trans h⟩
  · cases h
theorem specNewSession_fun (l : List UInt8) : funK Try.prog (look [(116, .rd1 l15TextG)]) (look []) Try.f47 [.s l] [] = (newSessionG [.s l] []).run := by
  have e : funK Try.prog (look [(116, .rd1 l15TextG)]) (look []) Try.f47 [.s l] [] = ((ifB (!decide (l.length ≤ (20 : Nat)))
  (some
  (V.tup
  [V.agg
  [V.i IntKind.i64 (0 : Int), V.ref (0 : Nat) (0 : Nat) (0 : Nat), V.i IntKind.i64 (0 : Int),
  V.ref (1 : Nat) (0 : Nat) (0 : Nat), V.ref (2 : Nat) (0 : Nat) (0 : Nat),
  V.ref (3 : Nat) (0 : Nat) (0 : Nat)],
  V.b false],
  [some (Blk.row false (some true) Cd.str (nilT Cd.str.den)),
  some (Blk.row false (some true) Cd.str (nilT Cd.str.den)),
  some
  (Blk.row false (some true) ((Cd.int IntKind.i64).pair ((Cd.int IntKind.i64).pair (Cd.str.pair Cd.unit)))
  (nilT ((Cd.int IntKind.i64).pair ((Cd.int IntKind.i64).pair (Cd.str.pair Cd.unit))).den)),
  some
  (Blk.row false (some true) ((Cd.int IntKind.i64).pair ((Cd.int IntKind.i64).pair Cd.unit))
  (nilT ((Cd.int IntKind.i64).pair ((Cd.int IntKind.i64).pair Cd.unit)).den))]))
  (some
  (V.tup
  [V.agg
  [V.i IntKind.i64 (1 : Int), V.ref (0 : Nat) (0 : Nat) (1 : Nat), V.i IntKind.i64 (0 : Int),
  V.ref (1 : Nat) (0 : Nat) (0 : Nat), V.ref (2 : Nat) (0 : Nat) (0 : Nat),
  V.ref (3 : Nat) (0 : Nat) (0 : Nat)],
  V.b true],
  [some (Blk.row false (some false) Cd.str (l :: nilT Cd.str.den)),
  some (Blk.row false (some true) Cd.str (nilT Cd.str.den)),
  some
  (Blk.row false (some true) ((Cd.int IntKind.i64).pair ((Cd.int IntKind.i64).pair (Cd.str.pair Cd.unit)))
  (nilT ((Cd.int IntKind.i64).pair ((Cd.int IntKind.i64).pair (Cd.str.pair Cd.unit))).den)),
  some
  (Blk.row false (some true) ((Cd.int IntKind.i64).pair ((Cd.int IntKind.i64).pair Cd.unit))
  (nilT ((Cd.int IntKind.i64).pair ((Cd.int IntKind.i64).pair Cd.unit)).den))]))) : _) := by kernel_rfl
  rw [e]
  unfold newSessionG
  dsimp only
  rw [br_run]
  by_cases h : l.length ≤ 20
  · have h' : ¬ (l.length : Int) > 20 := by omega
    rw [if_pos h]; simp only [h, h', ifB_not, ifB_dec', if_true, if_false]; rfl
  · have h' : (l.length : Int) > 20 := by omega
    rw [if_neg h]; simp only [h, h', ifB_not, ifB_dec', if_true, if_false]; rfl
theorem specNewSession : Contract Try.prog 47 (Ent.rd1 newSessionG).F := by
  refine fun_contract' (KnowsL.cons (enters_fn Try.func116 (by kernel_rfl) (by kernel_rfl)) l15Text KnowsL.nil).knows (Λ := look []) Try.func47 (c := Try.f47.body.getD .skip) (by kernel_rfl) fun vs bs r h hv hb => ?_
  unfold Ent.F newSessionG at h
  dsimp only at h
  split at h
  · rename_i l
    exact ⟨loopsOk_nil _, (specNewSession_fun l).trans h⟩
  · cases h
theorem implNewSession_fun (l : List UInt8) : funK Try.prog (look []) (look []) Try.f46 [.s l] [] = (newSessionG [.s l] []).run := by
  have e : funK Try.prog (look []) (look []) Try.f46 [.s l] [] = ((ifB (decide ((↑l.length : Int) > (20 : Int)))
  (some
  (V.tup
  [V.agg
  [V.i IntKind.i64 (0 : Int), V.ref (0 : Nat) (0 : Nat) (0 : Nat), V.i IntKind.i64 (0 : Int),
  V.ref (1 : Nat) (0 : Nat) (0 : Nat), V.ref (2 : Nat) (0 : Nat) (0 : Nat),
  V.ref (3 : Nat) (0 : Nat) (0 : Nat)],
  V.b false],
  [some (Blk.row false (some true) Cd.str (nilT Cd.str.den)),
  some (Blk.row false (some true) Cd.str (nilT Cd.str.den)),
  some
  (Blk.row false (some true) ((Cd.int IntKind.i64).pair ((Cd.int IntKind.i64).pair (Cd.str.pair Cd.unit)))
  (nilT ((Cd.int IntKind.i64).pair ((Cd.int IntKind.i64).pair (Cd.str.pair Cd.unit))).den)),
  some
  (Blk.row false (some true) ((Cd.int IntKind.i64).pair ((Cd.int IntKind.i64).pair Cd.unit))
  (nilT ((Cd.int IntKind.i64).pair ((Cd.int IntKind.i64).pair Cd.unit)).den))]))
  (some
  (V.tup
  [V.agg
  [V.i IntKind.i64 (1 : Int), V.ref (0 : Nat) (0 : Nat) (1 : Nat), V.i IntKind.i64 (0 : Int),
  V.ref (1 : Nat) (0 : Nat) (0 : Nat), V.ref (2 : Nat) (0 : Nat) (0 : Nat),
  V.ref (3 : Nat) (0 : Nat) (0 : Nat)],
  V.b true],
  [some (Blk.row false (some false) Cd.str (l :: nilT Cd.str.den)),
  some (Blk.row false (some true) Cd.str (nilT Cd.str.den)),
  some
  (Blk.row false (some true) ((Cd.int IntKind.i64).pair ((Cd.int IntKind.i64).pair (Cd.str.pair Cd.unit)))
  (nilT ((Cd.int IntKind.i64).pair ((Cd.int IntKind.i64).pair (Cd.str.pair Cd.unit))).den)),
  some
  (Blk.row false (some true) ((Cd.int IntKind.i64).pair ((Cd.int IntKind.i64).pair Cd.unit))
  (nilT ((Cd.int IntKind.i64).pair ((Cd.int IntKind.i64).pair Cd.unit)).den))]))) : _) := by kernel_rfl
  rw [e]
  unfold newSessionG
  dsimp only
  rw [br_run]
  by_cases h : l.length ≤ 20
  · have h' : ¬ (l.length : Int) > 20 := by omega
    rw [if_pos h]; simp only [h, h', ifB_not, ifB_dec', if_true, if_false]; rfl
  · have h' : (l.length : Int) > 20 := by omega
    rw [if_neg h]; simp only [h, h', ifB_not, ifB_dec', if_true, if_false]; rfl
theorem implNewSession : Contract Try.prog 46 (Ent.rd1 newSessionG).F := by
  refine fun_contract' KnowsL.nil.knows (Λ := look []) Try.func46 (c := Try.f46.body.getD .skip) (by kernel_rfl) fun vs bs r h hv hb => ?_
  unfold Ent.F newSessionG at h
  dsimp only at h
  split at h
  · rename_i l
    exact ⟨loopsOk_nil _, (implNewSession_fun l).trans h⟩
  · cases h
end Go.Proofs.Ytjghbihlgfjebaa.Den
