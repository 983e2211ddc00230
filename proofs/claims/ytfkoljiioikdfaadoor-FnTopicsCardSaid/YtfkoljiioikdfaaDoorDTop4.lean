/- What functions of the program do, by the machine: Top4. -/
import Derived.Test.YtfkoljiioikdfaaDoorDTop3
import Derived.KernelRfl
import Derived.Test.YtfkoljiioikdfaaDoorRows
namespace Go.Proofs.YtfkoljiioikdfaaDoor.Den
open Go.Proofs
set_option maxRecDepth 100000
/-- A level of a pattern; a pattern's levels are right. -/
def lvOK (s : List UInt8) : Bool := s == [43] || (s == [35] || lev s)
def lvB (l : List (List UInt8)) : Bool := decide (l.length ≤ 6) && (!(l.any fun z => !lvOK z) && !decide ([35] ∈ l.take (l.length - 1)))
def tpB (l : List (List UInt8)) : Bool := lvB l && !(l.any fun z => !lev z)
def lvOKG : List V → List Blk → Br (V × List (Option Blk))
  | [.s s], [] => .need (decide (s.length ≤ maxI)) (.leaf (.b (lvOK s), []))
  | _, _ => .no
def lv1G : List V → List Blk → Br (V × List (Option Blk))
  | [.s s], [] => .need (decide (s.length ≤ maxI)) (.leaf (.b (!lvOK s), []))
  | _, _ => .no
def tp1G : List V → List Blk → Br (V × List (Option Blk))
  | [.s s], [] => .need (decide (s.length ≤ maxI)) (.leaf (.b (!lev s), []))
  | _, _ => .no
theorem lvOKc_fun (s : List UInt8) (hc : s.length ≤ maxI) : funK Tryd.prog (look [(38, .rd1 levG)]) (look []) Tryd.f62 [.s s] [] = (.leaf (.b (lvOK s), []) : Br (V × List (Option Blk))).run := by
  have e : funK Tryd.prog (look [(38, .rd1 levG)]) (look []) Tryd.f62 [.s s] [] = ((ifB (s == [(43 : UInt8)]) (some (V.b true, []))
  (ifB (s == [(35 : UInt8)]) (some (V.b true, [])) (ifT (decide (s.length ≤ maxI)) (some (V.b (lev s), []))))) : _) := by kernel_rfl
  rw [e]
  clear e
  rw [ifT_true (decide_eq_true hc)]
  unfold lvOK
  cases s == [43] <;> cases s == [35] <;> cases lev s <;> rfl
theorem lvOKc : Contract Tryd.prog 62 (Ent.rd1 lvOKG).F := by
  refine fun_contract' (KnowsL.cons (enters_fn Tryd.func38 (by kernel_rfl) (by kernel_rfl)) plev KnowsL.nil).knows (Λ := look []) Tryd.func62 (c := Tryd.f62.body.getD .skip) (by kernel_rfl) fun vs bs r hq hv hb => ?_
  unfold Ent.F lvOKG at hq
  dsimp only at hq
  split at hq
  · rename_i s
    obtain ⟨hc, hq⟩ := need_some hq
    exact ⟨loopsOk_nil _, (lvOKc_fun s (of_decide_eq_true hc)).trans hq⟩
  · cases hq
theorem lv1_fun (s : List UInt8) (hc : s.length ≤ maxI) : funK Tryd.prog (look [(62, .rd1 lvOKG)]) (look []) Tryd.f61 [.s s] [] = (.leaf (.b (!lvOK s), []) : Br (V × List (Option Blk))).run := by
  have e : funK Tryd.prog (look [(62, .rd1 lvOKG)]) (look []) Tryd.f61 [.s s] [] = ((ifT (decide (s.length ≤ maxI)) (some (V.b !lvOK s, []))) : _) := by kernel_rfl
  rw [e]
  clear e
  rw [ifT_true (decide_eq_true hc)]
  rfl
theorem lv1 : Contract Tryd.prog 61 (Ent.rd1 lv1G).F := by
  refine fun_contract' (KnowsL.cons (enters_fn Tryd.func62 (by kernel_rfl) (by kernel_rfl)) lvOKc KnowsL.nil).knows (Λ := look []) Tryd.func61 (c := Tryd.f61.body.getD .skip) (by kernel_rfl) fun vs bs r hq hv hb => ?_
  unfold Ent.F lv1G at hq
  dsimp only at hq
  split at hq
  · rename_i s
    obtain ⟨hc, hq⟩ := need_some hq
    exact ⟨loopsOk_nil _, (lv1_fun s (of_decide_eq_true hc)).trans hq⟩
  · cases hq
theorem tp1_fun (s : List UInt8) (hc : s.length ≤ maxI) : funK Tryd.prog (look [(38, .rd1 levG)]) (look []) Tryd.f37 [.s s] [] = (.leaf (.b (!lev s), []) : Br (V × List (Option Blk))).run := by
  have e : funK Tryd.prog (look [(38, .rd1 levG)]) (look []) Tryd.f37 [.s s] [] = ((ifT (decide (s.length ≤ maxI)) (some (V.b !lev s, []))) : _) := by kernel_rfl
  rw [e]
  clear e
  rw [ifT_true (decide_eq_true hc)]
  rfl
theorem tp1 : Contract Tryd.prog 37 (Ent.rd1 tp1G).F := by
  refine fun_contract' (KnowsL.cons (enters_fn Tryd.func38 (by kernel_rfl) (by kernel_rfl)) plev KnowsL.nil).knows (Λ := look []) Tryd.func37 (c := Tryd.f37.body.getD .skip) (by kernel_rfl) fun vs bs r hq hv hb => ?_
  unfold Ent.F tp1G at hq
  dsimp only at hq
  split at hq
  · rename_i s
    obtain ⟨hc, hq⟩ := need_some hq
    exact ⟨loopsOk_nil _, (tp1_fun s (of_decide_eq_true hc)).trans hq⟩
  · cases hq
end Go.Proofs.YtfkoljiioikdfaaDoor.Den
