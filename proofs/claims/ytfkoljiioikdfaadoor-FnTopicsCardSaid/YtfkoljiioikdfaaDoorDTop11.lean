/- What functions of the program do, by the machine: Top11. -/
import Derived.Test.YtfkoljiioikdfaaDoorDTop10
import Derived.KernelRfl
import Derived.Test.YtfkoljiioikdfaaDoorRows
namespace Go.Proofs.YtfkoljiioikdfaaDoor.Den
open Go.Proofs
set_option maxRecDepth 100000
/-- A drawn second pattern. -/
def dpc2 (l : List Int) : List UInt8 := if (Cur.mk l 0 0).pat.2.pickV 6 = 0 then (Cur.mk l 0 0).pat.1 else ((Cur.mk l 0 0).pat.2.pickC 6).pat.1
def dtfG : List V → List Blk → Br (V × List (Option Blk))
  | [.sl (.int .u8) l], [] => .need (decide ((Cur.mk l 0 0).good 0)) (.leaf (.tup [.s (Cur.mk l 0 0).pat.1, .s (Cur.mk l 0 0).pat.2.top.1], []))
  | _, _ => .no
def dpcG : List V → List Blk → Br (V × List (Option Blk))
  | [.sl (.int .u8) l], [] => .need (decide ((Cur.mk l 0 0).good 0)) (.leaf (.tup [.s (Cur.mk l 0 0).pat.1, .s (dpc2 l)], []))
  | _, _ => .no
theorem dtf_fun (l : List Int) (hc : (Cur.mk l 0 0).good 0) : funN Tryd.prog (look [(30, .own cpatG), (31, .own ctopG)]) (look []) Tryd.f5 [.sl (.int .u8) l] [] = (.leaf (.tup [.s (Cur.mk l 0 0).pat.1, .s (Cur.mk l 0 0).pat.2.top.1], []) : Br (V × List (Option Blk))).run := by
  have e : funN Tryd.prog (look [(30, .own cpatG), (31, .own ctopG)]) (look []) Tryd.f5 [.sl (.int .u8) l] [] = ((ifT (decide ((Cur.mk l (0 : Int) (0 : Int)).good (500000000 : Int)))
  (ifT (decide ((Cur.mk l (0 : Int) (0 : Int)).pat.snd.good (500000000 : Int)))
  (some (V.tup [V.s (Cur.mk l (0 : Int) (0 : Int)).pat.fst, V.s (Cur.mk l (0 : Int) (0 : Int)).pat.snd.top.fst], [])))) : _) := by kernel_rfl
  rw [e]
  clear e
  obtain ⟨h1, h2⟩ := Cur.pat_facts hc
  rw [ifT_true (decide_eq_true (Cur.good_mono hc (by omega))), ifT_true (decide_eq_true (Cur.good_mono h2 (by omega)))]
  rfl
theorem dtf : Contract Tryd.prog 5 (Ent.rd1 dtfG).F := by
  refine fun_contractN' (KnowsL.cons (enters_fn Tryd.func30 (by kernel_rfl) (by kernel_rfl)) cpat (KnowsL.cons (enters_fn Tryd.func31 (by kernel_rfl) (by kernel_rfl)) ctop KnowsL.nil)).knows (Λ := look []) Tryd.func5 (c := Tryd.f5.body.getD .skip) (by kernel_rfl) fun vs bs r h hv hb => ?_
  unfold Ent.F dtfG at h
  dsimp only at h
  split at h
  · rename_i l
    obtain ⟨hc, h⟩ := need_some h
    exact ⟨loopsOk_nil _, (dtf_fun l (of_decide_eq_true hc)).trans h⟩
  · cases h
theorem dpc_fun (l : List Int) (hc : (Cur.mk l 0 0).good 0) : funN Tryd.prog (look [(30, .own cpatG), (40, .own coneG)]) (look []) Tryd.f12 [.sl (.int .u8) l] [] = (.leaf (.tup [.s (Cur.mk l 0 0).pat.1, .s (dpc2 l)], []) : Br (V × List (Option Blk))).run := by
  have e : funN Tryd.prog (look [(30, .own cpatG), (40, .own coneG)]) (look []) Tryd.f12 [.sl (.int .u8) l] [] = ((ifT (decide ((Cur.mk l (0 : Int) (0 : Int)).good (500000000 : Int)))
  (ifT (decide ((Cur.mk l (0 : Int) (0 : Int)).pat.snd.good (900000000 : Int)))
  (ifB ((Cur.mk l (0 : Int) (0 : Int)).pat.snd.pickV (6 : Int) == (0 : Int))
  (some (V.tup [V.s (Cur.mk l (0 : Int) (0 : Int)).pat.fst, V.s (Cur.mk l (0 : Int) (0 : Int)).pat.fst], []))
  (ifT (decide (((Cur.mk l (0 : Int) (0 : Int)).pat.snd.pickC (6 : Int)).good (500000000 : Int)))
  (some
  (V.tup
  [V.s (Cur.mk l (0 : Int) (0 : Int)).pat.fst,
  V.s ((Cur.mk l (0 : Int) (0 : Int)).pat.snd.pickC (6 : Int)).pat.fst],
  [])))))) : _) := by kernel_rfl
  rw [e]
  clear e
  obtain ⟨h1, h2⟩ := Cur.pat_facts hc
  have g3 : ((Cur.mk l 0 0).pat.2.pickC 6).good 500000000 := by (repeat with_reducible apply Cur.pick_le); exact Cur.good_mono h2 (by omega)
  rw [ifT_true (decide_eq_true (Cur.good_mono hc (by omega))), ifT_true (decide_eq_true (Cur.good_mono h2 (by omega)))]
  unfold dpc2
  by_cases q : (Cur.mk l 0 0).pat.2.pickV 6 = 0
  · rw [ifB_true (by rw [q]; rfl), if_pos q]
    rfl
  · rw [ifB_false (by simpa using q), if_neg q, ifT_true (decide_eq_true g3)]
    rfl
theorem dpc : Contract Tryd.prog 12 (Ent.rd1 dpcG).F := by
  refine fun_contractN' (KnowsL.cons (enters_fn Tryd.func30 (by kernel_rfl) (by kernel_rfl)) cpat (KnowsL.cons (enters_fn Tryd.func40 (by kernel_rfl) (by kernel_rfl)) cone KnowsL.nil)).knows (Λ := look []) Tryd.func12 (c := Tryd.f12.body.getD .skip) (by kernel_rfl) fun vs bs r h hv hb => ?_
  unfold Ent.F dpcG at h
  dsimp only at h
  split at h
  · rename_i l
    obtain ⟨hc, h⟩ := need_some h
    exact ⟨loopsOk_nil _, (dpc_fun l (of_decide_eq_true hc)).trans h⟩
  · cases h
end Go.Proofs.YtfkoljiioikdfaaDoor.Den
