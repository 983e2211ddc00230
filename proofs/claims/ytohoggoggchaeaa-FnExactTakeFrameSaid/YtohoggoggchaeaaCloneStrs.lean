/- slices.Clone of []string; written by gen_clone.py -/
import Derived.Test.YtohoggoggchaeaaStrs
namespace Go.Proofs.Ytohoggoggchaeaa
open Go.ChangeShapes Go.WideShapes Go.ChangeAt Go.RowKit

set_option maxHeartbeats 400000 in
set_option maxRecDepth 20000 in
theorem cloneStrs {ao : Option Addr} {n c lo hi : Nat} {zs : List (List UInt8)} {w : World} (h : Sl w lo hi 1 ao n c (zs.map cS)) (hhi : hi ≤ w.heap.size) (hn : n ≤ 1048576) :
    Calls Try.prog 58 #[.slice ao n c] w fun e w' => ∃ v, e = .returned v ∧ Chg [] w w' ∧ IsStrs w.heap.size zs v w' := by
  cases ao with
  | none =>
    obtain rfl : n = 0 := by rcases h.mem with h0 | ⟨b, off, h0, _⟩; exact h0; cases h0
    obtain rfl : zs = [] := List.eq_nil_of_length_eq_zero h.length
    have hnil := fun W : World => Lib.run_eql_slice_nil (P := Try.prog) W _ _ none 0 c 0 0 Try.underlying32
    go_enter Try.func58, Try.ntmps58
    go_wp2
    go_ret
    exact ⟨_, rfl, Chg.refl _ _, IsStrs.nil _ _⟩
  | some a =>
    have hnil := fun W : World => Lib.run_eql_slice_nil (P := Try.prog) W _ _ (some a) n c 0 0 Try.underlying32
    go_enter Try.func58, Try.ntmps58
    have hx := h.ext ((Chg.refl _ w).alloc (.cells #[] 9)) hhi
    have hl := h.len
    have h1 : ∀ u ∈ zs.map cS, u.oneCell' = true := by intro u hu; obtain ⟨z, _, rfl⟩ := List.mem_map.1 hu; rfl
    go_wp2_with (at_builtin; refine wpList_append rfl _ _ _ rfl etStrs rfl (Own.vac _ _ _ _) rfl hx.src hl h1 (by omega) (by omega) ?_; intro ao' c' S' w3 ho1 hc1 hS1)
    go_ret
    simp only [Nat.zero_add, List.nil_append] at ho1
    refine ⟨_, rfl, ((Chg.refl _ _).alloc _).trans hc1, ao', n, c', S', by simp, ho1, fun x hx => ?_⟩
    rcases hS1 with rfl | rfl
    · cases hx
    · simp at hx; omega
end Go.Proofs.Ytohoggoggchaeaa
