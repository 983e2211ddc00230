/- The walk of laws.FnExactGapsIn; written by gen_read.py -/
import Derived.Test.YtohoggoggchaeaaGapsIn
import Derived.Test.YtohoggoggchaeaaRel
namespace Go.Proofs.Ytohoggoggchaeaa
open Go.ChangeShapes Go.WideShapes Go.ChangeAt Go.RowKit
set_option linter.unusedVariables false

set_option maxHeartbeats 4000000 in
set_option maxRecDepth 20000 in
theorem walk_FnExactGapsIn {x0 : Int} {x1 : Int} {x2 : Int} {ao3 : Option Addr} {n3 c3 : Nat} {zs3 : List (Int)} {ao4 : Option Addr} {n4 c4 : Nat} {zs4 : List (Int)} {ao5 : Option Addr} {n5 c5 : Nat} {zs5 : List (Int)} {w : World} (h3 : Sl w 0 w.heap.size 1 ao3 n3 c3 (zs3.map cI)) (h4 : Sl w 0 w.heap.size 1 ao4 n4 c4 (zs4.map cI)) (h5 : Sl w 0 w.heap.size 1 ao5 n5 c5 (zs5.map cI)) (g3 : ∀ z ∈ zs3, (-9223372036854775808 ≤ z ∧ z ≤ 9223372036854775807)) (g4 : ∀ z ∈ zs4, (-9223372036854775808 ≤ z ∧ z ≤ 9223372036854775807)) (g5 : ∀ z ∈ zs5, (-9223372036854775808 ≤ z ∧ z ≤ 9223372036854775807)) (q0 : -9223372036854775808 ≤ x0 ∧ x0 ≤ 9223372036854775807) (q1 : -9223372036854775808 ≤ x1 ∧ x1 ≤ 9223372036854775807) (q2 : -9223372036854775808 ≤ x2 ∧ x2 ≤ 9223372036854775807)  :
    Calls Try.prog 3 #[.agg #[.int .i64 x0, .int .i64 x1, .int .i64 x2, .slice ao3 n3 c3, .slice ao4 n4 c4, .slice ao5 n5 c5]] w fun e w' => e = .returned (.bool true) ∧ Chg [] w w' := by
  have H0 : ∀ A : Obj, Chg [] w (w.alloc A) := fun A => (Chg.refl _ _).alloc A
  go_enter Try.func3, Try.ntmps3
  go_wp2_with fail
  refine (szQueue (k := 1048576) ((h3.ext (H0 _) (Nat.le_refl _)).wide (Nat.le_refl _) (H0 _).size) ((h4.ext (H0 _) (Nat.le_refl _)).wide (Nat.le_refl _) (H0 _).size) ((h5.ext (H0 _) (Nat.le_refl _)).wide (Nat.le_refl _) (H0 _).size) (by omega) (by omega)).mono ?_
  rintro e w1 ⟨r, rfl, k1, u1, v1⟩
  have H1 := (H0 _).trans k1
  have B1 := (k1.at (k := w.heap.size) (by simp) (by simp)).1
  have Z1 : w.heap.size < w1.heap.size := by have := k1.size; simp at this; omega
  by_cases d : r < 0
  · go_wp2
    go_ret
    exact ⟨rfl, H1⟩
  have bd3 : n3 ≤ 1048576 := by omega
  have bd4 : n4 ≤ 1048576 := by omega
  have bd5 : n5 ≤ 1048576 := by omega
  go_wp2_with fail
  refine (toQueue (h3.ext H1 (Nat.le_refl _)) (h4.ext H1 (Nat.le_refl _)) (h5.ext H1 (Nat.le_refl _)) H1.size (by omega) (by omega) (by omega)).mono ?_
  rintro e w2 ⟨Aa3, Ae3, AS3, Aa4, Ae4, AS4, Aa5, Ae5, AS5, rfl, kA, Ao3, Am3, Ao4, Am4, Ao5, Am5, AD3_4, AD3_5, AD4_5⟩
  have H2 := H1.trans kA
  have B2 := (kA.at (k := w.heap.size) (by omega) (by simp)).1
  have Z2 : w.heap.size < w2.heap.size := by have := kA.size; omega
  go_wp2_with fail
  refine (s_GapsIn (Ao3.sl (lo := 0) (fun _ _ => Nat.zero_le _) Ao3.lt) (Ao4.sl (lo := 0) (fun _ _ => Nat.zero_le _) Ao4.lt) (Ao5.sl (lo := 0) (fun _ _ => Nat.zero_le _) Ao5.lt) (Nat.le_refl _) (by omega) (by omega) (by omega)).mono ?_
  rintro e w3 ⟨rfl, k3⟩
  have H3 := H2.trans k3
  have B3 := (k3.at (k := w.heap.size) (by omega) (by simp)).1
  have Z3 : w.heap.size < w3.heap.size := by have := k3.size; omega
  go_wp2_with fail
  refine (toQueue (h3.ext H3 (Nat.le_refl _)) (h4.ext H3 (Nat.le_refl _)) (h5.ext H3 (Nat.le_refl _)) H3.size (by omega) (by omega) (by omega)).mono ?_
  rintro e w4 ⟨ba3, be3, bS3, ba4, be4, bS4, ba5, be5, bS5, rfl, kb, bo3, bm3, bo4, bm4, bo5, bm5, bD3_4, bD3_5, bD4_5⟩
  have H4 := H3.trans kb
  have B4 := (kb.at (k := w.heap.size) (by omega) (by simp)).1
  have Z4 : w.heap.size < w4.heap.size := by have := kb.size; omega
  go_wp2_with fail
  refine (i_GapsIn ((bo3.ext ((Chg.refl _ _).alloc _)).sl (lo := 0) (fun _ _ => Nat.zero_le _) (bo3.ext ((Chg.refl _ _).alloc _)).lt) ((bo4.ext ((Chg.refl _ _).alloc _)).sl (lo := 0) (fun _ _ => Nat.zero_le _) (bo4.ext ((Chg.refl _ _).alloc _)).lt) ((bo5.ext ((Chg.refl _ _).alloc _)).sl (lo := 0) (fun _ _ => Nat.zero_le _) (bo5.ext ((Chg.refl _ _).alloc _)).lt) (Nat.le_refl _) (by omega) (by omega) (by omega)).mono ?_
  rintro e w5 ⟨rfl, k5⟩
  have H5 := (H4.alloc _).trans k5
  have B5 := (k5.at (k := w.heap.size) (by simp only [World.size_alloc]; omega) (by simp)).1
  have Z5 : w.heap.size < w5.heap.size := by have := k5.size; simp only [World.size_alloc] at this; omega
  have B5' := (k5.at (k := w4.heap.size) (by simp only [World.size_alloc]; omega) (by simp)).1
  have Z5' : w4.heap.size < w5.heap.size := by have := k5.size; simp only [World.size_alloc] at this; omega
  have xo3 := (bo3.ext ((Chg.refl _ _).alloc _)).ext k5
  have xo4 := (bo4.ext ((Chg.refl _ _).alloc _)).ext k5
  have xo5 := (bo5.ext ((Chg.refl _ _).alloc _)).ext k5
  go_wp2
  refine wp_region_rel 5 (fun i => match i with | 2 => some (fun v w' => IsQueue 0 x0 x1 x2 zs3 zs4 zs5 v w') | _ => none) (by kernel_rfl) (by kernel_rfl) (by decide) ?_
  simp only [List.map_cons, List.map_nil, List.take_succ_cons, List.take_zero]
  repeat
    refine wpRel_det rfl (fun K hK => ?_)
    apply Exists.intro
    refine ⟨fun w' hw' => ?_, ?_⟩
    · repeat (first | (with_reducible refine Fills_val ?_) | ((with_reducible refine Fills_no ?_ ?_); (focus rfl)))
      with_reducible refine Fills_end ?_
      have C1 := hw'.cells.1
      go_simp
      try rw [if_neg (by omega)]
      first
        | (fail)
        | exact ⟨rfl, Chg.refl _ _⟩
    go_simp
    refine hK _ ?_
    clear hK K
  refine wpRel_rel rfl IsQueue.keep (fun w' hw' => ?_) (fun K hK => ?_)
  · repeat (first | (with_reducible refine Fills_val ?_) | ((with_reducible refine Fills_no ?_ ?_); (focus rfl)))
    with_reducible refine Fills_end ?_
    have C1 := hw'.cells.1
    go_simp
    (go_at_call 11; refine (toQueue (h3.ext (H5.trans hw') (Nat.le_refl _)) (h4.ext (H5.trans hw') (Nat.le_refl _)) (h5.ext (H5.trans hw') (Nat.le_refl _)) (H5.trans hw').size (by omega) (by omega) (by omega)).mono ?_; rintro e w6 ⟨ya3, ye3, yS3, ya4, ye4, yS4, ya5, ye5, yS5, rfl, ky, yo3, ym3, yo4, ym4, yo5, ym5, yD3_4, yD3_5, yD4_5⟩; exact ⟨_, rfl, ⟨ya3, n3, ye3, yS3, ya4, n4, ye4, yS4, ya5, n5, ye5, yS5, rfl, yo3, (fun _ _ => Nat.zero_le _), yo4, (fun _ _ => Nat.zero_le _), yo5, (fun _ _ => Nat.zero_le _), yD3_4, yD3_5, yD4_5⟩, ky⟩)
  go_simp
  refine hK _ ?_
  clear hK K
  refine wpRel_det rfl (fun K hK => ?_)
  apply Exists.intro
  refine ⟨fun w' hw' => ?_, ?_⟩
  · repeat (first | (with_reducible refine Fills_val ?_) | ((with_reducible refine Fills_no ?_ ?_); (focus rfl)))
    with_reducible refine Fills_yes ?_ (fun v1 hv1 => ?_)
    · rfl
    repeat (first | (with_reducible refine Fills_val ?_) | ((with_reducible refine Fills_no ?_ ?_); (focus rfl)))
    have C1 := hw'.cells.1
    (obtain ⟨pa3, pn3, pc3, pS3, pa4, pn4, pc4, pS4, pa5, pn5, pc5, pS5, rfl, po3, pm3, po4, pm4, po5, pm5, pD3_4, pD3_5, pD4_5⟩ := hv1; obtain rfl : n3 = pn3 := xo3.same_n po3; obtain rfl : n4 = pn4 := xo4.same_n po4; obtain rfl : n5 = pn5 := xo5.same_n po5)
    with_reducible refine Fills_end ?_
    go_simp
    try rw [if_neg (by omega)]
    (go_at_call 13; exact step_call (eqQueue ((xo3.ext hw').sl (lo := 0) (fun _ _ => Nat.zero_le _) (xo3.ext hw').lt) (po3.sl (lo := 0) (fun _ _ => Nat.zero_le _) po3.lt) ((xo4.ext hw').sl (lo := 0) (fun _ _ => Nat.zero_le _) (xo4.ext hw').lt) (po4.sl (lo := 0) (fun _ _ => Nat.zero_le _) po4.lt) ((xo5.ext hw').sl (lo := 0) (fun _ _ => Nat.zero_le _) (xo5.ext hw').lt) (po5.sl (lo := 0) (fun _ _ => Nat.zero_le _) po5.lt) (Nat.le_refl _) (Nat.le_refl _)))
  go_simp
  refine hK _ ?_
  clear hK K
  repeat
    refine wpRel_det rfl (fun K hK => ?_)
    apply Exists.intro
    refine ⟨fun w' hw' => ?_, ?_⟩
    · repeat (first | (with_reducible refine Fills_val ?_) | ((with_reducible refine Fills_no ?_ ?_); (focus rfl)))
      with_reducible refine Fills_end ?_
      have C1 := hw'.cells.1
      go_simp
      try rw [if_neg (by omega)]
      first
        | (fail)
        | exact ⟨rfl, Chg.refl _ _⟩
    go_simp
    refine hK _ ?_
    clear hK K
  refine wpRel_nil (fun w1 hw1 => ?_)
  repeat (with_reducible refine Fills_val ?_)
  with_reducible refine Fills_yes ?_ (fun v0 hv0 => ?_)
  · rfl
  repeat (with_reducible refine Fills_val ?_)
  with_reducible refine Fills_end ?_
  simp only [List.drop_succ_cons, List.drop_zero]
  go_wp2
  go_ret
  exact ⟨rfl, H5.trans hw1⟩
end Go.Proofs.Ytohoggoggchaeaa
