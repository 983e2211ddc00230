/- The walk of laws.FnExactGoodReader; written by gen_fn.py -/
import Derived.Test.YtohoggoggchaeaaGoodReader
import Derived.Test.YtohoggoggchaeaaRel
namespace Go.Proofs.Ytohoggoggchaeaa
open Go.ChangeShapes Go.WideShapes Go.ChangeAt Go.RowKit
set_option linter.unusedVariables false

set_option maxHeartbeats 8000000 in
set_option maxRecDepth 20000 in
theorem walk_FnExactGoodReader {w : World} {x0_0 : List UInt8} {x0_2 : Bool} {ao0_1 : Option Addr} {n0_1 c0_1 : Nat} {zs0_1 : List (List UInt8)} (h0_1 : Sl w 0 w.heap.size 1 ao0_1 n0_1 c0_1 (zs0_1.map cS)) (g0_1 : ∀ z ∈ zs0_1, z.length ≤ 9223372036854775807) (q0_0 : x0_0.length ≤ 9223372036854775807) (q0_2 : True) :
    Calls Try.prog 4 #[.agg #[.string ⟨x0_0.toArray⟩, .slice ao0_1 n0_1 c0_1, .bool x0_2]] w fun e w' => e = .returned (.bool true) ∧ Chg [] w w' := by
  have le0_1 := h0_1.le
  have mx0_1 := h0_1.max
  go_enter Try.func4, Try.ntmps4
  go_wp2_with fail
  refine (szReader (k := 1048576) ((h0_1.ext ((Chg.refl [] w).alloc _) (Nat.le_refl _)).wide (Nat.le_refl _) ((Chg.refl [] w).alloc _).size) g0_1 q0_0 (by omega) (by omega)).mono ?_
  rintro e w1 ⟨r1, rfl, k1, u1, v1⟩
  have s1 : w.heap.size + 1 ≤ w1.heap.size := by have := k1.size; simp only [World.size_alloc] at this; omega
  have B0_1 := (k1.at (k := w.heap.size) (by simp only [World.size_alloc]; omega) (by simp)).1
  have Z0_1 : w.heap.size < w1.heap.size := by omega
  have H1 : Chg [] w w1 := ((Chg.refl [] w).alloc _).trans k1
  by_cases d1 : r1 < 0
  · go_wp2
    go_ret
    exact ⟨rfl, H1⟩
  have bd0_1 : n0_1 ≤ 1048576 := by omega
  go_wp2_with fail
  refine (toReader (h0_1.ext (H1) (Nat.le_refl _)) (H1).size bd0_1).mono ?_
  rintro e w2 ⟨aA0_1, cA0_1, SA0_1, rfl, k2, oA0_1, mA0_1⟩
  have s2 : w1.heap.size + 0 ≤ w2.heap.size := by have := k2.size; omega
  have B0_2 := (k2.at (k := w.heap.size) (by omega) (by simp)).1
  have Z0_2 : w.heap.size < w2.heap.size := by omega
  have H2 : Chg [] w w2 := (H1).trans k2
  have lA0_1 := oA0_1.lt
  try simp only [World.size_alloc] at mA0_1
  go_wp2_with fail
  refine (s_GoodReader (oA0_1.sl (lo := 0) (fun _ _ => Nat.zero_le _) oA0_1.lt) (Nat.le_refl _) bd0_1 (by omega) g0_1).mono ?_
  rintro e w3 ⟨rfl, k3⟩
  have s3 : w2.heap.size + 0 ≤ w3.heap.size := by have := k3.size; omega
  have B0_3 := (k3.at (k := w.heap.size) (by omega) (by simp)).1
  have Z0_3 : w.heap.size < w3.heap.size := by omega
  have H3 : Chg [] w w3 := (H2).trans k3
  have oA0_1_3 := oA0_1.ext k3
  go_wp2_with fail
  refine (toReader (h0_1.ext (H3) (Nat.le_refl _)) (H3).size bd0_1).mono ?_
  rintro e w4 ⟨ab0_1, cb0_1, Sb0_1, rfl, k4, ob0_1, mb0_1⟩
  have s4 : w3.heap.size + 0 ≤ w4.heap.size := by have := k4.size; omega
  have B0_4 := (k4.at (k := w.heap.size) (by omega) (by simp)).1
  have Z0_4 : w.heap.size < w4.heap.size := by omega
  have H4 : Chg [] w w4 := (H3).trans k4
  have lb0_1 := ob0_1.lt
  try simp only [World.size_alloc] at mb0_1
  go_wp2_with fail
  refine (i_GoodReader ((ob0_1.ext ((Chg.refl _ _).alloc _)).sl (lo := 0) (fun _ _ => Nat.zero_le _) (ob0_1.ext ((Chg.refl _ _).alloc _)).lt) (Nat.le_refl _) bd0_1 (by omega) g0_1).mono ?_
  rintro e w5 ⟨rfl, k5⟩
  have s5 : w4.heap.size + 1 ≤ w5.heap.size := by have := k5.size; simp only [World.size_alloc] at this; omega
  have B0_5 := (k5.at (k := w.heap.size) (by simp only [World.size_alloc]; omega) (by simp)).1
  have Z0_5 : w.heap.size < w5.heap.size := by omega
  have B1_5 := (k5.at (k := w4.heap.size) (by simp only [World.size_alloc]; omega) (by simp)).1
  have Z1_5 : w4.heap.size < w5.heap.size := by omega
  have H5 : Chg [] w w5 := ((H4).alloc _).trans k5
  have ob0_1_5 := (ob0_1.ext ((Chg.refl _ _).alloc _)).ext k5
  go_wp2
  refine wp_region_rel 5 (fun i => match i with | 2 => some (IsReader 0 x0_0 x0_2 zs0_1) | _ => none) (by kernel_rfl) (by kernel_rfl) (by decide) ?_
  simp only [List.map_cons, List.map_nil, List.take_succ_cons, List.take_zero]
  repeat
    refine wpRel_det rfl rfl (fun K hK => ?_)
    apply Exists.intro
    refine ⟨fun w' hw' => ?_, ?_⟩
    · repeat (first | (with_reducible refine Fills_val ?_) | ((with_reducible refine Fills_no ?_ ?_); (focus rfl)))
      with_reducible refine Fills_end ?_
      have C1 := hw'.cells.1
      go_simp
      try rw [if_neg (by omega)]
      first
        | (fail)
        | exact ⟨rfl, Chg.refl _ _⟩
    go_simp
    refine hK _ ?_
    clear hK K
  refine wpRel_rel rfl rfl IsReader.keep (fun w' hw' => ?_) (fun K hK => ?_)
  · repeat (first | (with_reducible refine Fills_val ?_) | ((with_reducible refine Fills_no ?_ ?_); (focus rfl)))
    with_reducible refine Fills_end ?_
    have C1 := hw'.cells.1
    go_simp
    (go_at_call 16; refine (toReader (h0_1.ext ((H5).trans hw') (Nat.le_refl _)) ((H5).trans hw').size bd0_1).mono ?_; rintro e wy ⟨ya0_1, ye0_1, yS0_1, rfl, ky, yo0_1, ym0_1⟩; exact ⟨_, rfl, ⟨ya0_1, n0_1, ye0_1, yS0_1, rfl, yo0_1, (fun _ _ => Nat.zero_le _)⟩, ky⟩)
  go_simp
  refine hK _ ?_
  clear hK K
  refine wpRel_det rfl rfl (fun K hK => ?_)
  apply Exists.intro
  refine ⟨fun w' hw' => ?_, ?_⟩
  · repeat (first | (with_reducible refine Fills_val ?_) | ((with_reducible refine Fills_no ?_ ?_); (focus rfl)))
    with_reducible refine Fills_yes ?_ (fun v1 hv1 => ?_)
    · rfl
    repeat (first | (with_reducible refine Fills_val ?_) | ((with_reducible refine Fills_no ?_ ?_); (focus rfl)))
    have C1 := hw'.cells.1
    (obtain ⟨pa0_1, pn0_1, pc0_1, pS0_1, rfl, po0_1, pm0_1⟩ := hv1; obtain rfl : n0_1 = pn0_1 := (ob0_1_5).same_n po0_1)
    with_reducible refine Fills_end ?_
    go_simp
    try rw [if_neg (by omega)]
    (go_at_call 18; exact step_call (eqReader (((ob0_1_5).ext hw').sl (lo := 0) (fun _ _ => Nat.zero_le _) ((ob0_1_5).ext hw').lt) (po0_1.sl (lo := 0) (fun _ _ => Nat.zero_le _) po0_1.lt) (Nat.le_refl _) (Nat.le_refl _)))
  go_simp
  refine hK _ ?_
  clear hK K
  repeat
    refine wpRel_det rfl rfl (fun K hK => ?_)
    apply Exists.intro
    refine ⟨fun w' hw' => ?_, ?_⟩
    · repeat (first | (with_reducible refine Fills_val ?_) | ((with_reducible refine Fills_no ?_ ?_); (focus rfl)))
      with_reducible refine Fills_end ?_
      have C1 := hw'.cells.1
      go_simp
      try rw [if_neg (by omega)]
      first
        | (fail)
        | exact ⟨rfl, Chg.refl _ _⟩
    go_simp
    refine hK _ ?_
    clear hK K
  refine wpRel_nil (fun w6 k6 _ => ?_)
  repeat (with_reducible refine Fills_val ?_)
  with_reducible refine Fills_yes ?_ (fun vy hvy => ?_)
  · rfl
  repeat (with_reducible refine Fills_val ?_)
  with_reducible refine Fills_end ?_
  simp only [List.drop_succ_cons, List.drop_zero]
  clear hvy
  have s6 : w5.heap.size + 0 ≤ w6.heap.size := by have := k6.size; omega
  have B0_6 := (k6.at (k := w.heap.size) (by omega) (by simp)).1
  have Z0_6 : w.heap.size < w6.heap.size := by omega
  have B1_6 := (k6.at (k := w4.heap.size) (by omega) (by simp)).1
  have Z1_6 : w4.heap.size < w6.heap.size := by omega
  have H6 : Chg [] w w6 := (H5).trans k6
  have ob0_1_6 := ob0_1_5.ext k6
  go_wp2
  go_ret
  exact ⟨rfl, H6⟩
end Go.Proofs.Ytohoggoggchaeaa
