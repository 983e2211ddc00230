/- The walk of laws.FnExactTakeFrame; written by gen_fn.py -/
import Derived.Test.YtohoggoggchaeaaTakeFrame
import Derived.Test.YtohoggoggchaeaaRel
namespace Go.Proofs.Ytohoggoggchaeaa
open Go.ChangeShapes Go.WideShapes Go.ChangeAt Go.RowKit
set_option linter.unusedVariables false

set_option maxHeartbeats 8000000 in
set_option maxRecDepth 20000 in
theorem walk_FnExactTakeFrame {w : World} {x0_0 : List UInt8} {x0_2 : Bool} {ao0_1 : Option Addr} {n0_1 c0_1 : Nat} {zs0_1 : List (List UInt8)} (h0_1 : Sl w 0 w.heap.size 1 ao0_1 n0_1 c0_1 (zs0_1.map cS)) (g0_1 : ∀ z ∈ zs0_1, z.length ≤ 9223372036854775807) (q0_0 : x0_0.length ≤ 9223372036854775807) (q0_2 : True) :
    Calls Try.prog 7 #[.agg #[.string ⟨x0_0.toArray⟩, .slice ao0_1 n0_1 c0_1, .bool x0_2]] w fun e w' => e = .returned (.bool true) ∧ Chg [] w w' := by
  have le0_1 := h0_1.le
  have mx0_1 := h0_1.max
  go_enter Try.func7, Try.ntmps7
  go_wp2_with fail
  refine (szReader (k := 1048576) ((h0_1.ext ((Chg.refl [] w).alloc _) (Nat.le_refl _)).wide (Nat.le_refl _) ((Chg.refl [] w).alloc _).size) g0_1 q0_0 (by omega) (by omega)).mono ?_
  rintro e w1 ⟨r1, rfl, k1, u1, v1⟩
  have s1 : w.heap.size + 1 ≤ w1.heap.size := by have := k1.size; simp only [World.size_alloc] at this; omega
  have B0_1 := (k1.at (k := w.heap.size) (by simp only [World.size_alloc]; omega) (by simp)).1
  have Z0_1 : w.heap.size < w1.heap.size := by omega
  have H1 : Chg [] w w1 := ((Chg.refl [] w).alloc _).trans k1
  by_cases d1 : r1 < 0
  · go_wp2
    go_ret
    exact ⟨rfl, H1⟩
  have bd0_1 : n0_1 ≤ 1048576 := by omega
  go_wp2_with fail
  refine (toReader (h0_1.ext (H1) (Nat.le_refl _)) (H1).size bd0_1).mono ?_
  rintro e w2 ⟨aA0_1, cA0_1, SA0_1, rfl, k2, oA0_1, mA0_1⟩
  have s2 : w1.heap.size + 0 ≤ w2.heap.size := by have := k2.size; omega
  have B0_2 := (k2.at (k := w.heap.size) (by omega) (by simp)).1
  have Z0_2 : w.heap.size < w2.heap.size := by omega
  have H2 : Chg [] w w2 := (H1).trans k2
  have lA0_1 := oA0_1.lt
  try simp only [World.size_alloc] at mA0_1
  go_wp2_with fail
  refine (s_TakeFrame (oA0_1.sl (lo := 0) (fun _ _ => Nat.zero_le _) oA0_1.lt) (Nat.le_refl _) bd0_1 (by omega) g0_1).mono ?_
  rintro e w3 ⟨vs0, rfl, k3, hs0⟩
  have s3 : w2.heap.size + 0 ≤ w3.heap.size := by have := k3.size; omega
  have B0_3 := (k3.at (k := w.heap.size) (by omega) (by simp)).1
  have Z0_3 : w.heap.size < w3.heap.size := by omega
  have H3 : Chg [] w w3 := (H2).trans k3
  have oA0_1_3 := oA0_1.ext k3
  obtain ⟨as01, ns01, cs01, Ss01, rfl, os01, ms01⟩ := hs0
  have ls01 := os01.lt
  try simp only [World.size_alloc] at ms01
  go_wp2_with fail
  refine (toReader (h0_1.ext ((H3).alloc _) (Nat.le_refl _)) ((H3).alloc _).size bd0_1).mono ?_
  rintro e w4 ⟨ab0_1, cb0_1, Sb0_1, rfl, k4, ob0_1, mb0_1⟩
  have s4 : w3.heap.size + 1 ≤ w4.heap.size := by have := k4.size; simp only [World.size_alloc] at this; omega
  have B0_4 := (k4.at (k := w.heap.size) (by simp only [World.size_alloc]; omega) (by simp)).1
  have Z0_4 : w.heap.size < w4.heap.size := by omega
  have B1_4 := (k4.at (k := w3.heap.size) (by simp only [World.size_alloc]; omega) (by simp)).1
  have Z1_4 : w3.heap.size < w4.heap.size := by omega
  have H4 : Chg [] w w4 := ((H3).alloc _).trans k4
  have os01_4 := (os01.ext ((Chg.refl _ _).alloc _)).ext k4
  have lb0_1 := ob0_1.lt
  try simp only [World.size_alloc] at mb0_1
  go_wp2_with fail
  refine (i_TakeFrame ((ob0_1.ext ((Chg.refl _ _).alloc _)).sl (lo := 0) (fun _ _ => Nat.zero_le _) (ob0_1.ext ((Chg.refl _ _).alloc _)).lt) (Nat.le_refl _) bd0_1 (by omega) g0_1).mono ?_
  rintro e w5 ⟨vg0, rfl, k5, hg0⟩
  have s5 : w4.heap.size + 1 ≤ w5.heap.size := by have := k5.size; simp only [World.size_alloc] at this; omega
  have B0_5 := (k5.at (k := w.heap.size) (by simp only [World.size_alloc]; omega) (by simp)).1
  have Z0_5 : w.heap.size < w5.heap.size := by omega
  have B1_5 := (k5.at (k := w3.heap.size) (by simp only [World.size_alloc]; omega) (by simp)).1
  have Z1_5 : w3.heap.size < w5.heap.size := by omega
  have B2_5 := (k5.at (k := w4.heap.size) (by simp only [World.size_alloc]; omega) (by simp)).1
  have Z2_5 : w4.heap.size < w5.heap.size := by omega
  have H5 : Chg [] w w5 := ((H4).alloc _).trans k5
  have os01_5 := (os01_4.ext ((Chg.refl _ _).alloc _)).ext k5
  have ob0_1_5 := (ob0_1.ext ((Chg.refl _ _).alloc _)).ext k5
  obtain ⟨ag01, ng01, cg01, Sg01, rfl, og01, mg01⟩ := hg0
  have lg01 := og01.lt
  try simp only [World.size_alloc] at mg01
  obtain rfl : ns01 = ng01 := (og01.same_n os01_5).symm
  go_wp2_with fail
  refine (eqReader ((og01.ext ((Chg.refl _ _).alloc _)).sl (lo := 0) (fun _ _ => Nat.zero_le _) (og01.ext ((Chg.refl _ _).alloc _)).lt) ((os01_5.ext ((Chg.refl _ _).alloc _)).sl (lo := 0) (fun _ _ => Nat.zero_le _) (os01_5.ext ((Chg.refl _ _).alloc _)).lt) (Nat.le_refl _) (Nat.le_refl _)).mono ?_
  rintro e w6 ⟨rfl, k6⟩
  have s6 : w5.heap.size + 1 ≤ w6.heap.size := by have := k6.size; simp only [World.size_alloc] at this; omega
  have B0_6 := (k6.at (k := w.heap.size) (by simp only [World.size_alloc]; omega) (by simp)).1
  have Z0_6 : w.heap.size < w6.heap.size := by omega
  have B1_6 := (k6.at (k := w3.heap.size) (by simp only [World.size_alloc]; omega) (by simp)).1
  have Z1_6 : w3.heap.size < w6.heap.size := by omega
  have B2_6 := (k6.at (k := w4.heap.size) (by simp only [World.size_alloc]; omega) (by simp)).1
  have Z2_6 : w4.heap.size < w6.heap.size := by omega
  have B3_6 := (k6.at (k := w5.heap.size) (by simp only [World.size_alloc]; omega) (by simp)).1
  have Z3_6 : w5.heap.size < w6.heap.size := by omega
  have H6 : Chg [] w w6 := ((H5).alloc _).trans k6
  have os01_6 := (os01_5.ext ((Chg.refl _ _).alloc _)).ext k6
  have ob0_1_6 := (ob0_1_5.ext ((Chg.refl _ _).alloc _)).ext k6
  have og01_6 := (og01.ext ((Chg.refl _ _).alloc _)).ext k6
  go_wp2
  refine wp_region_rel 5 (fun i => match i with | 2 => some (IsReader 0 x0_0 x0_2 zs0_1) | _ => none) (by kernel_rfl) (by kernel_rfl) (by decide) ?_
  simp only [List.map_cons, List.map_nil, List.take_succ_cons, List.take_zero]
  repeat
    refine wpRel_det rfl rfl (fun K hK => ?_)
    apply Exists.intro
    refine ⟨fun w' hw' => ?_, ?_⟩
    · repeat (first | (with_reducible refine Fills_val ?_) | ((with_reducible refine Fills_no ?_ ?_); (focus rfl)))
      with_reducible refine Fills_end ?_
      have C1 := hw'.cells.1
      go_simp
      try rw [if_neg (by omega)]
      first
        | (fail)
        | exact ⟨rfl, Chg.refl _ _⟩
    go_simp
    refine hK _ ?_
    clear hK K
  refine wpRel_rel rfl rfl IsReader.keep (fun w' hw' => ?_) (fun K hK => ?_)
  · repeat (first | (with_reducible refine Fills_val ?_) | ((with_reducible refine Fills_no ?_ ?_); (focus rfl)))
    with_reducible refine Fills_end ?_
    have C1 := hw'.cells.1
    go_simp
    (go_at_call 16; refine (toReader (h0_1.ext ((H6).trans hw') (Nat.le_refl _)) ((H6).trans hw').size bd0_1).mono ?_; rintro e wy ⟨ya0_1, ye0_1, yS0_1, rfl, ky, yo0_1, ym0_1⟩; exact ⟨_, rfl, ⟨ya0_1, n0_1, ye0_1, yS0_1, rfl, yo0_1, (fun _ _ => Nat.zero_le _)⟩, ky⟩)
  go_simp
  refine hK _ ?_
  clear hK K
  refine wpRel_det rfl rfl (fun K hK => ?_)
  apply Exists.intro
  refine ⟨fun w' hw' => ?_, ?_⟩
  · repeat (first | (with_reducible refine Fills_val ?_) | ((with_reducible refine Fills_no ?_ ?_); (focus rfl)))
    with_reducible refine Fills_yes ?_ (fun v1 hv1 => ?_)
    · rfl
    repeat (first | (with_reducible refine Fills_val ?_) | ((with_reducible refine Fills_no ?_ ?_); (focus rfl)))
    have C1 := hw'.cells.1
    (obtain ⟨pa0_1, pn0_1, pc0_1, pS0_1, rfl, po0_1, pm0_1⟩ := hv1; obtain rfl : n0_1 = pn0_1 := (ob0_1_6).same_n po0_1)
    with_reducible refine Fills_end ?_
    go_simp
    try rw [if_neg (by omega)]
    (go_at_call 18; exact step_call (eqReader (((ob0_1_6).ext hw').sl (lo := 0) (fun _ _ => Nat.zero_le _) ((ob0_1_6).ext hw').lt) (po0_1.sl (lo := 0) (fun _ _ => Nat.zero_le _) po0_1.lt) (Nat.le_refl _) (Nat.le_refl _)))
  go_simp
  refine hK _ ?_
  clear hK K
  repeat
    refine wpRel_det rfl rfl (fun K hK => ?_)
    apply Exists.intro
    refine ⟨fun w' hw' => ?_, ?_⟩
    · repeat (first | (with_reducible refine Fills_val ?_) | ((with_reducible refine Fills_no ?_ ?_); (focus rfl)))
      with_reducible refine Fills_end ?_
      have C1 := hw'.cells.1
      go_simp
      try rw [if_neg (by omega)]
      first
        | (fail)
        | exact ⟨rfl, Chg.refl _ _⟩
    go_simp
    refine hK _ ?_
    clear hK K
  refine wpRel_nil (fun w7 k7 _ => ?_)
  repeat (with_reducible refine Fills_val ?_)
  with_reducible refine Fills_yes ?_ (fun vy hvy => ?_)
  · rfl
  repeat (with_reducible refine Fills_val ?_)
  with_reducible refine Fills_end ?_
  simp only [List.drop_succ_cons, List.drop_zero]
  clear hvy
  have s7 : w6.heap.size + 0 ≤ w7.heap.size := by have := k7.size; omega
  have B0_7 := (k7.at (k := w.heap.size) (by omega) (by simp)).1
  have Z0_7 : w.heap.size < w7.heap.size := by omega
  have B1_7 := (k7.at (k := w3.heap.size) (by omega) (by simp)).1
  have Z1_7 : w3.heap.size < w7.heap.size := by omega
  have B2_7 := (k7.at (k := w4.heap.size) (by omega) (by simp)).1
  have Z2_7 : w4.heap.size < w7.heap.size := by omega
  have B3_7 := (k7.at (k := w5.heap.size) (by omega) (by simp)).1
  have Z3_7 : w5.heap.size < w7.heap.size := by omega
  have H7 : Chg [] w w7 := (H6).trans k7
  have os01_7 := os01_6.ext k7
  have ob0_1_7 := ob0_1_6.ext k7
  have og01_7 := og01_6.ext k7
  have bd := tfL_len x0_0 zs0_1 x0_2
  have bl := h0_1.length
  have bnns01 : ns01 ≤ (tfL x0_0 zs0_1 x0_2).length := Nat.le_of_eq og01.length.symm
  go_wp2_with fail
  refine (markReader (k := 1) ob0_1_7  (by omega) (by omega)).mono ?_
  rintro e w8 ⟨rfl, k8, nob0_1⟩
  have s8 : w7.heap.size + 0 ≤ w8.heap.size := by have := k8.size; omega
  have B0_8 := (k8.at (k := w.heap.size) (by omega) (fun hx => by have g1 := mb0_1 _ hx; have g2 := lb0_1 _ hx; omega)).1
  have Z0_8 : w.heap.size < w8.heap.size := by omega
  have B1_8 := (k8.at (k := w3.heap.size) (by omega) (fun hx => by have g1 := mb0_1 _ hx; have g2 := lb0_1 _ hx; omega)).1
  have Z1_8 : w3.heap.size < w8.heap.size := by omega
  have B2_8 := (k8.at (k := w4.heap.size) (by omega) (fun hx => by have g1 := mb0_1 _ hx; have g2 := lb0_1 _ hx; omega)).1
  have Z2_8 : w4.heap.size < w8.heap.size := by omega
  have B3_8 := (k8.at (k := w5.heap.size) (by omega) (fun hx => by have g1 := mb0_1 _ hx; have g2 := lb0_1 _ hx; omega)).1
  have Z3_8 : w5.heap.size < w8.heap.size := by omega
  have H8 : Chg [] w w8 := (H7).trans' k8 (fun x hx => Or.inr (by have g1 := mb0_1 _ hx; have g2 := lb0_1 _ hx; omega))
  have os01_8 := os01_7.chg k8 (fun x h1 h2 => by first | (have g1 := ms01 x h1; have g2 := ls01 x h1; have g3 := mb0_1 x h2; have g4 := lb0_1 x h2; omega))
  have og01_8 := og01_7.chg k8 (fun x h1 h2 => by first | (have g1 := mg01 x h1; have g2 := lg01 x h1; have g3 := mb0_1 x h2; have g4 := lb0_1 x h2; omega))
  have y8 : ¬ 1 + (n0_1 : Int) < 0 := by omega
  go_wp2_with fail
  refine (eqReader (og01_8.sl (lo := 0) (fun _ _ => Nat.zero_le _) og01_8.lt) (os01_8.sl (lo := 0) (fun _ _ => Nat.zero_le _) os01_8.lt) (Nat.le_refl _) (Nat.le_refl _)).mono ?_
  rintro e w9 ⟨rfl, k9⟩
  have s9 : w8.heap.size + 0 ≤ w9.heap.size := by have := k9.size; omega
  have B0_9 := (k9.at (k := w.heap.size) (by omega) (by simp)).1
  have Z0_9 : w.heap.size < w9.heap.size := by omega
  have B1_9 := (k9.at (k := w3.heap.size) (by omega) (by simp)).1
  have Z1_9 : w3.heap.size < w9.heap.size := by omega
  have B2_9 := (k9.at (k := w4.heap.size) (by omega) (by simp)).1
  have Z2_9 : w4.heap.size < w9.heap.size := by omega
  have B3_9 := (k9.at (k := w5.heap.size) (by omega) (by simp)).1
  have Z3_9 : w5.heap.size < w9.heap.size := by omega
  have H9 : Chg [] w w9 := (H8).trans k9
  have os01_9 := os01_8.ext k9
  have ob0_1_9 := nob0_1.ext k9
  have og01_9 := og01_8.ext k9
  go_wp2_with fail
  refine (markReader (k := 1) og01_9  (by omega) (by omega)).mono ?_
  rintro e w10 ⟨rfl, k10, nog01⟩
  have s10 : w9.heap.size + 0 ≤ w10.heap.size := by have := k10.size; omega
  have B0_10 := (k10.at (k := w.heap.size) (by omega) (fun hx => by have g1 := mg01 _ hx; have g2 := lg01 _ hx; omega)).1
  have Z0_10 : w.heap.size < w10.heap.size := by omega
  have B1_10 := (k10.at (k := w3.heap.size) (by omega) (fun hx => by have g1 := mg01 _ hx; have g2 := lg01 _ hx; omega)).1
  have Z1_10 : w3.heap.size < w10.heap.size := by omega
  have B2_10 := (k10.at (k := w4.heap.size) (by omega) (fun hx => by have g1 := mg01 _ hx; have g2 := lg01 _ hx; omega)).1
  have Z2_10 : w4.heap.size < w10.heap.size := by omega
  have B3_10 := (k10.at (k := w5.heap.size) (by omega) (fun hx => by have g1 := mg01 _ hx; have g2 := lg01 _ hx; omega)).1
  have Z3_10 : w5.heap.size < w10.heap.size := by omega
  have H10 : Chg [] w w10 := (H9).trans' k10 (fun x hx => Or.inr (by have g1 := mg01 _ hx; have g2 := lg01 _ hx; omega))
  have os01_10 := os01_9.chg k10 (fun x h1 h2 => by first | (have g1 := ms01 x h1; have g2 := ls01 x h1; have g3 := mg01 x h2; have g4 := lg01 x h2; omega))
  go_wp2_with fail
  refine (heldReader (k := 1) (nog01.sl (lo := 0) (fun _ _ => Nat.zero_le _) nog01.lt) (Nat.le_refl _) (by omega) (by omega)).mono ?_
  rintro e w11 ⟨rfl, k11⟩
  have s11 : w10.heap.size + 0 ≤ w11.heap.size := by have := k11.size; omega
  have B0_11 := (k11.at (k := w.heap.size) (by omega) (by simp)).1
  have Z0_11 : w.heap.size < w11.heap.size := by omega
  have B1_11 := (k11.at (k := w3.heap.size) (by omega) (by simp)).1
  have Z1_11 : w3.heap.size < w11.heap.size := by omega
  have B2_11 := (k11.at (k := w4.heap.size) (by omega) (by simp)).1
  have Z2_11 : w4.heap.size < w11.heap.size := by omega
  have B3_11 := (k11.at (k := w5.heap.size) (by omega) (by simp)).1
  have Z3_11 : w5.heap.size < w11.heap.size := by omega
  have H11 : Chg [] w w11 := (H10).trans k11
  have os01_11 := os01_10.ext k11
  have og01_11 := nog01.ext k11
  have y11 : ¬ 1 + (ns01 : Int) < 0 := by omega
  go_wp2_with fail
  refine (toReader (h0_1.ext (H11) (Nat.le_refl _)) (H11).size bd0_1).mono ?_
  rintro e w12 ⟨aC0_1, cC0_1, SC0_1, rfl, k12, oC0_1, mC0_1⟩
  have s12 : w11.heap.size + 0 ≤ w12.heap.size := by have := k12.size; omega
  have B0_12 := (k12.at (k := w.heap.size) (by omega) (by simp)).1
  have Z0_12 : w.heap.size < w12.heap.size := by omega
  have B1_12 := (k12.at (k := w3.heap.size) (by omega) (by simp)).1
  have Z1_12 : w3.heap.size < w12.heap.size := by omega
  have B2_12 := (k12.at (k := w4.heap.size) (by omega) (by simp)).1
  have Z2_12 : w4.heap.size < w12.heap.size := by omega
  have B3_12 := (k12.at (k := w5.heap.size) (by omega) (by simp)).1
  have Z3_12 : w5.heap.size < w12.heap.size := by omega
  have H12 : Chg [] w w12 := (H11).trans k12
  have os01_12 := os01_11.ext k12
  have og01_12 := og01_11.ext k12
  have lC0_1 := oC0_1.lt
  try simp only [World.size_alloc] at mC0_1
  go_wp2_with fail
  refine (i_TakeFrame (oC0_1.sl (lo := 0) (fun _ _ => Nat.zero_le _) oC0_1.lt) (Nat.le_refl _) bd0_1 (by omega) g0_1).mono ?_
  rintro e w13 ⟨vh0, rfl, k13, hh0⟩
  have s13 : w12.heap.size + 0 ≤ w13.heap.size := by have := k13.size; omega
  have B0_13 := (k13.at (k := w.heap.size) (by omega) (by simp)).1
  have Z0_13 : w.heap.size < w13.heap.size := by omega
  have B1_13 := (k13.at (k := w3.heap.size) (by omega) (by simp)).1
  have Z1_13 : w3.heap.size < w13.heap.size := by omega
  have B2_13 := (k13.at (k := w4.heap.size) (by omega) (by simp)).1
  have Z2_13 : w4.heap.size < w13.heap.size := by omega
  have B3_13 := (k13.at (k := w5.heap.size) (by omega) (by simp)).1
  have Z3_13 : w5.heap.size < w13.heap.size := by omega
  have H13 : Chg [] w w13 := (H12).trans k13
  have os01_13 := os01_12.ext k13
  have og01_13 := og01_12.ext k13
  have oC0_1_13 := oC0_1.ext k13
  obtain ⟨ah01, nh01, ch01, Sh01, rfl, oh01, mh01⟩ := hh0
  have lh01 := oh01.lt
  try simp only [World.size_alloc] at mh01
  obtain rfl : ns01 = nh01 := (oh01.same_n os01_13).symm
  go_wp2_with fail
  refine (eqReader ((oh01.ext ((Chg.refl _ _).alloc _)).sl (lo := 0) (fun _ _ => Nat.zero_le _) (oh01.ext ((Chg.refl _ _).alloc _)).lt) ((os01_13.ext ((Chg.refl _ _).alloc _)).sl (lo := 0) (fun _ _ => Nat.zero_le _) (os01_13.ext ((Chg.refl _ _).alloc _)).lt) (Nat.le_refl _) (Nat.le_refl _)).mono ?_
  rintro e w14 ⟨rfl, k14⟩
  have s14 : w13.heap.size + 1 ≤ w14.heap.size := by have := k14.size; simp only [World.size_alloc] at this; omega
  have B0_14 := (k14.at (k := w.heap.size) (by simp only [World.size_alloc]; omega) (by simp)).1
  have Z0_14 : w.heap.size < w14.heap.size := by omega
  have B1_14 := (k14.at (k := w3.heap.size) (by simp only [World.size_alloc]; omega) (by simp)).1
  have Z1_14 : w3.heap.size < w14.heap.size := by omega
  have B2_14 := (k14.at (k := w4.heap.size) (by simp only [World.size_alloc]; omega) (by simp)).1
  have Z2_14 : w4.heap.size < w14.heap.size := by omega
  have B3_14 := (k14.at (k := w5.heap.size) (by simp only [World.size_alloc]; omega) (by simp)).1
  have Z3_14 : w5.heap.size < w14.heap.size := by omega
  have B4_14 := (k14.at (k := w13.heap.size) (by simp only [World.size_alloc]; omega) (by simp)).1
  have Z4_14 : w13.heap.size < w14.heap.size := by omega
  have H14 : Chg [] w w14 := ((H13).alloc _).trans k14
  have os01_14 := (os01_13.ext ((Chg.refl _ _).alloc _)).ext k14
  have og01_14 := (og01_13.ext ((Chg.refl _ _).alloc _)).ext k14
  have oh01_14 := (oh01.ext ((Chg.refl _ _).alloc _)).ext k14
  go_wp2_with fail
  refine (heldReader (k := 1) (og01_14.sl (lo := 0) (fun _ _ => Nat.zero_le _) og01_14.lt) (Nat.le_refl _) (by omega) (by omega)).mono ?_
  rintro e w15 ⟨rfl, k15⟩
  have s15 : w14.heap.size + 0 ≤ w15.heap.size := by have := k15.size; omega
  have B0_15 := (k15.at (k := w.heap.size) (by omega) (by simp)).1
  have Z0_15 : w.heap.size < w15.heap.size := by omega
  have B1_15 := (k15.at (k := w3.heap.size) (by omega) (by simp)).1
  have Z1_15 : w3.heap.size < w15.heap.size := by omega
  have B2_15 := (k15.at (k := w4.heap.size) (by omega) (by simp)).1
  have Z2_15 : w4.heap.size < w15.heap.size := by omega
  have B3_15 := (k15.at (k := w5.heap.size) (by omega) (by simp)).1
  have Z3_15 : w5.heap.size < w15.heap.size := by omega
  have B4_15 := (k15.at (k := w13.heap.size) (by omega) (by simp)).1
  have Z4_15 : w13.heap.size < w15.heap.size := by omega
  have H15 : Chg [] w w15 := (H14).trans k15
  have os01_15 := os01_14.ext k15
  have og01_15 := og01_14.ext k15
  have oh01_15 := oh01_14.ext k15
  have y15 : ¬ 1 + (ns01 : Int) < 0 := by omega
  go_wp2
  go_ret
  exact ⟨rfl, H15⟩
end Go.Proofs.Ytohoggoggchaeaa
