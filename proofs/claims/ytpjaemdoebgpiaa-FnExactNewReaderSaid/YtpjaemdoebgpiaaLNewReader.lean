/- The walk of laws.FnExactNewReader; written by gen_exact.py -/
import Derived.Test.YtpjaemdoebgpiaaNewReader
namespace Go.Proofs.Ytpjaemdoebgpiaa
open Go.ChangeShapes Go.WideShapes Go.ChangeAt Go.RowKit
set_option linter.unusedVariables false

set_option maxHeartbeats 4000000 in
theorem walk_FnExactNewReader  (w : World) :
    Calls Try.prog 5 #[] w fun e w' => e = .returned (.bool true) ∧ Chg [] w w' := by
  go_enter Try.func5, Try.ntmps5
  go_wp2_with fail
  refine (s_NewReader ).mono ?_
  rintro e w1 ⟨vs0, rfl, k1, hs0⟩
  have s1 : w.heap.size + 0 ≤ w1.heap.size := by have := k1.size; omega
  have H1 : Chg [] w w1 := (Chg.refl [] w).trans k1
  obtain ⟨as01, ns01, cs01, Ss01, rfl, os01, ms01⟩ := hs0
  have ls01 := os01.lt
  try simp only [World.size_alloc] at ms01
  go_wp2_with fail
  refine (i_NewReader ).mono ?_
  rintro e w2 ⟨vg0, rfl, k2, hg0⟩
  have s2 : w1.heap.size + 1 ≤ w2.heap.size := by have := k2.size; simp only [World.size_alloc] at this; omega
  have B0_2 := (k2.at (k := w1.heap.size) (by simp only [World.size_alloc]; omega) (by simp)).1
  have Z0_2 : w1.heap.size < w2.heap.size := by omega
  have H2 : Chg [] w w2 := ((H1).alloc _).trans k2
  have os01_2 := (os01.ext ((Chg.refl _ _).alloc _)).ext k2
  obtain ⟨ag01, ng01, cg01, Sg01, rfl, og01, mg01⟩ := hg0
  have lg01 := og01.lt
  try simp only [World.size_alloc] at mg01
  obtain rfl : ns01 = ng01 := (og01.same_n os01_2).symm
  go_wp2_with fail
  refine (eqReader ((og01.ext ((Chg.refl _ _).alloc _)).sl (lo := 0) (fun _ _ => Nat.zero_le _) (og01.ext ((Chg.refl _ _).alloc _)).lt) ((os01_2.ext ((Chg.refl _ _).alloc _)).sl (lo := 0) (fun _ _ => Nat.zero_le _) (os01_2.ext ((Chg.refl _ _).alloc _)).lt) (Nat.le_refl _) (Nat.le_refl _)).mono ?_
  rintro e w3 ⟨rfl, k3⟩
  have s3 : w2.heap.size + 1 ≤ w3.heap.size := by have := k3.size; simp only [World.size_alloc] at this; omega
  have B0_3 := (k3.at (k := w1.heap.size) (by simp only [World.size_alloc]; omega) (by simp)).1
  have Z0_3 : w1.heap.size < w3.heap.size := by omega
  have B1_3 := (k3.at (k := w2.heap.size) (by simp only [World.size_alloc]; omega) (by simp)).1
  have Z1_3 : w2.heap.size < w3.heap.size := by omega
  have H3 : Chg [] w w3 := ((H2).alloc _).trans k3
  have os01_3 := (os01_2.ext ((Chg.refl _ _).alloc _)).ext k3
  have og01_3 := (og01.ext ((Chg.refl _ _).alloc _)).ext k3
  have bn01 : ns01 ≤ 1 := by have := og01.len; simp at this; omega
  go_wp2_with fail
  refine (markReader (k := 1) og01_3  (by omega) (by omega)).mono ?_
  rintro e w4 ⟨rfl, k4, nog01⟩
  have s4 : w3.heap.size + 0 ≤ w4.heap.size := by have := k4.size; omega
  have B0_4 := (k4.at (k := w1.heap.size) (by omega) (fun hx => by have g1 := mg01 _ hx; have g2 := lg01 _ hx; omega)).1
  have Z0_4 : w1.heap.size < w4.heap.size := by omega
  have B1_4 := (k4.at (k := w2.heap.size) (by omega) (fun hx => by have g1 := mg01 _ hx; have g2 := lg01 _ hx; omega)).1
  have Z1_4 : w2.heap.size < w4.heap.size := by omega
  have H4 : Chg [] w w4 := (H3).trans' k4 (fun x hx => Or.inr (by have g1 := mg01 _ hx; have g2 := lg01 _ hx; omega))
  have os01_4 := os01_3.chg k4 (fun x h1 h2 => by first | (have g1 := ms01 x h1; have g2 := ls01 x h1; have g3 := mg01 x h2; have g4 := lg01 x h2; omega))
  go_wp2_with fail
  refine (heldReader (k := 1) (nog01.sl (lo := 0) (fun _ _ => Nat.zero_le _) nog01.lt) (Nat.le_refl _) (by omega) (by omega)).mono ?_
  rintro e w5 ⟨rfl, k5⟩
  have s5 : w4.heap.size + 0 ≤ w5.heap.size := by have := k5.size; omega
  have B0_5 := (k5.at (k := w1.heap.size) (by omega) (by simp)).1
  have Z0_5 : w1.heap.size < w5.heap.size := by omega
  have B1_5 := (k5.at (k := w2.heap.size) (by omega) (by simp)).1
  have Z1_5 : w2.heap.size < w5.heap.size := by omega
  have H5 : Chg [] w w5 := (H4).trans k5
  have os01_5 := os01_4.ext k5
  have og01_5 := nog01.ext k5
  have y5 : ¬ 1 + (ns01 : Int) < 0 := by omega
  go_wp2_with fail
  refine (i_NewReader ).mono ?_
  rintro e w6 ⟨vh0, rfl, k6, hh0⟩
  have s6 : w5.heap.size + 0 ≤ w6.heap.size := by have := k6.size; omega
  have B0_6 := (k6.at (k := w1.heap.size) (by omega) (by simp)).1
  have Z0_6 : w1.heap.size < w6.heap.size := by omega
  have B1_6 := (k6.at (k := w2.heap.size) (by omega) (by simp)).1
  have Z1_6 : w2.heap.size < w6.heap.size := by omega
  have H6 : Chg [] w w6 := (H5).trans k6
  have os01_6 := os01_5.ext k6
  have og01_6 := og01_5.ext k6
  obtain ⟨ah01, nh01, ch01, Sh01, rfl, oh01, mh01⟩ := hh0
  have lh01 := oh01.lt
  try simp only [World.size_alloc] at mh01
  obtain rfl : ns01 = nh01 := (oh01.same_n os01_6).symm
  go_wp2_with fail
  refine (eqReader ((oh01.ext ((Chg.refl _ _).alloc _)).sl (lo := 0) (fun _ _ => Nat.zero_le _) (oh01.ext ((Chg.refl _ _).alloc _)).lt) ((os01_6.ext ((Chg.refl _ _).alloc _)).sl (lo := 0) (fun _ _ => Nat.zero_le _) (os01_6.ext ((Chg.refl _ _).alloc _)).lt) (Nat.le_refl _) (Nat.le_refl _)).mono ?_
  rintro e w7 ⟨rfl, k7⟩
  have s7 : w6.heap.size + 1 ≤ w7.heap.size := by have := k7.size; simp only [World.size_alloc] at this; omega
  have B0_7 := (k7.at (k := w1.heap.size) (by simp only [World.size_alloc]; omega) (by simp)).1
  have Z0_7 : w1.heap.size < w7.heap.size := by omega
  have B1_7 := (k7.at (k := w2.heap.size) (by simp only [World.size_alloc]; omega) (by simp)).1
  have Z1_7 : w2.heap.size < w7.heap.size := by omega
  have B2_7 := (k7.at (k := w6.heap.size) (by simp only [World.size_alloc]; omega) (by simp)).1
  have Z2_7 : w6.heap.size < w7.heap.size := by omega
  have H7 : Chg [] w w7 := ((H6).alloc _).trans k7
  have os01_7 := (os01_6.ext ((Chg.refl _ _).alloc _)).ext k7
  have og01_7 := (og01_6.ext ((Chg.refl _ _).alloc _)).ext k7
  have oh01_7 := (oh01.ext ((Chg.refl _ _).alloc _)).ext k7
  go_wp2_with fail
  refine (heldReader (k := 1) (og01_7.sl (lo := 0) (fun _ _ => Nat.zero_le _) og01_7.lt) (Nat.le_refl _) (by omega) (by omega)).mono ?_
  rintro e w8 ⟨rfl, k8⟩
  have s8 : w7.heap.size + 0 ≤ w8.heap.size := by have := k8.size; omega
  have B0_8 := (k8.at (k := w1.heap.size) (by omega) (by simp)).1
  have Z0_8 : w1.heap.size < w8.heap.size := by omega
  have B1_8 := (k8.at (k := w2.heap.size) (by omega) (by simp)).1
  have Z1_8 : w2.heap.size < w8.heap.size := by omega
  have B2_8 := (k8.at (k := w6.heap.size) (by omega) (by simp)).1
  have Z2_8 : w6.heap.size < w8.heap.size := by omega
  have H8 : Chg [] w w8 := (H7).trans k8
  have os01_8 := os01_7.ext k8
  have og01_8 := og01_7.ext k8
  have oh01_8 := oh01_7.ext k8
  have y8 : ¬ 1 + (ns01 : Int) < 0 := by omega
  go_wp2
  go_ret
  exact ⟨rfl, H8⟩
end Go.Proofs.Ytpjaemdoebgpiaa
