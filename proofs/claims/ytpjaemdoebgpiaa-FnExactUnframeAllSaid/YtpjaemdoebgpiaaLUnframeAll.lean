/- The walk of laws.FnExactUnframeAll; written by gen_exact.py -/
import Derived.Test.YtpjaemdoebgpiaaUnframe
namespace Go.Proofs.Ytpjaemdoebgpiaa
open Go.ChangeShapes Go.WideShapes Go.ChangeAt Go.RowKit
set_option linter.unusedVariables false

set_option maxHeartbeats 4000000 in
theorem walk_FnExactUnframeAll (a0 : List UInt8) (q0 : a0.length ≤ 9223372036854775807) (w : World) :
    Calls Try.prog 7 #[.string ⟨a0.toArray⟩] w fun e w' => e = .returned (.bool true) ∧ Chg [] w w' := by
  by_cases z0 : 1048576 < a0.length
  · go_enter Try.func7, Try.ntmps7
    go_wp2
    go_ret
    exact ⟨rfl, Chg.refl _ _⟩
  · go_enter Try.func7, Try.ntmps7
    go_wp2_with fail
    refine (s_UnframeAll q0).mono ?_
    rintro e w1 ⟨vs0, rfl, k1, hs0⟩
    have s1 : w.heap.size + 0 ≤ w1.heap.size := by have := k1.size; omega
    have H1 : Chg [] w w1 := (Chg.refl [] w).trans k1
    obtain ⟨as0, ns0, cs0, Ss0, rfl, os0, ms0⟩ := hs0
    have ls0 := os0.lt
    try simp only [World.size_alloc] at ms0
    go_wp2_with fail
    refine (i_UnframeAll q0).mono ?_
    rintro e w2 ⟨vg0, rfl, k2, hg0⟩
    have s2 : w1.heap.size + 0 ≤ w2.heap.size := by have := k2.size; omega
    have H2 : Chg [] w w2 := (H1).trans k2
    have os0_2 := os0.ext k2
    obtain ⟨ag0, ng0, cg0, Sg0, rfl, og0, mg0⟩ := hg0
    have lg0 := og0.lt
    try simp only [World.size_alloc] at mg0
    obtain rfl : ns0 = ng0 := (og0.same_n os0_2).symm
    go_wp2_with fail
    refine (eqStrs (og0.sl (lo := 0) (fun _ _ => Nat.zero_le _) og0.lt) (os0_2.sl (lo := 0) (fun _ _ => Nat.zero_le _) os0_2.lt)).mono ?_
    rintro e w3 ⟨he, q3⟩; simp only [decide_true] at he; subst he; have k3 := q3.chg []
    have s3 : w2.heap.size + 0 ≤ w3.heap.size := by have := k3.size; omega
    have H3 : Chg [] w w3 := (H2).trans k3
    have os0_3 := os0_2.ext k3
    have og0_3 := og0.ext k3
    have bd := uaR_len a0
    have bn0 : ns0 ≤ ((uaR a0).1).length := Nat.le_of_eq og0.length.symm
    go_wp2_with fail
    refine (markStrs (k := 1) og0_3 (by omega) (by omega)).mono ?_
    rintro e w4 ⟨rfl, k4, nog0⟩
    have s4 : w3.heap.size + 0 ≤ w4.heap.size := by have := k4.size; omega
    have H4 : Chg [] w w4 := (H3).trans' k4 (fun x hx => Or.inr (by have g1 := mg0 _ hx; have g2 := lg0 _ hx; omega))
    have os0_4 := os0_3.chg k4 (fun x h1 h2 => by first | (have g1 := ms0 x h1; have g2 := ls0 x h1; have g3 := mg0 x h2; have g4 := lg0 x h2; omega))
    go_wp2_with fail
    refine (heldStrs (k := 1) (nog0.sl (lo := 0) (fun _ _ => Nat.zero_le _) nog0.lt) (Nat.le_refl _) (by omega) (by omega)).mono ?_
    rintro e w5 ⟨rfl, k5⟩
    have s5 : w4.heap.size + 0 ≤ w5.heap.size := by have := k5.size; omega
    have H5 : Chg [] w w5 := (H4).trans k5
    have os0_5 := os0_4.ext k5
    have og0_5 := nog0.ext k5
    have y5 : ¬ 1 + (ns0 : Int) < 0 := by omega
    go_wp2_with fail
    refine (i_UnframeAll q0).mono ?_
    rintro e w6 ⟨vh0, rfl, k6, hh0⟩
    have s6 : w5.heap.size + 0 ≤ w6.heap.size := by have := k6.size; omega
    have H6 : Chg [] w w6 := (H5).trans k6
    have os0_6 := os0_5.ext k6
    have og0_6 := og0_5.ext k6
    obtain ⟨ah0, nh0, ch0, Sh0, rfl, oh0, mh0⟩ := hh0
    have lh0 := oh0.lt
    try simp only [World.size_alloc] at mh0
    obtain rfl : ns0 = nh0 := (oh0.same_n os0_6).symm
    go_wp2_with fail
    refine (eqStrs (oh0.sl (lo := 0) (fun _ _ => Nat.zero_le _) oh0.lt) (os0_6.sl (lo := 0) (fun _ _ => Nat.zero_le _) os0_6.lt)).mono ?_
    rintro e w7 ⟨he, q7⟩; simp only [decide_true] at he; subst he; have k7 := q7.chg []
    have s7 : w6.heap.size + 0 ≤ w7.heap.size := by have := k7.size; omega
    have H7 : Chg [] w w7 := (H6).trans k7
    have os0_7 := os0_6.ext k7
    have og0_7 := og0_6.ext k7
    have oh0_7 := oh0.ext k7
    go_wp2_with fail
    refine (heldStrs (k := 1) (og0_7.sl (lo := 0) (fun _ _ => Nat.zero_le _) og0_7.lt) (Nat.le_refl _) (by omega) (by omega)).mono ?_
    rintro e w8 ⟨rfl, k8⟩
    have s8 : w7.heap.size + 0 ≤ w8.heap.size := by have := k8.size; omega
    have H8 : Chg [] w w8 := (H7).trans k8
    have os0_8 := os0_7.ext k8
    have og0_8 := og0_7.ext k8
    have oh0_8 := oh0_7.ext k8
    have y8 : ¬ 1 + (ns0 : Int) < 0 := by omega
    go_wp2
    go_ret
    exact ⟨rfl, H8⟩
end Go.Proofs.Ytpjaemdoebgpiaa
