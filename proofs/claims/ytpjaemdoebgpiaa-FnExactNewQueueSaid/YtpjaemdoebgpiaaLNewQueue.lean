/- The walk of laws.FnExactNewQueue; written by gen_exact.py -/
import Derived.Test.YtpjaemdoebgpiaaNewQueue
namespace Go.Proofs.Ytpjaemdoebgpiaa
open Go.ChangeShapes Go.WideShapes Go.ChangeAt Go.RowKit
set_option linter.unusedVariables false

set_option maxHeartbeats 4000000 in
theorem walk_FnExactNewQueue (a0 : Int) (q0 : -9223372036854775808 ≤ a0 ∧ a0 ≤ 9223372036854775807) (a1 : Int) (q1 : -9223372036854775808 ≤ a1 ∧ a1 ≤ 9223372036854775807) (w : World) :
    Calls Try.prog 6 #[.int .i64 a0, .int .i64 a1] w fun e w' => e = .returned (.bool true) ∧ Chg [] w w' := by
  go_enter Try.func6, Try.ntmps6
  go_wp2_with fail
  refine (s_NewQueue a0 a1).mono ?_
  rintro e w1 ⟨vs0, rfl, k1, hs0⟩
  have s1 : w.heap.size + 0 ≤ w1.heap.size := by have := k1.size; omega
  have H1 : Chg [] w w1 := (Chg.refl [] w).trans k1
  obtain ⟨as03, ns03, cs03, Ss03, as04, ns04, cs04, Ss04, as05, ns05, cs05, Ss05, rfl, os03, ms03, os04, ms04, os05, ms05, Ds03_4, Ds03_5, Ds04_5⟩ := hs0
  have ls03 := os03.lt
  try simp only [World.size_alloc] at ms03
  have ls04 := os04.lt
  try simp only [World.size_alloc] at ms04
  have ls05 := os05.lt
  try simp only [World.size_alloc] at ms05
  go_wp2_with fail
  refine (i_NewQueue a0 a1).mono ?_
  rintro e w2 ⟨vg0, rfl, k2, hg0⟩
  have s2 : w1.heap.size + 1 ≤ w2.heap.size := by have := k2.size; simp only [World.size_alloc] at this; omega
  have B0_2 := (k2.at (k := w1.heap.size) (by simp only [World.size_alloc]; omega) (by simp)).1
  have Z0_2 : w1.heap.size < w2.heap.size := by omega
  have H2 : Chg [] w w2 := ((H1).alloc _).trans k2
  have os03_2 := (os03.ext ((Chg.refl _ _).alloc _)).ext k2
  have os04_2 := (os04.ext ((Chg.refl _ _).alloc _)).ext k2
  have os05_2 := (os05.ext ((Chg.refl _ _).alloc _)).ext k2
  obtain ⟨ag03, ng03, cg03, Sg03, ag04, ng04, cg04, Sg04, ag05, ng05, cg05, Sg05, rfl, og03, mg03, og04, mg04, og05, mg05, Dg03_4, Dg03_5, Dg04_5⟩ := hg0
  have lg03 := og03.lt
  try simp only [World.size_alloc] at mg03
  have lg04 := og04.lt
  try simp only [World.size_alloc] at mg04
  have lg05 := og05.lt
  try simp only [World.size_alloc] at mg05
  obtain rfl : ns03 = ng03 := (og03.same_n os03_2).symm
  obtain rfl : ns04 = ng04 := (og04.same_n os04_2).symm
  obtain rfl : ns05 = ng05 := (og05.same_n os05_2).symm
  go_wp2_with fail
  refine (eqQueue ((og03.ext ((Chg.refl _ _).alloc _)).sl (lo := 0) (fun _ _ => Nat.zero_le _) (og03.ext ((Chg.refl _ _).alloc _)).lt) ((os03_2.ext ((Chg.refl _ _).alloc _)).sl (lo := 0) (fun _ _ => Nat.zero_le _) (os03_2.ext ((Chg.refl _ _).alloc _)).lt) ((og04.ext ((Chg.refl _ _).alloc _)).sl (lo := 0) (fun _ _ => Nat.zero_le _) (og04.ext ((Chg.refl _ _).alloc _)).lt) ((os04_2.ext ((Chg.refl _ _).alloc _)).sl (lo := 0) (fun _ _ => Nat.zero_le _) (os04_2.ext ((Chg.refl _ _).alloc _)).lt) ((og05.ext ((Chg.refl _ _).alloc _)).sl (lo := 0) (fun _ _ => Nat.zero_le _) (og05.ext ((Chg.refl _ _).alloc _)).lt) ((os05_2.ext ((Chg.refl _ _).alloc _)).sl (lo := 0) (fun _ _ => Nat.zero_le _) (os05_2.ext ((Chg.refl _ _).alloc _)).lt) (Nat.le_refl _) (Nat.le_refl _)).mono ?_
  rintro e w3 ⟨rfl, k3⟩
  have s3 : w2.heap.size + 1 ≤ w3.heap.size := by have := k3.size; simp only [World.size_alloc] at this; omega
  have B0_3 := (k3.at (k := w1.heap.size) (by simp only [World.size_alloc]; omega) (by simp)).1
  have Z0_3 : w1.heap.size < w3.heap.size := by omega
  have B1_3 := (k3.at (k := w2.heap.size) (by simp only [World.size_alloc]; omega) (by simp)).1
  have Z1_3 : w2.heap.size < w3.heap.size := by omega
  have H3 : Chg [] w w3 := ((H2).alloc _).trans k3
  have os03_3 := (os03_2.ext ((Chg.refl _ _).alloc _)).ext k3
  have os04_3 := (os04_2.ext ((Chg.refl _ _).alloc _)).ext k3
  have os05_3 := (os05_2.ext ((Chg.refl _ _).alloc _)).ext k3
  have og03_3 := (og03.ext ((Chg.refl _ _).alloc _)).ext k3
  have og04_3 := (og04.ext ((Chg.refl _ _).alloc _)).ext k3
  have og05_3 := (og05.ext ((Chg.refl _ _).alloc _)).ext k3
  have bn03 : ns03 ≤ 1 := by have := og03.len; simp at this; omega
  have bn04 : ns04 ≤ 1 := by have := og04.len; simp at this; omega
  have bn05 : ns05 ≤ 1 := by have := og05.len; simp at this; omega
  go_wp2_with fail
  refine (markQueue (k := 1) og03_3 og04_3 og05_3 Dg03_4 Dg03_5 Dg04_5 (by omega) (by omega)).mono ?_
  rintro e w4 ⟨rfl, k4, nog03, nog04, nog05⟩
  have s4 : w3.heap.size + 0 ≤ w4.heap.size := by have := k4.size; omega
  have B0_4 := (k4.at (k := w1.heap.size) (by omega) (fun hx => by simp only [List.mem_append] at hx; rcases hx with ((hx | hx) | hx) <;> (first | (have g1 := mg03 _ hx; have g2 := lg03 _ hx; omega) | (have g1 := mg04 _ hx; have g2 := lg04 _ hx; omega) | (have g1 := mg05 _ hx; have g2 := lg05 _ hx; omega)))).1
  have Z0_4 : w1.heap.size < w4.heap.size := by omega
  have B1_4 := (k4.at (k := w2.heap.size) (by omega) (fun hx => by simp only [List.mem_append] at hx; rcases hx with ((hx | hx) | hx) <;> (first | (have g1 := mg03 _ hx; have g2 := lg03 _ hx; omega) | (have g1 := mg04 _ hx; have g2 := lg04 _ hx; omega) | (have g1 := mg05 _ hx; have g2 := lg05 _ hx; omega)))).1
  have Z1_4 : w2.heap.size < w4.heap.size := by omega
  have H4 : Chg [] w w4 := (H3).trans' k4 (fun x hx => Or.inr (by simp only [List.mem_append] at hx; rcases hx with ((hx | hx) | hx) <;> (first | (have g1 := mg03 _ hx; have g2 := lg03 _ hx; omega) | (have g1 := mg04 _ hx; have g2 := lg04 _ hx; omega) | (have g1 := mg05 _ hx; have g2 := lg05 _ hx; omega))))
  have os03_4 := os03_3.chg k4 (fun x h1 h2 => by simp only [List.mem_append] at h2; rcases h2 with ((h2 | h2) | h2) <;> first | (have g1 := ms03 x h1; have g2 := ls03 x h1; have g3 := mg03 x h2; have g4 := lg03 x h2; omega) | (have g1 := ms03 x h1; have g2 := ls03 x h1; have g3 := mg04 x h2; have g4 := lg04 x h2; omega) | (have g1 := ms03 x h1; have g2 := ls03 x h1; have g3 := mg05 x h2; have g4 := lg05 x h2; omega))
  have os04_4 := os04_3.chg k4 (fun x h1 h2 => by simp only [List.mem_append] at h2; rcases h2 with ((h2 | h2) | h2) <;> first | (have g1 := ms04 x h1; have g2 := ls04 x h1; have g3 := mg03 x h2; have g4 := lg03 x h2; omega) | (have g1 := ms04 x h1; have g2 := ls04 x h1; have g3 := mg04 x h2; have g4 := lg04 x h2; omega) | (have g1 := ms04 x h1; have g2 := ls04 x h1; have g3 := mg05 x h2; have g4 := lg05 x h2; omega))
  have os05_4 := os05_3.chg k4 (fun x h1 h2 => by simp only [List.mem_append] at h2; rcases h2 with ((h2 | h2) | h2) <;> first | (have g1 := ms05 x h1; have g2 := ls05 x h1; have g3 := mg03 x h2; have g4 := lg03 x h2; omega) | (have g1 := ms05 x h1; have g2 := ls05 x h1; have g3 := mg04 x h2; have g4 := lg04 x h2; omega) | (have g1 := ms05 x h1; have g2 := ls05 x h1; have g3 := mg05 x h2; have g4 := lg05 x h2; omega))
  go_wp2_with fail
  refine (heldQueue (k := 1) (nog03.sl (lo := 0) (fun _ _ => Nat.zero_le _) nog03.lt) (nog04.sl (lo := 0) (fun _ _ => Nat.zero_le _) nog04.lt) (nog05.sl (lo := 0) (fun _ _ => Nat.zero_le _) nog05.lt) (Nat.le_refl _) (Nat.le_refl _) (Nat.le_refl _) (by omega) (by omega)).mono ?_
  rintro e w5 ⟨rfl, k5⟩
  have s5 : w4.heap.size + 0 ≤ w5.heap.size := by have := k5.size; omega
  have B0_5 := (k5.at (k := w1.heap.size) (by omega) (by simp)).1
  have Z0_5 : w1.heap.size < w5.heap.size := by omega
  have B1_5 := (k5.at (k := w2.heap.size) (by omega) (by simp)).1
  have Z1_5 : w2.heap.size < w5.heap.size := by omega
  have H5 : Chg [] w w5 := (H4).trans k5
  have os03_5 := os03_4.ext k5
  have os04_5 := os04_4.ext k5
  have os05_5 := os05_4.ext k5
  have og03_5 := nog03.ext k5
  have og04_5 := nog04.ext k5
  have og05_5 := nog05.ext k5
  have y5 : ¬ 1 + (ns03 : Int) + (ns04 : Int) + (ns05 : Int) < 0 := by omega
  go_wp2_with fail
  refine (i_NewQueue a0 a1).mono ?_
  rintro e w6 ⟨vh0, rfl, k6, hh0⟩
  have s6 : w5.heap.size + 0 ≤ w6.heap.size := by have := k6.size; omega
  have B0_6 := (k6.at (k := w1.heap.size) (by omega) (by simp)).1
  have Z0_6 : w1.heap.size < w6.heap.size := by omega
  have B1_6 := (k6.at (k := w2.heap.size) (by omega) (by simp)).1
  have Z1_6 : w2.heap.size < w6.heap.size := by omega
  have H6 : Chg [] w w6 := (H5).trans k6
  have os03_6 := os03_5.ext k6
  have os04_6 := os04_5.ext k6
  have os05_6 := os05_5.ext k6
  have og03_6 := og03_5.ext k6
  have og04_6 := og04_5.ext k6
  have og05_6 := og05_5.ext k6
  obtain ⟨ah03, nh03, ch03, Sh03, ah04, nh04, ch04, Sh04, ah05, nh05, ch05, Sh05, rfl, oh03, mh03, oh04, mh04, oh05, mh05, Dh03_4, Dh03_5, Dh04_5⟩ := hh0
  have lh03 := oh03.lt
  try simp only [World.size_alloc] at mh03
  have lh04 := oh04.lt
  try simp only [World.size_alloc] at mh04
  have lh05 := oh05.lt
  try simp only [World.size_alloc] at mh05
  obtain rfl : ns03 = nh03 := (oh03.same_n os03_6).symm
  obtain rfl : ns04 = nh04 := (oh04.same_n os04_6).symm
  obtain rfl : ns05 = nh05 := (oh05.same_n os05_6).symm
  go_wp2_with fail
  refine (eqQueue ((oh03.ext ((Chg.refl _ _).alloc _)).sl (lo := 0) (fun _ _ => Nat.zero_le _) (oh03.ext ((Chg.refl _ _).alloc _)).lt) ((os03_6.ext ((Chg.refl _ _).alloc _)).sl (lo := 0) (fun _ _ => Nat.zero_le _) (os03_6.ext ((Chg.refl _ _).alloc _)).lt) ((oh04.ext ((Chg.refl _ _).alloc _)).sl (lo := 0) (fun _ _ => Nat.zero_le _) (oh04.ext ((Chg.refl _ _).alloc _)).lt) ((os04_6.ext ((Chg.refl _ _).alloc _)).sl (lo := 0) (fun _ _ => Nat.zero_le _) (os04_6.ext ((Chg.refl _ _).alloc _)).lt) ((oh05.ext ((Chg.refl _ _).alloc _)).sl (lo := 0) (fun _ _ => Nat.zero_le _) (oh05.ext ((Chg.refl _ _).alloc _)).lt) ((os05_6.ext ((Chg.refl _ _).alloc _)).sl (lo := 0) (fun _ _ => Nat.zero_le _) (os05_6.ext ((Chg.refl _ _).alloc _)).lt) (Nat.le_refl _) (Nat.le_refl _)).mono ?_
  rintro e w7 ⟨rfl, k7⟩
  have s7 : w6.heap.size + 1 ≤ w7.heap.size := by have := k7.size; simp only [World.size_alloc] at this; omega
  have B0_7 := (k7.at (k := w1.heap.size) (by simp only [World.size_alloc]; omega) (by simp)).1
  have Z0_7 : w1.heap.size < w7.heap.size := by omega
  have B1_7 := (k7.at (k := w2.heap.size) (by simp only [World.size_alloc]; omega) (by simp)).1
  have Z1_7 : w2.heap.size < w7.heap.size := by omega
  have B2_7 := (k7.at (k := w6.heap.size) (by simp only [World.size_alloc]; omega) (by simp)).1
  have Z2_7 : w6.heap.size < w7.heap.size := by omega
  have H7 : Chg [] w w7 := ((H6).alloc _).trans k7
  have os03_7 := (os03_6.ext ((Chg.refl _ _).alloc _)).ext k7
  have os04_7 := (os04_6.ext ((Chg.refl _ _).alloc _)).ext k7
  have os05_7 := (os05_6.ext ((Chg.refl _ _).alloc _)).ext k7
  have og03_7 := (og03_6.ext ((Chg.refl _ _).alloc _)).ext k7
  have og04_7 := (og04_6.ext ((Chg.refl _ _).alloc _)).ext k7
  have og05_7 := (og05_6.ext ((Chg.refl _ _).alloc _)).ext k7
  have oh03_7 := (oh03.ext ((Chg.refl _ _).alloc _)).ext k7
  have oh04_7 := (oh04.ext ((Chg.refl _ _).alloc _)).ext k7
  have oh05_7 := (oh05.ext ((Chg.refl _ _).alloc _)).ext k7
  go_wp2_with fail
  refine (heldQueue (k := 1) (og03_7.sl (lo := 0) (fun _ _ => Nat.zero_le _) og03_7.lt) (og04_7.sl (lo := 0) (fun _ _ => Nat.zero_le _) og04_7.lt) (og05_7.sl (lo := 0) (fun _ _ => Nat.zero_le _) og05_7.lt) (Nat.le_refl _) (Nat.le_refl _) (Nat.le_refl _) (by omega) (by omega)).mono ?_
  rintro e w8 ⟨rfl, k8⟩
  have s8 : w7.heap.size + 0 ≤ w8.heap.size := by have := k8.size; omega
  have B0_8 := (k8.at (k := w1.heap.size) (by omega) (by simp)).1
  have Z0_8 : w1.heap.size < w8.heap.size := by omega
  have B1_8 := (k8.at (k := w2.heap.size) (by omega) (by simp)).1
  have Z1_8 : w2.heap.size < w8.heap.size := by omega
  have B2_8 := (k8.at (k := w6.heap.size) (by omega) (by simp)).1
  have Z2_8 : w6.heap.size < w8.heap.size := by omega
  have H8 : Chg [] w w8 := (H7).trans k8
  have os03_8 := os03_7.ext k8
  have os04_8 := os04_7.ext k8
  have os05_8 := os05_7.ext k8
  have og03_8 := og03_7.ext k8
  have og04_8 := og04_7.ext k8
  have og05_8 := og05_7.ext k8
  have oh03_8 := oh03_7.ext k8
  have oh04_8 := oh04_7.ext k8
  have oh05_8 := oh05_7.ext k8
  have y8 : ¬ 1 + (ns03 : Int) + (ns04 : Int) + (ns05 : Int) < 0 := by omega
  go_wp2
  go_ret
  exact ⟨rfl, H8⟩
end Go.Proofs.Ytpjaemdoebgpiaa
